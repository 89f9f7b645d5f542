/- Laws of functions: the sheet that bytes begin with, by the program and by the reference. Conditions: the laws of what they call. -/
import Derived.Test.YtaacdckenhnocaaFilmsWvMD
import Derived.Test.YtaacdckenhnocaaFilmsL96
import Derived.Test.YtaacdckenhnocaaFilmsL84
import Derived.Test.YtaacdckenhnocaaFilmsL41
namespace Go.Abs
set_option linter.unusedSimpArgs false
set_option linter.unusedVariables false
set_option maxHeartbeats 8000000
set_option maxRecDepth 20000
def stringslite_HasPrefix_r0 :List SOper :=[
 ⟨some 4,none,.mov (.const (.bool false)),0⟩]
def stringslite_HasPrefix_r1 :List SOper :=[
 ⟨some 5,none,.mov (.tmp 0),0⟩,
 ⟨some 6,none,.len true (.tmp 5),1⟩,
 ⟨some 7,none,.mov (.tmp 1),0⟩,
 ⟨some 8,none,.len true (.tmp 7),4⟩,
 ⟨some 9,none,.bin .geq .other (.tmp 6) (.tmp 8),15⟩,
 ⟨some 10,none,.mov (.tmp 9),31⟩,
  ⟨(some 11),(some (10,true)),.mov (.tmp 0),63⟩,
  ⟨(some 12),(some (10,true)),.mov (.tmp 1),63⟩,
  ⟨(some 13),(some (10,true)),.len true (.tmp 12),191⟩,
  ⟨(some 14),(some (10,true)),.sliceStr (.tmp 11) none (some (.tmp 13)),511⟩,
  ⟨(some 15),(some (10,true)),.mov (.tmp 1),63⟩,
  ⟨(some 16),(some (10,true)),.bin .eql .other (.tmp 14) (.tmp 15),2047⟩,
 ⟨some 17,none,.pick (.tmp 10) (.tmp 16) (.const (.bool false)),4095⟩,
 ⟨some 4,none,.mov (.tmp 17),8191⟩]
def stringslite_HasPrefix :SFunc :=⟨18,[.tmp 4],(.kp [0,1] (.seq (.region stringslite_HasPrefix_r0 false) (.kp [0,1] (.seq (.region stringslite_HasPrefix_r1 false) .ret))))⟩
def strings_HasPrefix_r0 :List SOper :=[
 ⟨some 4,none,.mov (.const (.bool false)),0⟩]
def strings_HasPrefix_r1 (i_stringslite_HasPrefix :FuncId) :List SOper :=[
 ⟨some 5,none,.mov (.tmp 0),0⟩,
 ⟨some 6,none,.mov (.tmp 1),0⟩,
 ⟨some 7,none,.call (.func i_stringslite_HasPrefix) [(.tmp 5),(.tmp 6)],3⟩,
 ⟨some 4,none,.mov (.tmp 7),7⟩]
def strings_HasPrefix (i_stringslite_HasPrefix :FuncId) :SFunc :=⟨8,[.tmp 4],(.kp [0,1] (.seq (.region strings_HasPrefix_r0 false) (.kp [0,1] (.seq (.region (strings_HasPrefix_r1 i_stringslite_HasPrefix) false) .ret))))⟩
def impl_sheetAhead_r0 :List SOper :=[
 ⟨some 2,none,.alloc [(.int .i64 0),(.int .i64 0),(.bool false),(.slice none 0 0),(.slice none 0 0)],0⟩,
 ⟨some 3,none,.mov (.const (.int .i64 0)),0⟩,
 ⟨some 4,none,.mov (.const (.bool false)),2⟩]
def impl_sheetAhead_r1 (i_strings_HasPrefix :FuncId) :List SOper :=[
 ⟨some 13,none,.mov (.tmp 0),0⟩,
 ⟨some 14,none,.len true (.tmp 13),1⟩,
 ⟨some 15,none,.bin .lss .other (.tmp 14) (.const (.int .i64 7)),3⟩,
 ⟨some 16,none,.mov (.tmp 15),7⟩,
  ⟨(some 17),(some (16,false)),.mov (.tmp 0),15⟩,
  ⟨(some 18),(some (16,false)),.call (.func i_strings_HasPrefix) [(.tmp 17),(.const (.string ⟨#[87,65,86,49]⟩))],31⟩,
  ⟨(some 19),(some (16,false)),.un .not (.tmp 18),63⟩,
 ⟨some 20,none,.pick (.tmp 16) (.const (.bool true)) (.tmp 19),127⟩]
def impl_sheetAhead_r2 :List SOper :=[
 ⟨some 21,none,.build [(.int .i64 0),(.int .i64 0),(.bool false),(.slice none 0 0),(.slice none 0 0)] [],0⟩,
 ⟨none,none,.store 5 (.tmp 2) (.tmp 21),1⟩,
 ⟨some 3,none,.mov (.const (.int .i64 0)),3⟩,
 ⟨some 4,none,.mov (.const (.bool false)),7⟩]
def impl_sheetAhead_r3 :List SOper :=[
 ⟨some 22,none,.mov (.tmp 0),0⟩,
 ⟨some 23,none,.indexStr (.tmp 22) (.const (.int .i64 4)),1⟩,
 ⟨some 24,none,.conv (.toInt .i64) (.tmp 23),3⟩,
 ⟨some 25,none,.mov (.tmp 0),0⟩,
 ⟨some 26,none,.indexStr (.tmp 25) (.const (.int .i64 5)),8⟩,
 ⟨some 27,none,.conv (.toInt .i64) (.tmp 26),24⟩,
 ⟨some 28,none,.mov (.tmp 0),0⟩,
 ⟨some 29,none,.indexStr (.tmp 28) (.const (.int .i64 6)),64⟩,
 ⟨some 30,none,.bin .eql .other (.tmp 29) (.const (.int .u8 1)),192⟩,
 ⟨some 31,none,.build [(.int .i64 0),(.int .i64 0),(.bool false),(.slice none 0 0),(.slice none 0 0)] [(0,1,(.tmp 24)),(1,1,(.tmp 27)),(2,1,(.tmp 30))],511⟩,
 ⟨some 5,none,.alloc [(.int .i64 0),(.int .i64 0),(.bool false),(.slice none 0 0),(.slice none 0 0)],0⟩,
 ⟨none,none,.store 5 (.tmp 5) (.tmp 31),2047⟩]
def impl_sheetAhead_r4 :List SOper :=[
 ⟨some 32,none,.fieldAddr 0 (.tmp 5),0⟩,
 ⟨some 33,none,.load1 (.tmp 32),1⟩,
 ⟨some 34,none,.fieldAddr 1 (.tmp 5),0⟩,
 ⟨some 35,none,.load1 (.tmp 34),4⟩,
 ⟨some 36,none,.bin .mul .other (.tmp 33) (.tmp 35),15⟩,
 ⟨some 6,none,.mov (.tmp 36),31⟩]
def impl_sheetAhead_r5 :List SOper :=[
 ⟨some 37,none,.mov (.tmp 6),0⟩,
 ⟨some 38,none,.bin .mul .other (.const (.int .i64 8)) (.tmp 37),1⟩,
 ⟨some 39,none,.bin .add .other (.const (.int .i64 7)) (.tmp 38),3⟩,
 ⟨some 7,none,.mov (.tmp 39),7⟩]
def impl_sheetAhead_r6 :List SOper :=[
 ⟨some 40,none,.mov (.tmp 0),0⟩,
 ⟨some 41,none,.indexStr (.tmp 40) (.const (.int .i64 6)),1⟩,
 ⟨some 42,none,.bin .gtr .other (.tmp 41) (.const (.int .u8 1)),3⟩,
 ⟨some 43,none,.mov (.tmp 42),7⟩,
  ⟨(some 44),(some (43,false)),.mov (.tmp 0),15⟩,
  ⟨(some 45),(some (43,false)),.len true (.tmp 44),31⟩,
  ⟨(some 46),(some (43,false)),.mov (.tmp 7),15⟩,
  ⟨(some 47),(some (43,false)),.bin .lss .other (.tmp 45) (.tmp 46),127⟩,
 ⟨some 48,none,.pick (.tmp 43) (.const (.bool true)) (.tmp 47),255⟩]
def impl_sheetAhead_r7 :List SOper :=[
 ⟨some 49,none,.build [(.int .i64 0),(.int .i64 0),(.bool false),(.slice none 0 0),(.slice none 0 0)] [],0⟩,
 ⟨none,none,.store 5 (.tmp 2) (.tmp 49),1⟩,
 ⟨some 3,none,.mov (.const (.int .i64 0)),3⟩,
 ⟨some 4,none,.mov (.const (.bool false)),7⟩]
def impl_sheetAhead_r8 :List SOper :=[
 ⟨some 50,none,.mov (.tmp 6),0⟩,
 ⟨some 51,none,.mov (.const (.int .i64 0)),0⟩]
def impl_sheetAhead_r9 :List SOper :=[
 ⟨some 52,none,.bin .lss .other (.tmp 51) (.tmp 50),0⟩]
def impl_sheetAhead_r10 :List SOper :=[
 ⟨some 53,none,.mov (.tmp 51),0⟩,
 ⟨some 8,none,.mov (.tmp 53),1⟩]
def impl_sheetAhead_r11 (i_impl_lowNumber i_impl_FromBits :FuncId) :List SOper :=[
 ⟨some 55,none,.mov (.tmp 0),0⟩,
 ⟨some 56,none,.mov (.tmp 8),0⟩,
 ⟨some 57,none,.bin .mul .other (.const (.int .i64 4)) (.tmp 56),2⟩,
 ⟨some 58,none,.bin .add .other (.const (.int .i64 7)) (.tmp 57),6⟩,
 ⟨some 59,none,.mov (.tmp 8),0⟩,
 ⟨some 60,none,.bin .mul .other (.const (.int .i64 4)) (.tmp 59),16⟩,
 ⟨some 61,none,.bin .add .other (.const (.int .i64 11)) (.tmp 60),48⟩,
 ⟨some 62,none,.sliceStr (.tmp 55) (some (.tmp 58)) (some (.tmp 61)),127⟩,
 ⟨some 63,none,.call (.func i_impl_lowNumber) [(.tmp 62)],255⟩,
 ⟨some 64,none,.call (.func i_impl_FromBits) [(.tmp 63)],511⟩,
 ⟨some 54,none,.mov (.tmp 64),1023⟩,
 ⟨some 65,none,.extract (.tmp 54) 0,2047⟩,
 ⟨some 66,none,.extract (.tmp 54) 1,2047⟩,
 ⟨some 9,none,.mov (.tmp 65),4095⟩,
 ⟨some 10,none,.mov (.tmp 66),16383⟩]
def impl_sheetAhead_r12 (i_impl_lowNumber i_impl_FromBits :FuncId) :List SOper :=[
 ⟨some 68,none,.mov (.tmp 0),0⟩,
 ⟨some 69,none,.mov (.tmp 6),0⟩,
 ⟨some 70,none,.mov (.tmp 8),0⟩,
 ⟨some 71,none,.bin .add .other (.tmp 69) (.tmp 70),6⟩,
 ⟨some 72,none,.bin .mul .other (.const (.int .i64 4)) (.tmp 71),14⟩,
 ⟨some 73,none,.bin .add .other (.const (.int .i64 7)) (.tmp 72),30⟩,
 ⟨some 74,none,.mov (.tmp 6),0⟩,
 ⟨some 75,none,.mov (.tmp 8),0⟩,
 ⟨some 76,none,.bin .add .other (.tmp 74) (.tmp 75),192⟩,
 ⟨some 77,none,.bin .mul .other (.const (.int .i64 4)) (.tmp 76),448⟩,
 ⟨some 78,none,.bin .add .other (.const (.int .i64 11)) (.tmp 77),960⟩,
 ⟨some 79,none,.sliceStr (.tmp 68) (some (.tmp 73)) (some (.tmp 78)),2047⟩,
 ⟨some 80,none,.call (.func i_impl_lowNumber) [(.tmp 79)],4095⟩,
 ⟨some 81,none,.call (.func i_impl_FromBits) [(.tmp 80)],8191⟩,
 ⟨some 67,none,.mov (.tmp 81),16383⟩,
 ⟨some 82,none,.extract (.tmp 67) 0,32767⟩,
 ⟨some 83,none,.extract (.tmp 67) 1,32767⟩,
 ⟨some 11,none,.mov (.tmp 82),65535⟩,
 ⟨some 12,none,.mov (.tmp 83),262143⟩]
def impl_sheetAhead_r13 :List SOper :=[
 ⟨some 84,none,.fieldAddr 3 (.tmp 5),0⟩,
 ⟨some 85,none,.load1 (.tmp 84),1⟩,
 ⟨some 86,none,.mov (.tmp 9),0⟩,
 ⟨some 87,none,.buildSlice 1 1 [(.float .f32 0)] [(0,1,(.tmp 86))],4⟩,
 ⟨some 88,none,.append 1 4 (.tmp 85) (.tmp 87),15⟩,
 ⟨some 89,none,.fieldAddr 4 (.tmp 5),0⟩,
 ⟨some 90,none,.load1 (.tmp 89),32⟩,
 ⟨some 91,none,.mov (.tmp 11),0⟩,
 ⟨some 92,none,.buildSlice 1 1 [(.float .f32 0)] [(0,1,(.tmp 91))],128⟩,
 ⟨some 93,none,.append 1 4 (.tmp 90) (.tmp 92),511⟩,
 ⟨some 94,none,.fieldAddr 3 (.tmp 5),127⟩,
 ⟨none,none,.store 1 (.tmp 94) (.tmp 88),2047⟩,
 ⟨some 95,none,.fieldAddr 4 (.tmp 5),4095⟩,
 ⟨none,none,.store 1 (.tmp 95) (.tmp 93),8191⟩]
def impl_sheetAhead_r14 :List SOper :=[
 ⟨some 96,none,.bin .add .other (.tmp 51) (.const (.int .i64 1)),0⟩,
 ⟨some 51,none,.mov (.tmp 96),1⟩]
def impl_sheetAhead_l15 (i_impl_lowNumber i_impl_FromBits :FuncId) :SCode :=(.kp [0,2,5,6,7,50,51] (.seq (.region impl_sheetAhead_r9 false) (.kp [0,2,5,6,7,50,51,52] (.seq (.cond (.tmp 52) .skip (.exit 0)) (.kp [0,2,5,6,7,50,51] (.seq (.block 1 (.seq (.region impl_sheetAhead_r10 false) (.kp [0,2,5,6,7,8,50,51] (.seq (.region (impl_sheetAhead_r11 i_impl_lowNumber i_impl_FromBits) false) (.kp [0,2,5,6,7,8,9,50,51] (.seq (.region (impl_sheetAhead_r12 i_impl_lowNumber i_impl_FromBits) false) (.kp [0,2,5,6,7,9,11,50,51] (.region impl_sheetAhead_r13 true)))))))) (.kp [0,2,5,6,7,50,51] (.region impl_sheetAhead_r14 false))))))))
def impl_sheetAhead_r16 (i_impl_ValidSheet i_impl_sheetBytes :FuncId) :List SOper :=[
 ⟨some 97,none,.loadN 5 (.tmp 5),0⟩,
 ⟨some 98,none,.call (.func i_impl_ValidSheet) [(.tmp 97)],1⟩,
 ⟨some 99,none,.un .not (.tmp 98),3⟩,
 ⟨some 100,none,.mov (.tmp 99),7⟩,
  ⟨(some 101),(some (100,false)),.loadN 5 (.tmp 5),15⟩,
  ⟨(some 102),(some (100,false)),.call (.func i_impl_sheetBytes) [(.tmp 101)],31⟩,
  ⟨(some 103),(some (100,false)),.conv .toStr (.tmp 102),63⟩,
  ⟨(some 104),(some (100,false)),.mov (.tmp 0),15⟩,
  ⟨(some 105),(some (100,false)),.mov (.tmp 7),15⟩,
  ⟨(some 106),(some (100,false)),.sliceStr (.tmp 104) none (some (.tmp 105)),399⟩,
  ⟨(some 107),(some (100,false)),.bin .neq .other (.tmp 103) (.tmp 106),1023⟩,
 ⟨some 108,none,.pick (.tmp 100) (.const (.bool true)) (.tmp 107),2047⟩]
def impl_sheetAhead_r17 :List SOper :=[
 ⟨some 109,none,.build [(.int .i64 0),(.int .i64 0),(.bool false),(.slice none 0 0),(.slice none 0 0)] [],0⟩,
 ⟨none,none,.store 5 (.tmp 2) (.tmp 109),1⟩,
 ⟨some 3,none,.mov (.const (.int .i64 0)),3⟩,
 ⟨some 4,none,.mov (.const (.bool false)),7⟩]
def impl_sheetAhead_r18 :List SOper :=[
 ⟨some 110,none,.loadN 5 (.tmp 5),0⟩,
 ⟨some 111,none,.mov (.tmp 7),0⟩,
 ⟨none,none,.store 5 (.tmp 2) (.tmp 110),1⟩,
 ⟨some 3,none,.mov (.tmp 111),7⟩,
 ⟨some 4,none,.mov (.const (.bool true)),15⟩]
def impl_sheetAhead (i_strings_HasPrefix i_impl_lowNumber i_impl_FromBits i_impl_ValidSheet i_impl_sheetBytes :FuncId) :SFunc :=⟨112,[.cellN 2 5,.tmp 3,.tmp 4],(.kp [0] (.seq (.region impl_sheetAhead_r0 false) (.kp [0,2] (.seq (.seq (.region (impl_sheetAhead_r1 i_strings_HasPrefix) false) (.kp [0,2,20] (.cond (.tmp 20) (.seq (.region impl_sheetAhead_r2 false) .ret) .skip))) (.kp [0,2] (.seq (.region impl_sheetAhead_r3 true) (.kp [0,2,5] (.seq (.region impl_sheetAhead_r4 false) (.kp [0,2,5,6] (.seq (.region impl_sheetAhead_r5 false) (.kp [0,2,5,6,7] (.seq (.seq (.region impl_sheetAhead_r6 false) (.kp [0,2,5,6,7,48] (.cond (.tmp 48) (.seq (.region impl_sheetAhead_r7 false) .ret) .skip))) (.kp [0,2,5,6,7] (.seq (.seq (.region impl_sheetAhead_r8 false) (.kp [0,2,5,6,7,50,51] (.block 0 (.loop (impl_sheetAhead_l15 i_impl_lowNumber i_impl_FromBits))))) (.kp [0,2,5,7] (.seq (.seq (.region (impl_sheetAhead_r16 i_impl_ValidSheet i_impl_sheetBytes) true) (.kp [2,5,7,108] (.cond (.tmp 108) (.seq (.region impl_sheetAhead_r17 false) .ret) .skip))) (.kp [2,5,7] (.seq (.region impl_sheetAhead_r18 false) .ret))))))))))))))))))⟩
theorem impl_sheetAhead_r3_dr :drawOkW wStat impl_sheetAhead_r3=true :=by kernel_rfl
attribute [push_cast] impl_sheetAhead_r3_dr
theorem impl_sheetAhead_r13_dr :(drawOkF 8 impl_sheetAhead_r13 && fltChk impl_sheetAhead_r13 8 9)=true :=by kernel_rfl
theorem impl_sheetAhead_r16_dr {i_impl_ValidSheet i_impl_sheetBytes :FuncId} :drawOkW wStat (impl_sheetAhead_r16 i_impl_ValidSheet i_impl_sheetBytes)=true :=by kernel_rfl
attribute [push_cast] impl_sheetAhead_r16_dr
attribute [push_cast] Option.map_none
def HasPrefix_ok (c :Contract) :Prop :=∀ (σ :Heap)(s p :List UInt8),s.length ≤ 1048576→p.length ≤ 1048576→Ret c [.string (str s),.string (str p)] σ fun v σ' =>v = .bool (decide (p.length ≤ s.length) && decide (s.take p.length=p))∧σ'=σ
abbrev stringslite_HasPrefix_ok :=HasPrefix_ok
abbrev strings_HasPrefix_ok :=HasPrefix_ok
theorem stringslite_HasPrefix_law {C :Ctab} :stringslite_HasPrefix_ok (gcC C stringslite_HasPrefix true) :=by
 intro σ s p h1 h2
 by_cases h :p.length ≤ s.length
 ·refine ret_gc rfl rfl ?_
  repeat' (first | refine ff ?_ | ((first | refine sR ?_ ?_ | refine sC ?_ ?_) <;> (intro hb;(try rw [hb]);(try simp only [bb] at hb);(try (exfalso;first | omega | exact hb trivial)))) | (apply endS trivial;rotate_left;(· exact eva);(· rfl);try refine⟨?_,rfl⟩) | fail)
  rw [str_toList,str_toList,decide_eq_true h,Bool.true_and]
  congr 1
  rw [Bool.eq_iff_iff]
  simp
 ·refine ret_gc rfl rfl ?_
  repeat' (first | refine ff ?_ | ((first | refine sR ?_ ?_ | refine sC ?_ ?_) <;> (intro hb;(try rw [hb]);(try simp only [bb] at hb);(try (exfalso;first | omega | exact hb trivial)))) | (apply endS trivial;rotate_left;(· exact eva);(· rfl);try refine⟨?_,rfl⟩) | fail)
  all_goals simp [h]
theorem strings_HasPrefix_law {C :Ctab}{i1 :FuncId}{c1 :Contract}(h1 :Has C i1 c1 stringslite_HasPrefix_ok) :strings_HasPrefix_ok (gcC C (strings_HasPrefix i1) true) :=by
 intro σ s p g1 g2
 refine ret_gc rfl rfl ?_
 repeat' (first | refine ff ?_ | (apply EvR.aCall h1.at_;(· exact eva);(· apply h1.ok <;> exact sid);(rintro _ _ ⟨rfl,rfl⟩;refine EvR.nrm ?_)) | ((first | refine sR ?_ ?_ | refine sC ?_ ?_) <;> (intro hb;(try rw [hb]);(try simp only [bb] at hb);(try (exfalso;first | omega | exact hb trivial)))) | (apply endS trivial;rotate_left;(· exact eva);(· rfl);try refine⟨?_,rfl⟩) | fail)
 all_goals rfl
def wavB :List UInt8 :=[87,65,86,49]
def byAt (s :List UInt8)(i :Nat) :Nat :=(s.getD i 0).toNat
theorem byAt_lt (s :List UInt8)(i :Nat) :byAt s i < 256 :=UInt8.toNat_lt _
def numAt (s :List UInt8)(p :Nat) :Nat :=numB ((s.drop p).take 4)
theorem numAt_lt (s :List UInt8)(p :Nat) :numAt s p < 4294967296 :=numB4 s p
def numsAt (s :List UInt8)(p n :Nat) :List Nat :=(List.range n).map fun i =>numAt s (p+4 * i)
theorem numsAt_length (s :List UInt8)(p n :Nat) :(numsAt s p n).length=n :=by simp [numsAt]
theorem numsAt_succ (s :List UInt8)(p n :Nat) :numsAt s p (n+1)=numsAt s p n++[numAt s (p+4 * n)] :=by simp [numsAt,List.range_succ]
theorem numsAt_lt (s :List UInt8)(p n :Nat) :in32L (numsAt s p n) :=fun x hx =>by
 obtain⟨i,_,rfl⟩ :=List.mem_map.1 hx
 exact numAt_lt s _
def shWr (s :List UInt8) :Bool :=decide (((byAt s 6 :Nat) :Int)=1)
def shN (s :List UInt8) :Nat :=byAt s 4 * byAt s 5
def shSp (s :List UInt8) :List Nat :=numsAt s 7 (shN s)
def shLo (s :List UInt8) :List Nat :=numsAt s (7+4 * shN s) (shN s)
def shEnd (s :List UInt8) :Nat :=7+8 * shN s
theorem byAt_def (s :List UInt8)(i :Nat) :(s.getD i 0).toNat=byAt s i :=by simp only [byAt]
theorem shN_def (s :List UInt8) :((byAt s 4 :Nat) :Int) * ((byAt s 5 :Nat) :Int)=((shN s :Nat) :Int) :=(Int.natCast_mul _ _).symm
theorem shN_le (s :List UInt8) :shN s ≤ 65025 :=Nat.mul_le_mul (show byAt s 4 ≤ 255 by have :=byAt_lt s 4;omega) (show byAt s 5 ≤ 255 by have :=byAt_lt s 5;omega)
theorem toNat4 :Int.toNat 4=4 :=rfl
theorem toNat5 :Int.toNat 5=5 :=rfl
theorem toNat6 :Int.toNat 6=6 :=rfl
attribute [push_cast] byAt_def shN_def toNat4 toNat5 toNat6
def ahOk (s :List UInt8) :Bool :=
 decide (7 ≤ s.length) && decide (s.take 4=wavB) && decide (byAt s 6 ≤ 1) && decide (shEnd s ≤ s.length) && isSheet (byAt s 4) (byAt s 5) (shSp s) (shLo s) && decide (shB (byAt s 4) (byAt s 5) (shWr s) (shSp s) (shLo s)=s.take (shEnd s))
def ahRes (s :List UInt8)(σ σ' :Heap)(v :Value) :Prop :=
 bif ahOk s then v = .tuple #[shV (byAt s 4) (byAt s 5) (shWr s) (slV σ.length (shN s)) (slV (σ.length+1) (shN s)),.int .i64 (shEnd s :Nat),.bool true]∧σ'=σ++[rowO (shSp s),rowO (shLo s)]
 else v = .tuple #[shV 0 0 false (.slice none 0 0) (.slice none 0 0),.int .i64 0,.bool false]∧σ'=σ
theorem ahRes_t {s :List UInt8}{σ σ' :Heap}{v :Value}(h :ahOk s=true)(h1 :v = .tuple #[shV (byAt s 4) (byAt s 5) (shWr s) (slV σ.length (shN s)) (slV (σ.length+1) (shN s)),.int .i64 (shEnd s :Nat),.bool true])(h2 :σ'=σ++[rowO (shSp s),rowO (shLo s)]) :ahRes s σ σ' v :=by
 unfold ahRes;rw [h];exact⟨h1,h2⟩
theorem ahRes_f {s :List UInt8}{σ σ' :Heap}{v :Value}(h :ahOk s=false)(h1 :v = .tuple #[shV 0 0 false (.slice none 0 0) (.slice none 0 0),.int .i64 0,.bool false])(h2 :σ'=σ) :ahRes s σ σ' v :=by
 unfold ahRes;rw [h];exact⟨h1,h2⟩
theorem fvN_zero {b i :Nat}(h :i=0) :fvN b i = .slice none 0 0 :=by subst h;rfl
theorem fvN_pos {b i :Nat}(h :0 < i) :fvN b i=slV b i :=by
 cases i with
 | zero =>omega
 | succ i =>rfl
def impl_sheetAhead_ok (c :Contract) :Prop :=∀ (σ :Heap)(s :List UInt8),s.length ≤ 1048576→Ret c [.string (str s)] σ fun v σ' =>ahRes s σ σ' v
theorem impl_sheetAhead_law {C :Ctab}{i1 i2 i3 i4 i5 :FuncId}{c1 c2 c3 c4 c5 :Contract}(h1 :Has C i1 c1 strings_HasPrefix_ok)(h2 :Has C i2 c2 impl_lowNumber_ok)(h3 :Has C i3 c3 impl_FromBits_ok)(h4 :Has C i4 c4 impl_ValidSheet_ok)(h5 :Has C i5 c5 impl_sheetBytes_ok) :
 impl_sheetAhead_ok (gcC C (impl_sheetAhead i1 i2 i3 i4 i5) true) :=by
 intro σ s hs
 by_cases hl :7 ≤ s.length
 ·have hpre :(decide (wavB.length ≤ s.length) && decide (List.take wavB.length s=wavB))=decide (s.take 4=wavB) :=by
   rw [show wavB.length=4 from rfl,decide_eq_true (show 4 ≤ s.length by omega)];rfl
  cases hw :decide (s.take 4=wavB)
  ·rw [hw] at hpre
   have hok :ahOk s=false :=by unfold ahOk;rw [hw];simp
   refine ret_gc rfl rfl ?_
   repeat' (first | refine ff ?_ | ((first | refine sR ?_ ?_ | refine sC ?_ ?_) <;> (intro hb;(try rw [hb]);(try simp only [bb] at hb);(try (exfalso;first | omega | exact hb trivial)))) | (apply endS trivial;rotate_left;(· exact eva);(· rfl);try refine⟨?_,rfl⟩) | fail)
   (apply EvR.aCall h1.at_;(· exact eva);(· exact  h1.ok _ s wavB (by omega) (by decide));(rintro _ _ ⟨rfl,rfl⟩;refine EvR.nrm ?_))
   rw [hpre]
   repeat' (first | refine ff ?_ | ((first | refine sR ?_ ?_ | refine sC ?_ ?_) <;> (intro hb;(try rw [hb]);(try simp only [bb] at hb);(try (exfalso;first | omega | exact hb trivial)))) | (apply endS trivial;rotate_left;(· exact eva);(· rfl);try refine⟨?_,rfl⟩) | fail)
   exact ahRes_f hok rfl rfl
  ·rw [hw] at hpre
   have b4 :=byAt_lt s 4
   have b5 :=byAt_lt s 5
   have b6 :=byAt_lt s 6
   have e6 :(s.getD 6 0).toNat=byAt s 6 :=rfl
   have hN2 :=shN_le s
   have hok0 :ahOk s=(decide (byAt s 6 ≤ 1) && decide (shEnd s ≤ s.length) && isSheet (byAt s 4) (byAt s 5) (shSp s) (shLo s) && decide (shB (byAt s 4) (byAt s 5) (shWr s) (shSp s) (shLo s)=s.take (shEnd s))) :=by
    unfold ahOk;rw [hw,decide_eq_true hl];rfl
   have eN :shEnd s=7+8 * shN s :=rfl
   rcases Nat.lt_or_ge 1 (byAt s 6) with h6 | h6
   ·have hok :ahOk s=false :=by rw [hok0,decide_eq_false (show ¬ byAt s 6 ≤ 1 by omega)];rfl
    refine ret_gc rfl rfl ?_
    repeat' (first | refine ff ?_ | ((first | refine sR ?_ ?_ | refine sC ?_ ?_) <;> (intro hb;(try rw [hb]);(try simp only [bb] at hb);(try (exfalso;first | omega | exact hb trivial)))) | (apply endS trivial;rotate_left;(· exact eva);(· rfl);try refine⟨?_,rfl⟩) | fail)
    (apply EvR.aCall h1.at_;(· exact eva);(· exact  h1.ok _ s wavB (by omega) (by decide));(rintro _ _ ⟨rfl,rfl⟩;refine EvR.nrm ?_))
    rw [hpre]
    repeat' (first | refine ff ?_ | ((first | refine sR ?_ ?_ | refine sC ?_ ?_) <;> (intro hb;(try rw [hb]);(try simp only [bb] at hb);(try (exfalso;first | omega | exact hb trivial)))) | (apply endS trivial;rotate_left;(· exact eva);(· rfl);try refine⟨?_,rfl⟩) | fail)
    exact ahRes_f hok rfl rfl
   rw [decide_eq_true h6,Bool.true_and] at hok0
   rcases Nat.lt_or_ge s.length (shEnd s) with hE | hE
   ·have hok :ahOk s=false :=by rw [hok0,decide_eq_false (show ¬ shEnd s ≤ s.length by omega)];rfl
    refine ret_gc rfl rfl ?_
    repeat' (first | refine ff ?_ | ((first | refine sR ?_ ?_ | refine sC ?_ ?_) <;> (intro hb;(try rw [hb]);(try simp only [bb] at hb);(try (exfalso;first | omega | exact hb trivial)))) | (apply endS trivial;rotate_left;(· exact eva);(· rfl);try refine⟨?_,rfl⟩) | fail)
    (apply EvR.aCall h1.at_;(· exact eva);(· exact  h1.ok _ s wavB (by omega) (by decide));(rintro _ _ ⟨rfl,rfl⟩;refine EvR.nrm ?_))
    rw [hpre]
    repeat' (first | refine ff ?_ | ((first | refine sR ?_ ?_ | refine sC ?_ ?_) <;> (intro hb;(try rw [hb]);(try simp only [bb] at hb);(try (exfalso;first | omega | exact hb trivial)))) | (apply endS trivial;rotate_left;(· exact eva);(· rfl);try refine⟨?_,rfl⟩) | fail)
    exact ahRes_f hok rfl rfl
   rw [decide_eq_true hE,Bool.true_and] at hok0
   refine ret_gc rfl rfl ?_
   repeat' (first | refine ff ?_ | ((first | refine sR ?_ ?_ | refine sC ?_ ?_) <;> (intro hb;(try rw [hb]);(try simp only [bb] at hb);(try (exfalso;first | omega | exact hb trivial)))) | (apply endS trivial;rotate_left;(· exact eva);(· rfl);try refine⟨?_,rfl⟩) | fail)
   (apply EvR.aCall h1.at_;(· exact eva);(· exact  h1.ok _ s wavB (by omega) (by decide));(rintro _ _ ⟨rfl,rfl⟩;refine EvR.nrm ?_))
   rw [hpre]
   repeat' (first | refine ff ?_ | ((first | refine sR ?_ ?_ | refine sC ?_ ?_) <;> (intro hb;(try rw [hb]);(try simp only [bb] at hb);(try (exfalso;first | omega | exact hb trivial)))) | (apply endS trivial;rotate_left;(· exact eva);(· rfl);try refine⟨?_,rfl⟩) | fail)
   have eS :shSp s=numsAt s 7 (shN s) :=rfl
   have eL :shLo s=numsAt s (7+4 * shN s) (shN s) :=rfl
   have eW :∀ inst :Decidable ((byAt s 6 :Int)=1),@decide _ inst=shWr s :=fun _ =>by unfold shWr;congr
   rw [eW]
   rw [eS,eL] at hok0
   obtain⟨N,hN⟩ :∃ N,shN s=N :=⟨_,rfl⟩
   rw [hN] at hN2 eN eS eL hok0 ⊢
   refine Ev.whlH (S :=Nat × Heap) (fun st =>N - st.1) (fun st =>[(51,.int .i64 st.1)])
    (fun st =>σ++(⟨[.int .i64 0,.int .i64 0,.bool false,.slice none 0 0,.slice none 0 0],0,true⟩::⟨[.int .i64 (byAt s 4),.int .i64 (byAt s 5),.bool (shWr s),fvN (σ.length+3) st.1,fvN (σ.length+5) st.1],0,true⟩::st.2))
    (fun st =>st.1 ≤ N∧(st.1=0→st.2=[])∧(0 < st.1 → ∃ t1 t2 rub,st.2=t1::rowO (numsAt s 7 st.1)::t2::rowO (numsAt s (7+4 * N) st.1)::rub))
    (0,[]) (by exact tF) rfl ⟨Nat.zero_le _,fun _ =>rfl,fun h =>absurd h (Nat.lt_irrefl 0)⟩ ?_
   rintro⟨i,R⟩ F hF ⟨hi,hz,hp⟩
   dsimp only at hi hF hz hp ⊢
   (simp only [List.cons_append,List.nil_append,↓fget_cons,fkeep_cons,fkeep_nil,Nat.reduceEqDiff,reduceIte] at hF;subst hF)
   by_cases hlt :i < N
   ·obtain⟨l1,hl1⟩ :∃ l1,l1=(s.drop (7+4 * i)).take 4 :=⟨_,rfl⟩
    have hl1n :l1.length=4 :=by rw [hl1,List.length_take,List.length_drop];omega
    have es1 :(s.take (11+4 * (i :Int)).toNat).drop (7+4 * (i :Int)).toNat=l1 :=by rw [hl1,show (11+4 * (i :Int)).toNat=7+4 * i+4 from by omega,show (7+4 * (i :Int)).toNat=7+4 * i from by omega,List.drop_take];congr 1;omega
    obtain⟨v1,hv1⟩ :∃ v,v=numAt s (7+4 * i) :=⟨_,rfl⟩
    have ev1 :numB l1=v1 :=by rw [hl1,hv1];rfl
    have ev1' :v1 < 4294967296 :=by rw [hv1];exact numAt_lt s _
    obtain⟨l2,hl2⟩ :∃ l2,l2=(s.drop (7+4 * N+4 * i)).take 4 :=⟨_,rfl⟩
    have hl2n :l2.length=4 :=by rw [hl2,List.length_take,List.length_drop];omega
    have es2 :(s.take (11+4 * ((N :Int)+(i :Int))).toNat).drop (7+4 * ((N :Int)+(i :Int))).toNat=l2 :=by rw [hl2,show (11+4 * ((N :Int)+(i :Int))).toNat=7+4 * N+4 * i+4 from by omega,show (7+4 * ((N :Int)+(i :Int))).toNat=7+4 * N+4 * i from by omega,List.drop_take];congr 1;omega
    obtain⟨v2,hv2⟩ :∃ v,v=numAt s (7+4 * N+4 * i) :=⟨_,rfl⟩
    have ev2 :numB l2=v2 :=by rw [hl2,hv2];rfl
    have ev2' :v2 < 4294967296 :=by rw [hv2];exact numAt_lt s _
    have hs1 :=numsAt_succ s 7 i
    have hs2 :=numsAt_succ s (7+4 * N) i
    rw [← hv1] at hs1
    rw [← hv2] at hs2
    rcases Nat.eq_zero_or_pos i with h0 | hpos
    ·obtain rfl :R=[] :=hz h0
     rw [fvN_zero h0,fvN_zero h0]
     repeat' (first | refine ff ?_ | ((first | refine sR ?_ ?_ | refine sC ?_ ?_) <;> (intro hb;(try rw [hb]);(try simp only [bb] at hb);(try (exfalso;first | omega | exact hb trivial)))) | (apply endS trivial;rotate_left;(· exact eva);(· rfl);try refine⟨?_,rfl⟩) | fail)
     rw [es1]
     (apply EvR.aCall h2.at_;(· exact eva);(· exact  h2.ok _ l1 hl1n);(rintro _ _ ⟨rfl,rfl⟩;refine EvR.nrm ?_))
     rw [ev1]
     repeat' (first | refine ff ?_ | ((first | refine sR ?_ ?_ | refine sC ?_ ?_) <;> (intro hb;(try rw [hb]);(try simp only [bb] at hb);(try (exfalso;first | omega | exact hb trivial)))) | (apply endS trivial;rotate_left;(· exact eva);(· rfl);try refine⟨?_,rfl⟩) | fail)
     (apply EvR.aCall h3.at_;(· exact eva);(· exact  h3.ok _ _ ev1');(rintro _ _ ⟨rfl,rfl⟩;refine EvR.nrm ?_))
     repeat' (first | refine ff ?_ | ((first | refine sR ?_ ?_ | refine sC ?_ ?_) <;> (intro hb;(try rw [hb]);(try simp only [bb] at hb);(try (exfalso;first | omega | exact hb trivial)))) | (apply endS trivial;rotate_left;(· exact eva);(· rfl);try refine⟨?_,rfl⟩) | fail)
     rw [es2]
     (apply EvR.aCall h2.at_;(· exact eva);(· exact  h2.ok _ l2 hl2n);(rintro _ _ ⟨rfl,rfl⟩;refine EvR.nrm ?_))
     rw [ev2]
     repeat' (first | refine ff ?_ | ((first | refine sR ?_ ?_ | refine sC ?_ ?_) <;> (intro hb;(try rw [hb]);(try simp only [bb] at hb);(try (exfalso;first | omega | exact hb trivial)))) | (apply endS trivial;rotate_left;(· exact eva);(· rfl);try refine⟨?_,rfl⟩) | fail)
     (apply EvR.aCall h3.at_;(· exact eva);(· exact  h3.ok _ _ ev2');(rintro _ _ ⟨rfl,rfl⟩;refine EvR.nrm ?_))
     repeat' (first | refine ff ?_ | ((first | refine sR ?_ ?_ | refine sC ?_ ?_) <;> (intro hb;(try rw [hb]);(try simp only [bb] at hb);(try (exfalso;first | omega | exact hb trivial)))) | (apply endS trivial;rotate_left;(· exact eva);(· rfl);try refine⟨?_,rfl⟩) | fail)
     refine Ev.rF (σ.length+1) impl_sheetAhead_r13_dr (by simp only [List.length_append,List.length_cons];omega) ?_ ?_
     ·repeat' (first | refine ff ?_ | ((first | refine sR ?_ ?_ | refine sC ?_ ?_) <;> (intro hb;(try rw [hb]);(try simp only [bb] at hb);(try (exfalso;first | omega | exact hb trivial)))) | (apply endS trivial;rotate_left;(· exact eva);(· rfl);try refine⟨?_,rfl⟩) | fail)
      refine⟨⟨?_,?_,trivial⟩,⟨?_,?_,trivial⟩,?_⟩
      ·simp only [↓fget_cons,push_cast,Nat.reduceEqDiff,reduceIte];rfl
      ·simp only [↓fget_cons,push_cast,Nat.reduceEqDiff,reduceIte];rfl
      ·simp only [↓fget_cons,push_cast,Nat.reduceEqDiff,reduceIte];first | exact trivial | (show _ ≠ _;dsimp only;omega)
      ·simp only [↓fget_cons,push_cast,Nat.reduceEqDiff,reduceIte];first | exact trivial | (show _ ≠ _;dsimp only;omega)
      ·simp only [↓fget_cons,push_cast,Nat.reduceEqDiff,reduceIte];exact⟨_,rfl⟩
     repeat' (first | refine ff ?_ | ((first | refine sR ?_ ?_ | refine sC ?_ ?_) <;> (intro hb;(try rw [hb]);(try simp only [bb] at hb);(try (exfalso;first | omega | exact hb trivial)))) | (apply endS trivial;rotate_left;(· exact eva);(· rfl);try refine⟨?_,rfl⟩) | fail)
     exact⟨(i+1,[⟨[.float .f32 v1],1,true⟩,⟨[.float .f32 v1],1,true⟩,⟨[.float .f32 v2],1,true⟩,⟨[.float .f32 v2],1,true⟩]),by dsimp only;omega,by exact tF,by dsimp only;rw [fvN_pos (by omega),fvN_pos (by omega),h0],by dsimp only;omega,fun h =>absurd h (by dsimp only;omega),fun _ =>by
      dsimp only
      rw [hs1,hs2,h0]
      exact⟨_,_,_,rfl⟩⟩
    ·obtain⟨t1,t2,rub,rfl⟩ :=hp hpos
     have hn1 :=numsAt_length s 7 i
     have hn2 :=numsAt_length s (7+4 * N) i
     rw [fvN_pos hpos,fvN_pos hpos]
     repeat' (first | refine ff ?_ | ((first | refine sR ?_ ?_ | refine sC ?_ ?_) <;> (intro hb;(try rw [hb]);(try simp only [bb] at hb);(try (exfalso;first | omega | exact hb trivial)))) | (apply endS trivial;rotate_left;(· exact eva);(· rfl);try refine⟨?_,rfl⟩) | fail)
     rw [es1]
     (apply EvR.aCall h2.at_;(· exact eva);(· exact  h2.ok _ l1 hl1n);(rintro _ _ ⟨rfl,rfl⟩;refine EvR.nrm ?_))
     rw [ev1]
     repeat' (first | refine ff ?_ | ((first | refine sR ?_ ?_ | refine sC ?_ ?_) <;> (intro hb;(try rw [hb]);(try simp only [bb] at hb);(try (exfalso;first | omega | exact hb trivial)))) | (apply endS trivial;rotate_left;(· exact eva);(· rfl);try refine⟨?_,rfl⟩) | fail)
     (apply EvR.aCall h3.at_;(· exact eva);(· exact  h3.ok _ _ ev1');(rintro _ _ ⟨rfl,rfl⟩;refine EvR.nrm ?_))
     repeat' (first | refine ff ?_ | ((first | refine sR ?_ ?_ | refine sC ?_ ?_) <;> (intro hb;(try rw [hb]);(try simp only [bb] at hb);(try (exfalso;first | omega | exact hb trivial)))) | (apply endS trivial;rotate_left;(· exact eva);(· rfl);try refine⟨?_,rfl⟩) | fail)
     rw [es2]
     (apply EvR.aCall h2.at_;(· exact eva);(· exact  h2.ok _ l2 hl2n);(rintro _ _ ⟨rfl,rfl⟩;refine EvR.nrm ?_))
     rw [ev2]
     repeat' (first | refine ff ?_ | ((first | refine sR ?_ ?_ | refine sC ?_ ?_) <;> (intro hb;(try rw [hb]);(try simp only [bb] at hb);(try (exfalso;first | omega | exact hb trivial)))) | (apply endS trivial;rotate_left;(· exact eva);(· rfl);try refine⟨?_,rfl⟩) | fail)
     (apply EvR.aCall h3.at_;(· exact eva);(· exact  h3.ok _ _ ev2');(rintro _ _ ⟨rfl,rfl⟩;refine EvR.nrm ?_))
     repeat' (first | refine ff ?_ | ((first | refine sR ?_ ?_ | refine sC ?_ ?_) <;> (intro hb;(try rw [hb]);(try simp only [bb] at hb);(try (exfalso;first | omega | exact hb trivial)))) | (apply endS trivial;rotate_left;(· exact eva);(· rfl);try refine⟨?_,rfl⟩) | fail)
     refine Ev.rF (σ.length+1) impl_sheetAhead_r13_dr (by simp only [List.length_append,List.length_cons];omega) ?_ ?_
     ·repeat' (first | refine ff ?_ | ((first | refine sR ?_ ?_ | refine sC ?_ ?_) <;> (intro hb;(try rw [hb]);(try simp only [bb] at hb);(try (exfalso;first | omega | exact hb trivial)))) | (apply endS trivial;rotate_left;(· exact eva);(· rfl);try refine⟨?_,rfl⟩) | fail)
      refine⟨⟨?_,?_,trivial⟩,⟨?_,?_,trivial⟩,?_⟩
      ·simp only [↓fget_cons,push_cast,Nat.reduceEqDiff,reduceIte];rfl
      ·simp only [↓fget_cons,push_cast,Nat.reduceEqDiff,reduceIte];rfl
      ·simp only [↓fget_cons,push_cast,Nat.reduceEqDiff,reduceIte];first | exact trivial | (show _ ≠ _;dsimp only;omega)
      ·simp only [↓fget_cons,push_cast,Nat.reduceEqDiff,reduceIte];first | exact trivial | (show _ ≠ _;dsimp only;omega)
      ·simp only [↓fget_cons,push_cast,Nat.reduceEqDiff,reduceIte];exact⟨_,rfl⟩
     repeat' (first | refine ff ?_ | ((first | refine sR ?_ ?_ | refine sC ?_ ?_) <;> (intro hb;(try rw [hb]);(try simp only [bb] at hb);(try (exfalso;first | omega | exact hb trivial)))) | (apply endS trivial;rotate_left;(· exact eva);(· rfl);try refine⟨?_,rfl⟩) | fail)
     exact⟨(i+1,t1::rowO (numsAt s 7 i++[v1])::t2::rowO (numsAt s (7+4 * N) i++[v2])::(rub++[⟨[.float .f32 v1],1,true⟩,⟨[.float .f32 v2],1,true⟩])),by dsimp only;omega,by exact tF,by dsimp only;rw [fvN_pos (by omega),fvN_pos (by omega)],by dsimp only;omega,fun h =>absurd h (by dsimp only;omega),fun _ =>by
      dsimp only
      rw [hs1,hs2]
      exact⟨_,_,_,rfl⟩⟩
   ·obtain rfl :i=N :=by omega
    rcases Nat.eq_zero_or_pos i with h0 | hpos
    ·obtain rfl :R=[] :=hz h0
     rw [fvN_zero h0,fvN_zero h0]
     have hS :isSheet (byAt s 4) (byAt s 5) [] []=false :=by
      cases h :isSheet (byAt s 4) (byAt s 5) [] []
      ·rfl
      ·exfalso
       obtain⟨a1,_,a3,_,q1,_⟩ :=isSheet_sides h
       have q2 :=shN_def s
       rw [hN,h0] at q2
       have :=Nat.mul_le_mul (show 3 ≤ byAt s 4 by omega) (show 3 ≤ byAt s 5 by omega)
       have q3 :byAt s 4 * byAt s 5=0 :=by have :shN s=0 :=by omega
                                           exact this
       omega
     have hok :ahOk s=false :=by
      rw [hok0,show numsAt s 7 i=[] from by rw [h0];rfl,show numsAt s (7+4 * i) i=[] from by rw [h0];rfl,hS];rfl
     repeat' (first | refine ff ?_ | ((first | refine sR ?_ ?_ | refine sC ?_ ?_) <;> (intro hb;(try rw [hb]);(try simp only [bb] at hb);(try (exfalso;first | omega | exact hb trivial)))) | (apply endS trivial;rotate_left;(· exact eva);(· rfl);try refine⟨?_,rfl⟩) | fail)
     (apply EvR.aCall h4.at_;(· exact eva);(· exact  h4.ok _ _ _ _ _ _ [] [] ⟨Row.nilF,Row.nilF⟩ (by simp) (by simp));(rintro _ _ ⟨rfl,rfl⟩;refine EvR.nrm ?_))
     rw [hS]
     repeat' (first | refine ff ?_ | ((first | refine sR ?_ ?_ | refine sC ?_ ?_) <;> (intro hb;(try rw [hb]);(try simp only [bb] at hb);(try (exfalso;first | omega | exact hb trivial)))) | (apply endS trivial;rotate_left;(· exact eva);(· rfl);try refine⟨?_,rfl⟩) | fail)
     exact ahRes_f hok rfl rfl
    ·obtain⟨t1,t2,rub,rfl⟩ :=hp hpos
     rw [fvN_pos hpos,fvN_pos hpos]
     clear hp hz
     have hn1 :=numsAt_length s 7 i
     have hn2 :=numsAt_length s (7+4 * i) i
     have l1 :=numsAt_lt s 7 i
     have l2 :=numsAt_lt s (7+4 * i) i
     have eE :(7+8 * (i :Int)).toNat=shEnd s :=by omega
     rw [← eS] at hn1 l1 hok0 ⊢
     rw [← eL] at hn2 l2 hok0 ⊢
     have hres :∀ (σ' :Heap) (v :Value) (k :Nat),k=i→ahOk s=true→v = .tuple #[shV (byAt s 4) (byAt s 5) (shWr s) (slV σ.length i) (slV (σ.length+1) k),.int .i64 (7+8 * (i :Int)),.bool true]→σ'=σ++[rowO (shSp s),rowO (shLo s)]→ahRes s σ σ' v :=by
      rintro σ' v k rfl h1 h2 h3
      refine ahRes_t h1 ?_ h3
      rw [h2,hN,show ((shEnd s :Nat) :Int)=7+8 * (k :Int) from by omega]
     generalize shSp s=sp at *
     generalize shLo s=lo at *
     clear eS eL
     obtain rfl :sp.length=i :=hn1
     rw [show slV (σ.length+5) sp.length=slV (σ.length+5) lo.length from by rw [hn2]]
     have hcl :sp.length=lo.length :=hn2.symm
     cases hS :isSheet (byAt s 4) (byAt s 5) sp lo
     ·have hok :ahOk s=false :=by rw [hok0,hS];rfl
      repeat' (first | refine ff ?_ | ((first | refine sR ?_ ?_ | refine sC ?_ ?_) <;> (intro hb;(try rw [hb]);(try simp only [bb] at hb);(try (exfalso;first | omega | exact hb trivial)))) | (apply endS trivial;rotate_left;(· exact eva);(· rfl);try refine⟨?_,rfl⟩) | fail)
      (apply EvR.aCall h4.at_;(· exact eva);(· exact  h4.ok _ _ _ _ _ _ sp lo ⟨Row.whole (hget _ _ 3) (by omega) (by rw [f32s_length];omega),Row.whole (hget _ _ 5) (by omega) (by rw [f32s_length];omega)⟩ (by omega) (by omega));(rintro _ _ ⟨rfl,rfl⟩;refine EvR.nrm ?_))
      rw [hS]
      repeat' (first | refine ff ?_ | ((first | refine sR ?_ ?_ | refine sC ?_ ?_) <;> (intro hb;(try rw [hb]);(try simp only [bb] at hb);(try (exfalso;first | omega | exact hb trivial)))) | (apply endS trivial;rotate_left;(· exact eva);(· rfl);try refine⟨?_,rfl⟩) | fail)
      exact ahRes_f hok rfl rfl
     ·rw [hS,Bool.true_and] at hok0
      repeat' (first | refine ff ?_ | ((first | refine sR ?_ ?_ | refine sC ?_ ?_) <;> (intro hb;(try rw [hb]);(try simp only [bb] at hb);(try (exfalso;first | omega | exact hb trivial)))) | (apply endS trivial;rotate_left;(· exact eva);(· rfl);try refine⟨?_,rfl⟩) | fail)
      (apply EvR.aCall h4.at_;(· exact eva);(· exact  h4.ok _ _ _ _ _ _ sp lo ⟨Row.whole (hget _ _ 3) (by omega) (by rw [f32s_length];omega),Row.whole (hget _ _ 5) (by omega) (by rw [f32s_length];omega)⟩ (by omega) (by omega));(rintro _ _ ⟨rfl,rfl⟩;refine EvR.nrm ?_))
      rw [hS]
      repeat' (first | refine ff ?_ | ((first | refine sR ?_ ?_ | refine sC ?_ ?_) <;> (intro hb;(try rw [hb]);(try simp only [bb] at hb);(try (exfalso;first | omega | exact hb trivial)))) | (apply endS trivial;rotate_left;(· exact eva);(· rfl);try refine⟨?_,rfl⟩) | fail)
      (apply EvR.aCall h5.at_;(· exact eva);(· exact  h5.ok _ (byAt s 4) (byAt s 5) _ _ _ sp lo ⟨Row.whole (hget _ _ 3) (by omega) (by rw [f32s_length];omega),Row.whole (hget _ _ 5) (by omega) (by rw [f32s_length];omega)⟩ (by omega) (by omega) l1 l2);(rintro _ _ ⟨rfl,rfl⟩;refine EvR.nrm ?_))
      generalize shB (byAt s 4) (byAt s 5) (shWr s) sp lo=bs at *
      repeat' (first | refine ff ?_ | ((first | refine sR ?_ ?_ | refine sC ?_ ?_) <;> (intro hb;(try rw [hb]);(try simp only [bb] at hb);(try (exfalso;first | omega | exact hb trivial)))) | (apply endS trivial;rotate_left;(· exact eva);(· rfl);try refine⟨?_,rfl⟩) | fail)
      ·rw [str_toList,str_toList,eE] at hb
       exact ahRes_f (by rw [hok0];exact decide_eq_false (by simpa using hb)) rfl rfl
      ·rw [str_toList,str_toList,eE] at hb
       have hok :ahOk s=true :=by rw [hok0];exact decide_eq_true (by simpa using hb)
       apply endR [3,5] trivial (hres _ _ _ hn2 hok rfl rfl);(· exact eva);(· simp [gcTop,gcVal,gcLeaf,gcLeaves,gcVals,constOk,gc_lt,gc_lt0]);(· rfl);(· decide);(· simp [allConst,f32s,i64s,b8s,bools,constOk])
 ·have hok :ahOk s=false :=by unfold ahOk;rw [decide_eq_false hl];rfl
  refine ret_gc rfl rfl ?_
  repeat' (first | refine ff ?_ | ((first | refine sR ?_ ?_ | refine sC ?_ ?_) <;> (intro hb;(try rw [hb]);(try simp only [bb] at hb);(try (exfalso;first | omega | exact hb trivial)))) | (apply endS trivial;rotate_left;(· exact eva);(· rfl);try refine⟨?_,rfl⟩) | fail)
  exact ahRes_f hok rfl rfl
end Go.Abs
