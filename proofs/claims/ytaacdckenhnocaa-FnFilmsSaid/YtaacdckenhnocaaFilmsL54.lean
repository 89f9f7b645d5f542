/- Laws of functions: steps by the reference. Conditions: the laws of what they call. -/
import Derived.Test.YtaacdckenhnocaaFilmsL26
import Derived.Test.YtaacdckenhnocaaFilmsL27
namespace Go.Abs
set_option linter.unusedSimpArgs false
set_option linter.unusedVariables false
set_option maxHeartbeats 8000000
set_option maxRecDepth 20000
def spec_l03At_r0 :List SOper :=[
 ⟨some 6,none,.mov (.const (.int .i64 0)),0⟩]
def spec_l03At_r1 :List SOper :=[
 ⟨some 7,none,.mov (.tmp 1),0⟩,
 ⟨some 8,none,.mov (.tmp 0),0⟩,
 ⟨some 9,none,.nilCheck (.tmp 8),2⟩,
 ⟨some 10,none,.fieldAddr 0 (.tmp 9),6⟩,
 ⟨some 11,none,.load1 (.tmp 10),14⟩,
 ⟨some 12,none,.bin .add .other (.tmp 7) (.tmp 11),31⟩,
 ⟨some 13,none,.mov (.tmp 0),0⟩,
 ⟨some 14,none,.nilCheck (.tmp 13),64⟩,
 ⟨some 15,none,.fieldAddr 0 (.tmp 14),192⟩,
 ⟨some 16,none,.load1 (.tmp 15),448⟩,
 ⟨some 17,none,.bin .rem .other (.tmp 12) (.tmp 16),1023⟩,
 ⟨some 18,none,.mov (.tmp 0),0⟩,
 ⟨some 19,none,.nilCheck (.tmp 18),2048⟩,
 ⟨some 20,none,.fieldAddr 0 (.tmp 19),6144⟩,
 ⟨some 21,none,.load1 (.tmp 20),14336⟩,
 ⟨some 22,none,.mov (.tmp 2),0⟩,
 ⟨some 23,none,.mov (.tmp 0),0⟩,
 ⟨some 24,none,.nilCheck (.tmp 23),65536⟩,
 ⟨some 25,none,.fieldAddr 1 (.tmp 24),196608⟩,
 ⟨some 26,none,.load1 (.tmp 25),458752⟩,
 ⟨some 27,none,.bin .add .other (.tmp 22) (.tmp 26),1015808⟩,
 ⟨some 28,none,.mov (.tmp 0),0⟩,
 ⟨some 29,none,.nilCheck (.tmp 28),2097152⟩,
 ⟨some 30,none,.fieldAddr 1 (.tmp 29),6291456⟩,
 ⟨some 31,none,.load1 (.tmp 30),14680064⟩,
 ⟨some 32,none,.bin .rem .other (.tmp 27) (.tmp 31),33521664⟩,
 ⟨some 33,none,.bin .mul .other (.tmp 21) (.tmp 32),67106816⟩,
 ⟨some 34,none,.bin .add .other (.tmp 17) (.tmp 33),134217727⟩,
 ⟨some 6,none,.mov (.tmp 34),268435455⟩]
def spec_l03At :SFunc :=⟨35,[.tmp 6],(.kp [0,1,2] (.seq (.region spec_l03At_r0 false) (.kp [0,1,2] (.seq (.region spec_l03At_r1 true) .ret))))⟩
theorem spec_l03At_r1_dr :drawOkW wStat spec_l03At_r1=true :=by kernel_rfl
attribute [push_cast] spec_l03At_r1_dr
def spec_l03HalfX_r0 :List SOper :=[
 ⟨some 8,none,.mov (.const (.float .f32 0)),0⟩]
def spec_l03HalfX_r1 (i_spec_l03At :FuncId) :List SOper :=[
 ⟨some 10,none,.mov (.tmp 0),0⟩,
 ⟨some 11,none,.mov (.tmp 2),0⟩,
 ⟨some 12,none,.mov (.tmp 3),0⟩,
 ⟨some 13,none,.call (.func i_spec_l03At) [(.tmp 10),(.tmp 11),(.tmp 12)],7⟩,
 ⟨some 9,none,.mov (.tmp 13),15⟩]
def spec_l03HalfX_r2 :List SOper :=[
 ⟨some 14,none,.mov (.tmp 0),0⟩,
 ⟨some 15,none,.nilCheck (.tmp 14),1⟩,
 ⟨some 16,none,.fieldAddr 2 (.tmp 15),3⟩,
 ⟨some 17,none,.load1 (.tmp 16),7⟩,
 ⟨some 18,none,.un .not (.tmp 17),15⟩,
 ⟨some 19,none,.mov (.tmp 18),31⟩,
  ⟨(some 20),(some (19,true)),.mov (.tmp 3),63⟩,
  ⟨(some 21),(some (19,true)),.mov (.tmp 0),63⟩,
  ⟨(some 22),(some (19,true)),.nilCheck (.tmp 21),191⟩,
  ⟨(some 23),(some (19,true)),.fieldAddr 1 (.tmp 22),447⟩,
  ⟨(some 24),(some (19,true)),.load1 (.tmp 23),959⟩,
  ⟨(some 25),(some (19,true)),.bin .sub .other (.tmp 24) (.const (.int .i64 1)),1983⟩,
  ⟨(some 26),(some (19,true)),.bin .eql .other (.tmp 20) (.tmp 25),4095⟩,
 ⟨some 27,none,.pick (.tmp 19) (.tmp 26) (.const (.bool false)),8191⟩]
def spec_l03HalfX_r3 :List SOper :=[
 ⟨some 28,none,.mov (.tmp 1),0⟩,
 ⟨some 29,none,.nilCheck (.tmp 28),1⟩,
 ⟨some 30,none,.fieldAddr 1 (.tmp 29),3⟩,
 ⟨some 31,none,.load1 (.tmp 30),7⟩,
 ⟨some 32,none,.mov (.tmp 9),0⟩,
 ⟨some 33,none,.indexAddrS 1 (.tmp 31) (.tmp 32),31⟩,
 ⟨some 34,none,.load1 (.tmp 33),63⟩,
 ⟨some 8,none,.mov (.tmp 34),127⟩]
def spec_l03HalfX_r4 (i_spec_l03At :FuncId) :List SOper :=[
 ⟨some 35,none,.mov (.tmp 1),0⟩,
 ⟨some 36,none,.nilCheck (.tmp 35),1⟩,
 ⟨some 37,none,.fieldAddr 1 (.tmp 36),3⟩,
 ⟨some 38,none,.load1 (.tmp 37),7⟩,
 ⟨some 39,none,.mov (.tmp 9),0⟩,
 ⟨some 40,none,.indexAddrS 1 (.tmp 38) (.tmp 39),31⟩,
 ⟨some 41,none,.load1 (.tmp 40),63⟩,
 ⟨some 42,none,.mov (.tmp 1),0⟩,
 ⟨some 43,none,.nilCheck (.tmp 42),128⟩,
 ⟨some 44,none,.fieldAddr 0 (.tmp 43),384⟩,
 ⟨some 45,none,.load1 (.tmp 44),896⟩,
 ⟨some 46,none,.mov (.tmp 0),0⟩,
 ⟨some 47,none,.mov (.tmp 2),0⟩,
 ⟨some 48,none,.mov (.tmp 3),0⟩,
 ⟨some 49,none,.bin .add .other (.tmp 48) (.const (.int .i64 1)),8192⟩,
 ⟨some 50,none,.call (.func i_spec_l03At) [(.tmp 46),(.tmp 47),(.tmp 49)],30720⟩,
 ⟨some 51,none,.indexAddrS 1 (.tmp 45) (.tmp 50),65408⟩,
 ⟨some 52,none,.load1 (.tmp 51),130944⟩,
 ⟨some 53,none,.mov (.tmp 1),0⟩,
 ⟨some 54,none,.nilCheck (.tmp 53),262144⟩,
 ⟨some 55,none,.fieldAddr 0 (.tmp 54),786432⟩,
 ⟨some 56,none,.load1 (.tmp 55),1835008⟩,
 ⟨some 57,none,.mov (.tmp 9),0⟩,
 ⟨some 58,none,.indexAddrS 1 (.tmp 56) (.tmp 57),8126464⟩,
 ⟨some 59,none,.load1 (.tmp 58),16515072⟩,
 ⟨some 60,none,.bin .sub .other (.tmp 52) (.tmp 59),33554304⟩,
 ⟨some 61,none,.bin .mul .other (.const (.float .f32 1056964608)) (.tmp 60),67108736⟩,
 ⟨some 62,none,.bin .sub .other (.tmp 41) (.tmp 61),134217727⟩,
 ⟨some 8,none,.mov (.tmp 62),268435455⟩]
def spec_l03HalfX (i_spec_l03At :FuncId) :SFunc :=⟨63,[.tmp 8],(.kp [0,1,2,3] (.seq (.region spec_l03HalfX_r0 false) (.kp [0,1,2,3] (.seq (.region (spec_l03HalfX_r1 i_spec_l03At) false) (.kp [0,1,2,3,9] (.seq (.seq (.region spec_l03HalfX_r2 false) (.kp [0,1,2,3,9,27] (.cond (.tmp 27) (.seq (.region spec_l03HalfX_r3 false) .ret) .skip))) (.kp [0,1,2,3,9] (.seq (.region (spec_l03HalfX_r4 i_spec_l03At) true) .ret))))))))⟩
theorem spec_l03HalfX_r4_dr {i_spec_l03At :FuncId} :drawOkW wStat (spec_l03HalfX_r4 i_spec_l03At)=true :=by kernel_rfl
attribute [push_cast] spec_l03HalfX_r4_dr
def spec_l03HalfY_r0 :List SOper :=[
 ⟨some 8,none,.mov (.const (.float .f32 0)),0⟩]
def spec_l03HalfY_r1 (i_spec_l03At :FuncId) :List SOper :=[
 ⟨some 10,none,.mov (.tmp 0),0⟩,
 ⟨some 11,none,.mov (.tmp 2),0⟩,
 ⟨some 12,none,.mov (.tmp 3),0⟩,
 ⟨some 13,none,.call (.func i_spec_l03At) [(.tmp 10),(.tmp 11),(.tmp 12)],7⟩,
 ⟨some 9,none,.mov (.tmp 13),15⟩]
def spec_l03HalfY_r2 :List SOper :=[
 ⟨some 14,none,.mov (.tmp 0),0⟩,
 ⟨some 15,none,.nilCheck (.tmp 14),1⟩,
 ⟨some 16,none,.fieldAddr 2 (.tmp 15),3⟩,
 ⟨some 17,none,.load1 (.tmp 16),7⟩,
 ⟨some 18,none,.un .not (.tmp 17),15⟩,
 ⟨some 19,none,.mov (.tmp 18),31⟩,
  ⟨(some 20),(some (19,true)),.mov (.tmp 2),63⟩,
  ⟨(some 21),(some (19,true)),.mov (.tmp 0),63⟩,
  ⟨(some 22),(some (19,true)),.nilCheck (.tmp 21),191⟩,
  ⟨(some 23),(some (19,true)),.fieldAddr 0 (.tmp 22),447⟩,
  ⟨(some 24),(some (19,true)),.load1 (.tmp 23),959⟩,
  ⟨(some 25),(some (19,true)),.bin .sub .other (.tmp 24) (.const (.int .i64 1)),1983⟩,
  ⟨(some 26),(some (19,true)),.bin .eql .other (.tmp 20) (.tmp 25),4095⟩,
 ⟨some 27,none,.pick (.tmp 19) (.tmp 26) (.const (.bool false)),8191⟩]
def spec_l03HalfY_r3 :List SOper :=[
 ⟨some 28,none,.mov (.tmp 1),0⟩,
 ⟨some 29,none,.nilCheck (.tmp 28),1⟩,
 ⟨some 30,none,.fieldAddr 2 (.tmp 29),3⟩,
 ⟨some 31,none,.load1 (.tmp 30),7⟩,
 ⟨some 32,none,.mov (.tmp 9),0⟩,
 ⟨some 33,none,.indexAddrS 1 (.tmp 31) (.tmp 32),31⟩,
 ⟨some 34,none,.load1 (.tmp 33),63⟩,
 ⟨some 8,none,.mov (.tmp 34),127⟩]
def spec_l03HalfY_r4 (i_spec_l03At :FuncId) :List SOper :=[
 ⟨some 35,none,.mov (.tmp 1),0⟩,
 ⟨some 36,none,.nilCheck (.tmp 35),1⟩,
 ⟨some 37,none,.fieldAddr 2 (.tmp 36),3⟩,
 ⟨some 38,none,.load1 (.tmp 37),7⟩,
 ⟨some 39,none,.mov (.tmp 9),0⟩,
 ⟨some 40,none,.indexAddrS 1 (.tmp 38) (.tmp 39),31⟩,
 ⟨some 41,none,.load1 (.tmp 40),63⟩,
 ⟨some 42,none,.mov (.tmp 1),0⟩,
 ⟨some 43,none,.nilCheck (.tmp 42),128⟩,
 ⟨some 44,none,.fieldAddr 0 (.tmp 43),384⟩,
 ⟨some 45,none,.load1 (.tmp 44),896⟩,
 ⟨some 46,none,.mov (.tmp 0),0⟩,
 ⟨some 47,none,.mov (.tmp 2),0⟩,
 ⟨some 48,none,.bin .add .other (.tmp 47) (.const (.int .i64 1)),4096⟩,
 ⟨some 49,none,.mov (.tmp 3),0⟩,
 ⟨some 50,none,.call (.func i_spec_l03At) [(.tmp 46),(.tmp 48),(.tmp 49)],30720⟩,
 ⟨some 51,none,.indexAddrS 1 (.tmp 45) (.tmp 50),65408⟩,
 ⟨some 52,none,.load1 (.tmp 51),130944⟩,
 ⟨some 53,none,.mov (.tmp 1),0⟩,
 ⟨some 54,none,.nilCheck (.tmp 53),262144⟩,
 ⟨some 55,none,.fieldAddr 0 (.tmp 54),786432⟩,
 ⟨some 56,none,.load1 (.tmp 55),1835008⟩,
 ⟨some 57,none,.mov (.tmp 9),0⟩,
 ⟨some 58,none,.indexAddrS 1 (.tmp 56) (.tmp 57),8126464⟩,
 ⟨some 59,none,.load1 (.tmp 58),16515072⟩,
 ⟨some 60,none,.bin .sub .other (.tmp 52) (.tmp 59),33554304⟩,
 ⟨some 61,none,.bin .mul .other (.const (.float .f32 1056964608)) (.tmp 60),67108736⟩,
 ⟨some 62,none,.bin .add .other (.tmp 41) (.tmp 61),134217727⟩,
 ⟨some 8,none,.mov (.tmp 62),268435455⟩]
def spec_l03HalfY (i_spec_l03At :FuncId) :SFunc :=⟨63,[.tmp 8],(.kp [0,1,2,3] (.seq (.region spec_l03HalfY_r0 false) (.kp [0,1,2,3] (.seq (.region (spec_l03HalfY_r1 i_spec_l03At) false) (.kp [0,1,2,3,9] (.seq (.seq (.region spec_l03HalfY_r2 false) (.kp [0,1,2,3,9,27] (.cond (.tmp 27) (.seq (.region spec_l03HalfY_r3 false) .ret) .skip))) (.kp [0,1,2,3,9] (.seq (.region (spec_l03HalfY_r4 i_spec_l03At) true) .ret))))))))⟩
theorem spec_l03HalfY_r4_dr {i_spec_l03At :FuncId} :drawOkW wStat (spec_l03HalfY_r4 i_spec_l03At)=true :=by kernel_rfl
attribute [push_cast] spec_l03HalfY_r4_dr
def spec_l03Half_r0 :List SOper :=[
 ⟨some 4,none,.alloc [(.slice none 0 0),(.slice none 0 0),(.slice none 0 0)],0⟩]
def spec_l03Half_r1 (i_spec_l02Own :FuncId) :List SOper :=[
 ⟨some 9,none,.mov (.tmp 1),0⟩,
 ⟨some 10,none,.call (.func i_spec_l02Own) [(.tmp 9)],1⟩,
 ⟨some 5,none,.alloc [(.slice none 0 0),(.slice none 0 0),(.slice none 0 0)],0⟩,
 ⟨none,none,.store 3 (.tmp 5) (.tmp 10),7⟩]
def spec_l03Half_r2 :List SOper :=[
 ⟨some 6,none,.mov (.const (.int .i64 0)),0⟩]
def spec_l03Half_r3 :List SOper :=[
 ⟨some 11,none,.mov (.tmp 6),0⟩,
 ⟨some 12,none,.mov (.tmp 0),0⟩,
 ⟨some 13,none,.nilCheck (.tmp 12),2⟩,
 ⟨some 14,none,.fieldAddr 1 (.tmp 13),6⟩,
 ⟨some 15,none,.load1 (.tmp 14),14⟩,
 ⟨some 16,none,.bin .lss .other (.tmp 11) (.tmp 15),31⟩]
def spec_l03Half_r4 :List SOper :=[
 ⟨some 7,none,.mov (.const (.int .i64 0)),0⟩]
def spec_l03Half_r5 :List SOper :=[
 ⟨some 19,none,.mov (.tmp 7),0⟩,
 ⟨some 20,none,.mov (.tmp 0),0⟩,
 ⟨some 21,none,.nilCheck (.tmp 20),2⟩,
 ⟨some 22,none,.fieldAddr 0 (.tmp 21),6⟩,
 ⟨some 23,none,.load1 (.tmp 22),14⟩,
 ⟨some 24,none,.bin .lss .other (.tmp 19) (.tmp 23),31⟩]
def spec_l03Half_r6 (i_spec_l03At :FuncId) :List SOper :=[
 ⟨some 27,none,.mov (.tmp 0),0⟩,
 ⟨some 28,none,.mov (.tmp 7),0⟩,
 ⟨some 29,none,.mov (.tmp 6),0⟩,
 ⟨some 30,none,.call (.func i_spec_l03At) [(.tmp 27),(.tmp 28),(.tmp 29)],7⟩,
 ⟨some 8,none,.mov (.tmp 30),15⟩]
def spec_l03Half_r7 (i_spec_l03HalfX :FuncId) :List SOper :=[
 ⟨some 31,none,.fieldAddr 1 (.tmp 5),0⟩,
 ⟨some 32,none,.load1 (.tmp 31),1⟩,
 ⟨some 33,none,.mov (.tmp 8),0⟩,
 ⟨some 34,none,.mov (.tmp 0),0⟩,
 ⟨some 35,none,.mov (.tmp 1),0⟩,
 ⟨some 36,none,.mov (.tmp 7),0⟩,
 ⟨some 37,none,.mov (.tmp 6),0⟩,
 ⟨some 38,none,.call (.func i_spec_l03HalfX) [(.tmp 34),(.tmp 35),(.tmp 36),(.tmp 37)],120⟩,
 ⟨some 39,none,.indexAddrS 1 (.tmp 32) (.tmp 33),255⟩,
 ⟨none,none,.store 1 (.tmp 39) (.tmp 38),511⟩]
def spec_l03Half_r8 (i_spec_l03HalfY :FuncId) :List SOper :=[
 ⟨some 40,none,.fieldAddr 2 (.tmp 5),0⟩,
 ⟨some 41,none,.load1 (.tmp 40),1⟩,
 ⟨some 42,none,.mov (.tmp 8),0⟩,
 ⟨some 43,none,.mov (.tmp 0),0⟩,
 ⟨some 44,none,.mov (.tmp 1),0⟩,
 ⟨some 45,none,.mov (.tmp 7),0⟩,
 ⟨some 46,none,.mov (.tmp 6),0⟩,
 ⟨some 47,none,.call (.func i_spec_l03HalfY) [(.tmp 43),(.tmp 44),(.tmp 45),(.tmp 46)],120⟩,
 ⟨some 48,none,.indexAddrS 1 (.tmp 41) (.tmp 42),255⟩,
 ⟨none,none,.store 1 (.tmp 48) (.tmp 47),511⟩]
def spec_l03Half_r9 :List SOper :=[
 ⟨some 25,none,.mov (.tmp 7),0⟩,
 ⟨some 26,none,.bin .add .other (.tmp 25) (.const (.int .i64 1)),1⟩,
 ⟨some 7,none,.mov (.tmp 26),3⟩]
def spec_l03Half_l10 (i_spec_l03At i_spec_l03HalfX i_spec_l03HalfY :FuncId) :SCode :=(.kp [0,1,4,5,6,7] (.seq (.seq (.region spec_l03Half_r5 false) (.kp [0,1,4,5,6,7,24] (.cond (.tmp 24) .skip (.exit 2)))) (.kp [0,1,4,5,6,7] (.seq (.block 3 (.seq (.region (spec_l03Half_r6 i_spec_l03At) false) (.kp [0,1,4,5,6,7,8] (.seq (.region (spec_l03Half_r7 i_spec_l03HalfX) true) (.kp [0,1,4,5,6,7,8] (.region (spec_l03Half_r8 i_spec_l03HalfY) true)))))) (.kp [0,1,4,5,6,7] (.region spec_l03Half_r9 false))))))
def spec_l03Half_r11 :List SOper :=[
 ⟨some 17,none,.mov (.tmp 6),0⟩,
 ⟨some 18,none,.bin .add .other (.tmp 17) (.const (.int .i64 1)),1⟩,
 ⟨some 6,none,.mov (.tmp 18),3⟩]
def spec_l03Half_l12 (i_spec_l03At i_spec_l03HalfX i_spec_l03HalfY :FuncId) :SCode :=(.kp [0,1,4,5,6] (.seq (.seq (.region spec_l03Half_r3 false) (.kp [0,1,4,5,6,16] (.cond (.tmp 16) .skip (.exit 0)))) (.kp [0,1,4,5,6] (.seq (.block 1 (.seq (.region spec_l03Half_r4 false) (.kp [0,1,4,5,6,7] (.block 2 (.loop (spec_l03Half_l10 i_spec_l03At i_spec_l03HalfX i_spec_l03HalfY)))))) (.kp [0,1,4,5,6] (.region spec_l03Half_r11 false))))))
def spec_l03Half_r13 :List SOper :=[
 ⟨some 49,none,.loadN 3 (.tmp 5),0⟩,
 ⟨none,none,.store 3 (.tmp 4) (.tmp 49),1⟩]
def spec_l03Half (i_spec_l02Own i_spec_l03At i_spec_l03HalfX i_spec_l03HalfY :FuncId) :SFunc :=⟨50,[.cellN 4 3],(.kp [0,1] (.seq (.region spec_l03Half_r0 false) (.kp [0,1,4] (.seq (.region (spec_l03Half_r1 i_spec_l02Own) false) (.kp [0,1,4,5] (.seq (.seq (.region spec_l03Half_r2 false) (.kp [0,1,4,5,6] (.block 0 (.loop (spec_l03Half_l12 i_spec_l03At i_spec_l03HalfX i_spec_l03HalfY))))) (.kp [4,5] (.seq (.region spec_l03Half_r13 false) .ret))))))))⟩
theorem spec_l03Half_r7_dr {i_spec_l03HalfX :FuncId} :drawOkW wStat (spec_l03Half_r7 i_spec_l03HalfX)=true :=by kernel_rfl
attribute [push_cast] spec_l03Half_r7_dr
theorem spec_l03Half_r8_dr {i_spec_l03HalfY :FuncId} :drawOkW wStat (spec_l03Half_r8 i_spec_l03HalfY)=true :=by kernel_rfl
attribute [push_cast] spec_l03Half_r8_dr
def spec_l03Rest_r0 :List SOper :=[
 ⟨some 8,none,.mov (.const (.float .f32 0)),0⟩]
def spec_l03Rest_r1 (i_spec_l03At :FuncId) :List SOper :=[
 ⟨some 13,none,.mov (.tmp 0),0⟩,
 ⟨some 14,none,.mov (.tmp 2),0⟩,
 ⟨some 15,none,.mov (.tmp 3),0⟩,
 ⟨some 16,none,.call (.func i_spec_l03At) [(.tmp 13),(.tmp 14),(.tmp 15)],7⟩,
 ⟨some 9,none,.mov (.tmp 16),15⟩]
def spec_l03Rest_r2 (i_spec_l02Border :FuncId) :List SOper :=[
 ⟨some 17,none,.mov (.tmp 0),0⟩,
 ⟨some 18,none,.nilCheck (.tmp 17),1⟩,
 ⟨some 19,none,.fieldAddr 2 (.tmp 18),3⟩,
 ⟨some 20,none,.load1 (.tmp 19),7⟩,
 ⟨some 21,none,.un .not (.tmp 20),15⟩,
 ⟨some 22,none,.mov (.tmp 21),31⟩,
  ⟨(some 23),(some (22,true)),.mov (.tmp 0),63⟩,
  ⟨(some 24),(some (22,true)),.mov (.tmp 2),63⟩,
  ⟨(some 25),(some (22,true)),.mov (.tmp 3),63⟩,
  ⟨(some 26),(some (22,true)),.call (.func i_spec_l02Border) [(.tmp 23),(.tmp 24),(.tmp 25)],511⟩,
 ⟨some 27,none,.pick (.tmp 22) (.tmp 26) (.const (.bool false)),1023⟩]
def spec_l03Rest_r3 :List SOper :=[
 ⟨some 28,none,.mov (.tmp 1),0⟩,
 ⟨some 29,none,.nilCheck (.tmp 28),1⟩,
 ⟨some 30,none,.fieldAddr 0 (.tmp 29),3⟩,
 ⟨some 31,none,.load1 (.tmp 30),7⟩,
 ⟨some 32,none,.mov (.tmp 9),0⟩,
 ⟨some 33,none,.indexAddrS 1 (.tmp 31) (.tmp 32),31⟩,
 ⟨some 34,none,.load1 (.tmp 33),63⟩,
 ⟨some 8,none,.mov (.tmp 34),127⟩]
def spec_l03Rest_r4 (i_spec_l03At :FuncId) :List SOper :=[
 ⟨some 35,none,.mov (.tmp 1),0⟩,
 ⟨some 36,none,.nilCheck (.tmp 35),1⟩,
 ⟨some 37,none,.fieldAddr 2 (.tmp 36),3⟩,
 ⟨some 38,none,.load1 (.tmp 37),7⟩,
 ⟨some 39,none,.mov (.tmp 9),0⟩,
 ⟨some 40,none,.indexAddrS 1 (.tmp 38) (.tmp 39),31⟩,
 ⟨some 41,none,.load1 (.tmp 40),63⟩,
 ⟨some 42,none,.mov (.tmp 1),0⟩,
 ⟨some 43,none,.nilCheck (.tmp 42),128⟩,
 ⟨some 44,none,.fieldAddr 2 (.tmp 43),384⟩,
 ⟨some 45,none,.load1 (.tmp 44),896⟩,
 ⟨some 46,none,.mov (.tmp 0),0⟩,
 ⟨some 47,none,.mov (.tmp 2),0⟩,
 ⟨some 48,none,.bin .sub .other (.tmp 47) (.const (.int .i64 1)),4096⟩,
 ⟨some 49,none,.mov (.tmp 3),0⟩,
 ⟨some 50,none,.call (.func i_spec_l03At) [(.tmp 46),(.tmp 48),(.tmp 49)],30720⟩,
 ⟨some 51,none,.indexAddrS 1 (.tmp 45) (.tmp 50),65408⟩,
 ⟨some 52,none,.load1 (.tmp 51),130944⟩,
 ⟨some 53,none,.bin .sub .other (.tmp 41) (.tmp 52),262143⟩,
 ⟨some 10,none,.mov (.tmp 53),524287⟩]
def spec_l03Rest_r5 (i_spec_l03At :FuncId) :List SOper :=[
 ⟨some 54,none,.mov (.tmp 1),0⟩,
 ⟨some 55,none,.nilCheck (.tmp 54),1⟩,
 ⟨some 56,none,.fieldAddr 1 (.tmp 55),3⟩,
 ⟨some 57,none,.load1 (.tmp 56),7⟩,
 ⟨some 58,none,.mov (.tmp 9),0⟩,
 ⟨some 59,none,.indexAddrS 1 (.tmp 57) (.tmp 58),31⟩,
 ⟨some 60,none,.load1 (.tmp 59),63⟩,
 ⟨some 61,none,.mov (.tmp 1),0⟩,
 ⟨some 62,none,.nilCheck (.tmp 61),128⟩,
 ⟨some 63,none,.fieldAddr 1 (.tmp 62),384⟩,
 ⟨some 64,none,.load1 (.tmp 63),896⟩,
 ⟨some 65,none,.mov (.tmp 0),0⟩,
 ⟨some 66,none,.mov (.tmp 2),0⟩,
 ⟨some 67,none,.mov (.tmp 3),0⟩,
 ⟨some 68,none,.bin .sub .other (.tmp 67) (.const (.int .i64 1)),8192⟩,
 ⟨some 69,none,.call (.func i_spec_l03At) [(.tmp 65),(.tmp 66),(.tmp 68)],30720⟩,
 ⟨some 70,none,.indexAddrS 1 (.tmp 64) (.tmp 69),65408⟩,
 ⟨some 71,none,.load1 (.tmp 70),130944⟩,
 ⟨some 72,none,.bin .sub .other (.tmp 60) (.tmp 71),262143⟩,
 ⟨some 11,none,.mov (.tmp 72),524287⟩]
def spec_l03Rest_r6 :List SOper :=[
 ⟨some 73,none,.mov (.tmp 1),0⟩,
 ⟨some 74,none,.nilCheck (.tmp 73),1⟩,
 ⟨some 75,none,.fieldAddr 0 (.tmp 74),3⟩,
 ⟨some 76,none,.load1 (.tmp 75),7⟩,
 ⟨some 77,none,.mov (.tmp 9),0⟩,
 ⟨some 78,none,.indexAddrS 1 (.tmp 76) (.tmp 77),31⟩,
 ⟨some 79,none,.load1 (.tmp 78),63⟩,
 ⟨some 80,none,.mov (.tmp 0),0⟩,
 ⟨some 81,none,.nilCheck (.tmp 80),128⟩,
 ⟨some 82,none,.fieldAddr 4 (.tmp 81),384⟩,
 ⟨some 83,none,.load1 (.tmp 82),896⟩,
 ⟨some 84,none,.mov (.tmp 9),0⟩,
 ⟨some 85,none,.indexAddrS 1 (.tmp 83) (.tmp 84),3968⟩,
 ⟨some 86,none,.load1 (.tmp 85),8064⟩,
 ⟨some 87,none,.bin .sub .other (.const (.float .f32 1065353216)) (.tmp 86),16256⟩,
 ⟨some 88,none,.bin .mul .other (.tmp 79) (.tmp 87),32767⟩,
 ⟨some 12,none,.mov (.tmp 88),65535⟩]
def spec_l03Rest_r7 :List SOper :=[
 ⟨some 89,none,.mov (.tmp 12),0⟩,
 ⟨some 90,none,.mov (.tmp 0),0⟩,
 ⟨some 91,none,.nilCheck (.tmp 90),2⟩,
 ⟨some 92,none,.fieldAddr 3 (.tmp 91),6⟩,
 ⟨some 93,none,.load1 (.tmp 92),14⟩,
 ⟨some 94,none,.mov (.tmp 9),0⟩,
 ⟨some 95,none,.indexAddrS 1 (.tmp 93) (.tmp 94),62⟩,
 ⟨some 96,none,.load1 (.tmp 95),126⟩,
 ⟨some 97,none,.mov (.tmp 10),0⟩,
 ⟨some 98,none,.mov (.tmp 11),0⟩,
 ⟨some 99,none,.bin .sub .other (.tmp 97) (.tmp 98),768⟩,
 ⟨some 100,none,.bin .mul .other (.tmp 96) (.tmp 99),2046⟩,
 ⟨some 101,none,.bin .add .other (.tmp 89) (.tmp 100),4095⟩,
 ⟨some 8,none,.mov (.tmp 101),8191⟩]
def spec_l03Rest (i_spec_l03At i_spec_l02Border :FuncId) :SFunc :=⟨102,[.tmp 8],(.kp [0,1,2,3] (.seq (.region spec_l03Rest_r0 false) (.kp [0,1,2,3] (.seq (.region (spec_l03Rest_r1 i_spec_l03At) false) (.kp [0,1,2,3,9] (.seq (.seq (.region (spec_l03Rest_r2 i_spec_l02Border) false) (.kp [0,1,2,3,9,27] (.cond (.tmp 27) (.seq (.region spec_l03Rest_r3 false) .ret) .skip))) (.kp [0,1,2,3,9] (.seq (.region (spec_l03Rest_r4 i_spec_l03At) true) (.kp [0,1,2,3,9,10] (.seq (.region (spec_l03Rest_r5 i_spec_l03At) true) (.kp [0,1,9,10,11] (.seq (.region spec_l03Rest_r6 true) (.kp [0,9,10,11,12] (.seq (.region spec_l03Rest_r7 false) .ret))))))))))))))⟩
theorem spec_l03Rest_r4_dr {i_spec_l03At :FuncId} :drawOkW wStat (spec_l03Rest_r4 i_spec_l03At)=true :=by kernel_rfl
attribute [push_cast] spec_l03Rest_r4_dr
theorem spec_l03Rest_r5_dr {i_spec_l03At :FuncId} :drawOkW wStat (spec_l03Rest_r5 i_spec_l03At)=true :=by kernel_rfl
attribute [push_cast] spec_l03Rest_r5_dr
theorem spec_l03Rest_r6_dr :drawOkW wStat spec_l03Rest_r6=true :=by kernel_rfl
attribute [push_cast] spec_l03Rest_r6_dr
def spec_l03At_ok (c :Contract) :Prop :=∀ (σ :Heap)(b o :Nat)(w h :Int)(wr :Bool)(sv lv :Value)(x y :Int),PtAt σ b o [.int .i64 w,.int .i64 h,.bool wr,sv,lv]→3 ≤ w→w ≤ 16→3 ≤ h→h ≤ 16 → -1000 ≤ x→x ≤ 1000 → -1000 ≤ y→y ≤ 1000 →
 Ret c [.pointer (some ⟨b,o,none⟩),.int .i64 x,.int .i64 y] σ fun v σ' =>v = .int .i64 (atC w h x y)∧σ'=σ
theorem spec_l03At_law {C :Ctab} :spec_l03At_ok (gcC C spec_l03At true) :=by
 intro σ b o w h wr sv lv x y hp a1 a2 a3 a4 b1 b2 b3 b4
 have t1 :=tmod_bd (x+w) a1
 have t2 :=tmod_bd (y+h) a3
 have t3 :=mul_bd a1 a2 (t :=(y+h).tmod h) (by omega) (by omega)
 unfold atC
 refine ret_gc rfl rfl ?_
 repeat' (first | refine ff ?_ | ((first | refine sR ?_ ?_ | refine sC ?_ ?_) <;> (intro hb;(try rw [hb]);(try simp only [bb] at hb);(try (exfalso;first | omega | exact hb trivial)))) | (apply endS trivial;rotate_left;(· exact eva);(· rfl);try refine⟨?_,rfl⟩) | fail)
 rfl
theorem hxC_t {W H :Nat}{wr :Bool}{e x :List Nat}{cx cy i :Nat}(h :wr=true∨(cy :Int) < (H :Int) - 1) :hxC W H wr e x cx cy i=fbin .sub .f32 (x.getD i 0) (fbin .mul .f32 0x3f000000 (fbin .sub .f32 (e.getD (atN W H cx ((cy :Int)+1)) 0) (e.getD i 0))) :=by
 unfold hxC;rw [if_pos (by rcases h with h | h <;> simp [h])]
theorem hxC_f {W H :Nat}{wr :Bool}{e x :List Nat}{cx cy i :Nat}(h1 :wr=false)(h2 :¬ (cy :Int) < (H :Int) - 1) :hxC W H wr e x cx cy i=x.getD i 0 :=by
 unfold hxC;rw [if_neg (by rw [h1,Bool.false_or,decide_eq_true_eq];exact h2)]
theorem hyC_t {W H :Nat}{wr :Bool}{e y :List Nat}{cx cy i :Nat}(h :wr=true∨(cx :Int) < (W :Int) - 1) :hyC W H wr e y cx cy i=fbin .add .f32 (y.getD i 0) (fbin .mul .f32 0x3f000000 (fbin .sub .f32 (e.getD (atN W H ((cx :Int)+1) cy) 0) (e.getD i 0))) :=by
 unfold hyC;rw [if_pos (by rcases h with h | h <;> simp [h])]
theorem hyC_f {W H :Nat}{wr :Bool}{e y :List Nat}{cx cy i :Nat}(h1 :wr=false)(h2 :¬ (cx :Int) < (W :Int) - 1) :hyC W H wr e y cx cy i=y.getD i 0 :=by
 unfold hyC;rw [if_neg (by rw [h1,Bool.false_or,decide_eq_true_eq];exact h2)]
def spec_l03HalfX_ok (c :Contract) :Prop :=∀ (σ :Heap)(b o p q :Nat)(W H :Nat)(wr :Bool)(sv lv ev xv yv :Value)(N :Nat)(e x y :List Nat)(cx cy :Nat),PtAt σ b o [.int .i64 W,.int .i64 H,.bool wr,sv,lv]→PtAt σ p q [ev,xv,yv]→FlR σ ev xv yv e x y→3 ≤ W→W ≤ 16→3 ≤ H→H ≤ 16→W * H=N→e.length=N→x.length=N→y.length=N→cx < W→cy < H →
 Ret c [.pointer (some ⟨b,o,none⟩),.pointer (some ⟨p,q,none⟩),.int .i64 cx,.int .i64 cy] σ fun v σ' =>v = .float .f32 (hxC W H wr e x cx cy (W * cy+cx))∧σ'=σ
theorem spec_l03HalfX_law {C :Ctab}{i1 :FuncId}{c1 :Contract}(h1 :Has C i1 c1 spec_l03At_ok) :spec_l03HalfX_ok (gcC C (spec_l03HalfX i1) true) :=by
 intro σ b o p q W H wr sv lv ev xv yv N e x y cx cy hs hp ⟨r3,r4,r5⟩ a1 a2 a3 a4 hN e3 e4 e5 hx hy
 have hN2 :W * H ≤ 256 :=Nat.mul_le_mul a2 a4
 have hlt :=cell_lt hx hy
 obtain⟨j,hj⟩ :∃ j,j=W * cy+cx :=⟨_,rfl⟩
 have at0 :atC W H cx cy=(j :Int) :=by rw [atC_cell hx hy,hj]
 have at1 :=atC_atN (W :=W) (H :=H) (u :=cx) (v :=(cy :Int)+1) a1 a3 (by omega) (by omega) (by omega) (by omega)
 have bt1 :=atN_lt (W :=W) (H :=H) (u :=cx) (v :=(cy :Int)+1) a1 a3 (by omega) (by omega) (by omega) (by omega)
 rw [← hj]
 cases wr
 ·by_cases hc :(cy :Int) < (H :Int) - 1
  ·rw [hxC_t (.inr hc)]
   refine ret_gc rfl rfl ?_
   repeat' (first | refine ff ?_ | (apply EvR.aCall h1.at_;(· exact eva);(· apply h1.ok <;> exact sid);(rintro _ _ ⟨rfl,rfl⟩;refine EvR.nrm ?_;try simp only [at0,at1])) | ((first | refine sR ?_ ?_ | refine sC ?_ ?_) <;> (intro hb;(try rw [hb]);(try simp only [bb] at hb);(try (exfalso;first | omega | exact hb trivial)))) | (apply endS trivial;rotate_left;(· exact eva);(· rfl);try refine⟨?_,rfl⟩) | fail)
   all_goals rfl
  ·rw [hxC_f rfl hc]
   refine ret_gc rfl rfl ?_
   repeat' (first | refine ff ?_ | (apply EvR.aCall h1.at_;(· exact eva);(· apply h1.ok <;> exact sid);(rintro _ _ ⟨rfl,rfl⟩;refine EvR.nrm ?_;try simp only [at0,at1])) | ((first | refine sR ?_ ?_ | refine sC ?_ ?_) <;> (intro hb;(try rw [hb]);(try simp only [bb] at hb);(try (exfalso;first | omega | exact hb trivial)))) | (apply endS trivial;rotate_left;(· exact eva);(· rfl);try refine⟨?_,rfl⟩) | fail)
   all_goals rfl
 ·rw [hxC_t (.inl rfl)]
  refine ret_gc rfl rfl ?_
  repeat' (first | refine ff ?_ | (apply EvR.aCall h1.at_;(· exact eva);(· apply h1.ok <;> exact sid);(rintro _ _ ⟨rfl,rfl⟩;refine EvR.nrm ?_;try simp only [at0,at1])) | ((first | refine sR ?_ ?_ | refine sC ?_ ?_) <;> (intro hb;(try rw [hb]);(try simp only [bb] at hb);(try (exfalso;first | omega | exact hb trivial)))) | (apply endS trivial;rotate_left;(· exact eva);(· rfl);try refine⟨?_,rfl⟩) | fail)
  all_goals rfl
abbrev spec_l03HalfY_ok (c :Contract) :Prop :=∀ (σ :Heap)(b o p q :Nat)(W H :Nat)(wr :Bool)(sv lv ev xv yv :Value)(N :Nat)(e x y :List Nat)(cx cy :Nat),PtAt σ b o [.int .i64 W,.int .i64 H,.bool wr,sv,lv]→PtAt σ p q [ev,xv,yv]→FlR σ ev xv yv e x y→3 ≤ W→W ≤ 16→3 ≤ H→H ≤ 16→W * H=N→e.length=N→x.length=N→y.length=N→cx < W→cy < H →
 Ret c [.pointer (some ⟨b,o,none⟩),.pointer (some ⟨p,q,none⟩),.int .i64 cx,.int .i64 cy] σ fun v σ' =>v = .float .f32 (hyC W H wr e y cx cy (W * cy+cx))∧σ'=σ
theorem spec_l03HalfY_law {C :Ctab}{i1 :FuncId}{c1 :Contract}(h1 :Has C i1 c1 spec_l03At_ok) :spec_l03HalfY_ok (gcC C (spec_l03HalfY i1) true) :=by
 intro σ b o p q W H wr sv lv ev xv yv N e x y cx cy hs hp ⟨r3,r4,r5⟩ a1 a2 a3 a4 hN e3 e4 e5 hx hy
 have hN2 :W * H ≤ 256 :=Nat.mul_le_mul a2 a4
 have hlt :=cell_lt hx hy
 obtain⟨j,hj⟩ :∃ j,j=W * cy+cx :=⟨_,rfl⟩
 have at0 :atC W H cx cy=(j :Int) :=by rw [atC_cell hx hy,hj]
 have at1 :=atC_atN (W :=W) (H :=H) (u :=(cx :Int)+1) (v :=cy) a1 a3 (by omega) (by omega) (by omega) (by omega)
 have bt1 :=atN_lt (W :=W) (H :=H) (u :=(cx :Int)+1) (v :=cy) a1 a3 (by omega) (by omega) (by omega) (by omega)
 rw [← hj]
 cases wr
 ·by_cases hc :(cx :Int) < (W :Int) - 1
  ·rw [hyC_t (.inr hc)]
   refine ret_gc rfl rfl ?_
   repeat' (first | refine ff ?_ | (apply EvR.aCall h1.at_;(· exact eva);(· apply h1.ok <;> exact sid);(rintro _ _ ⟨rfl,rfl⟩;refine EvR.nrm ?_;try simp only [at0,at1])) | ((first | refine sR ?_ ?_ | refine sC ?_ ?_) <;> (intro hb;(try rw [hb]);(try simp only [bb] at hb);(try (exfalso;first | omega | exact hb trivial)))) | (apply endS trivial;rotate_left;(· exact eva);(· rfl);try refine⟨?_,rfl⟩) | fail)
   all_goals rfl
  ·rw [hyC_f rfl hc]
   refine ret_gc rfl rfl ?_
   repeat' (first | refine ff ?_ | (apply EvR.aCall h1.at_;(· exact eva);(· apply h1.ok <;> exact sid);(rintro _ _ ⟨rfl,rfl⟩;refine EvR.nrm ?_;try simp only [at0,at1])) | ((first | refine sR ?_ ?_ | refine sC ?_ ?_) <;> (intro hb;(try rw [hb]);(try simp only [bb] at hb);(try (exfalso;first | omega | exact hb trivial)))) | (apply endS trivial;rotate_left;(· exact eva);(· rfl);try refine⟨?_,rfl⟩) | fail)
   all_goals rfl
 ·rw [hyC_t (.inl rfl)]
  refine ret_gc rfl rfl ?_
  repeat' (first | refine ff ?_ | (apply EvR.aCall h1.at_;(· exact eva);(· apply h1.ok <;> exact sid);(rintro _ _ ⟨rfl,rfl⟩;refine EvR.nrm ?_;try simp only [at0,at1])) | ((first | refine sR ?_ ?_ | refine sC ?_ ?_) <;> (intro hb;(try rw [hb]);(try simp only [bb] at hb);(try (exfalso;first | omega | exact hb trivial)))) | (apply endS trivial;rotate_left;(· exact eva);(· rfl);try refine⟨?_,rfl⟩) | fail)
  all_goals rfl
def spec_l03Half_ok (c :Contract) :Prop :=∀ (σ :Heap)(b o p :Nat)(W H :Nat)(wr :Bool)(sv lv ev xv yv :Value)(N :Nat)(e x y :List Nat),PtAt σ b o [.int .i64 W,.int .i64 H,.bool wr,sv,lv]→PtAt σ p 0 [ev,xv,yv]→FlR σ ev xv yv e x y→3 ≤ W→W ≤ 16→3 ≤ H→H ≤ 16→W * H=N→e.length=N→x.length=N→y.length=N →
 Ret c [.pointer (some ⟨b,o,none⟩),.pointer (some ⟨p,0,none⟩)] σ fun v σ' =>v=fV (slV σ.length N) (slV (σ.length+1) N) (slV (σ.length+2) N)∧σ'=σ++[rowO e,rowO (halfX W H wr e x),rowO (halfY W H wr e y)]
theorem spec_l03Half_law {C :Ctab}{i1 i2 i3 i4 :FuncId}{c1 c2 c3 c4 :Contract}(h1 :Has C i1 c1 spec_l02Own_ok)(h2 :Has C i2 c2 spec_l03At_ok)(h3 :Has C i3 c3 spec_l03HalfX_ok)(h4 :Has C i4 c4 spec_l03HalfY_ok) :spec_l03Half_ok (gcC C (spec_l03Half i1 i2 i3 i4) true) :=by
 intro σ b o p W H wr sv lv ev xv yv N e x y hs hp ⟨r3,r4,r5⟩ a1 a2 a3 a4 hN e3 e4 e5
 have hN2 :W * H ≤ 256 :=Nat.mul_le_mul a2 a4
 obtain⟨gx,egx⟩ :∃ g,g=hxF W H wr e x :=⟨_,rfl⟩
 obtain⟨gy,egy⟩ :∃ g,g=hyF W H wr e y :=⟨_,rfl⟩
 show Ret _ _ _ fun v σ' =>v=fV (slV σ.length N) (slV (σ.length+1) N) (slV (σ.length+2) N)∧σ'=σ++[rowO e,rowO (newM (hxF W H wr e x) x),rowO (newM (hyF W H wr e y) y)]
 rw [← egx,← egy]
 refine ret_gc rfl rfl ?_
 repeat' (first | refine ff ?_ | ((first | refine sR ?_ ?_ | refine sC ?_ ?_) <;> (intro hb;(try rw [hb]);(try simp only [bb] at hb);(try (exfalso;first | omega | exact hb trivial)))) | (apply endS trivial;rotate_left;(· exact eva);(· rfl);try refine⟨?_,rfl⟩) | fail)
 (apply EvR.aCall h1.at_;(· exact eva);(· exact  h1.ok _ p ev xv yv e x y (hp.ext _) ⟨r3.ext _,r4.ext _,r5.ext _⟩ (by omega) (by omega) (by omega));(rintro _ _ ⟨rfl,rfl⟩;refine EvR.nrm ?_))
 rw [e3,e4,e5]
 repeat' (first | refine ff ?_ | ((first | refine sR ?_ ?_ | refine sC ?_ ?_) <;> (intro hb;(try rw [hb]);(try simp only [bb] at hb);(try (exfalso;first | omega | exact hb trivial)))) | (apply endS trivial;rotate_left;(· exact eva);(· rfl);try refine⟨?_,rfl⟩) | fail)
 refine Ev.whlH (S :=Nat) (fun cy =>H - cy) (fun cy =>[(6,.int .i64 cy)]) (fun cy =>σ++[⟨[.slice none 0 0,.slice none 0 0,.slice none 0 0],0,true⟩,rowO e,rowO (preM gx x (W * cy)),rowO (preM gy y (W * cy)),
  ⟨[slV (σ.length+1) N,slV (σ.length+2) N,slV (σ.length+3) N],0,true⟩]) (fun cy =>cy ≤ H) 0 (by exact tF) (by rw [Nat.mul_zero,preM_zero,preM_zero]) (Nat.zero_le _) ?_
 rintro cy F hF hi
 (simp only [List.cons_append,List.nil_append,↓fget_cons,fkeep_cons,fkeep_nil,Nat.reduceEqDiff,reduceIte] at hF;subst hF)
 by_cases hlt :cy < H
 ·repeat' (first | refine ff ?_ | ((first | refine sR ?_ ?_ | refine sC ?_ ?_) <;> (intro hb;(try rw [hb]);(try simp only [bb] at hb);(try (exfalso;first | omega | exact hb trivial)))) | (apply endS trivial;rotate_left;(· exact eva);(· rfl);try refine⟨?_,rfl⟩) | fail)
  refine Ev.whlH (S :=Nat) (fun cx =>W - cx) (fun cx =>[(7,.int .i64 cx)]) (fun cx =>σ++[⟨[.slice none 0 0,.slice none 0 0,.slice none 0 0],0,true⟩,rowO e,rowO (preM gx x (W * cy+cx)),rowO (preM gy y (W * cy+cx)),
   ⟨[slV (σ.length+1) N,slV (σ.length+2) N,slV (σ.length+3) N],0,true⟩]) (fun cx =>cx ≤ W) 0 (by exact tF) rfl (Nat.zero_le _) ?_
  rintro cx F hF hi2
  (simp only [List.cons_append,List.nil_append,↓fget_cons,fkeep_cons,fkeep_nil,Nat.reduceEqDiff,reduceIte] at hF;subst hF)
  have hWs :W * cy+W ≤ N :=by rw [← hN,← Nat.mul_succ];exact Nat.mul_le_mul_left W hlt
  by_cases hlt2 :cx < W
  ·obtain⟨j,hj⟩ :∃ j,j=W * cy+cx :=⟨_,rfl⟩
   have at0 :atC W H cx cy=(j :Int) :=by rw [atC_cell hlt2 hlt,hj]
   have vx :hxC W H wr e x cx cy (W * cy+cx)=gx j :=by rw [egx,hj,hxF_at hlt2]
   have vy :hyC W H wr e y cx cy (W * cy+cx)=gy j :=by rw [egy,hj,hyF_at hlt2]
   have lx :=preM_length (g :=gx) (xs :=x) (j :=j) (by omega)
   have ly :=preM_length (g :=gy) (xs :=y) (j :=j) (by omega)
   have qx :=preM_set (g :=gx) (xs :=x) (j :=j) (by omega)
   have qy :=preM_set (g :=gy) (xs :=y) (j :=j) (by omega)
   rw [← hj]
   repeat' (first | refine ff ?_ | (apply EvR.aCall h2.at_;(· exact eva);(· apply h2.ok <;> exact sid);(rintro _ _ ⟨rfl,rfl⟩;refine EvR.nrm ?_;try simp only [at0])) | ((first | refine sR ?_ ?_ | refine sC ?_ ?_) <;> (intro hb;(try rw [hb]);(try simp only [bb] at hb);(try (exfalso;first | omega | exact hb trivial)))) | (apply endS trivial;rotate_left;(· exact eva);(· rfl);try refine⟨?_,rfl⟩) | fail)
   (apply EvR.aCall h3.at_;(· exact eva);(· exact  h3.ok _ b o p 0 W H wr sv lv ev xv yv N e x y cx cy (hs.ext _) (hp.ext _) ⟨r3.ext _,r4.ext _,r5.ext _⟩ a1 a2 a3 a4 hN e3 e4 e5 hlt2 hlt);(rintro _ _ ⟨rfl,rfl⟩;refine EvR.nrm ?_))
   rw [vx]
   repeat' (first | refine ff ?_ | ((first | refine sR ?_ ?_ | refine sC ?_ ?_) <;> (intro hb;(try rw [hb]);(try simp only [bb] at hb);(try (exfalso;first | omega | exact hb trivial)))) | (apply endS trivial;rotate_left;(· exact eva);(· rfl);try refine⟨?_,rfl⟩) | fail)
   rw [qx]
   repeat' (first | refine ff ?_ | ((first | refine sR ?_ ?_ | refine sC ?_ ?_) <;> (intro hb;(try rw [hb]);(try simp only [bb] at hb);(try (exfalso;first | omega | exact hb trivial)))) | (apply endS trivial;rotate_left;(· exact eva);(· rfl);try refine⟨?_,rfl⟩) | fail)
   (apply EvR.aCall h4.at_;(· exact eva);(· exact  h4.ok _ b o p 0 W H wr sv lv ev xv yv N e x y cx cy (hs.ext _) (hp.ext _) ⟨r3.ext _,r4.ext _,r5.ext _⟩ a1 a2 a3 a4 hN e3 e4 e5 hlt2 hlt);(rintro _ _ ⟨rfl,rfl⟩;refine EvR.nrm ?_))
   rw [vy]
   repeat' (first | refine ff ?_ | ((first | refine sR ?_ ?_ | refine sC ?_ ?_) <;> (intro hb;(try rw [hb]);(try simp only [bb] at hb);(try (exfalso;first | omega | exact hb trivial)))) | (apply endS trivial;rotate_left;(· exact eva);(· rfl);try refine⟨?_,rfl⟩) | fail)
   exact⟨cx+1,by omega,by exact tF,by rw [qy,hj];rfl,by omega⟩
  ·obtain rfl :cx=W :=by omega
   repeat' (first | refine ff ?_ | ((first | refine sR ?_ ?_ | refine sC ?_ ?_) <;> (intro hb;(try rw [hb]);(try simp only [bb] at hb);(try (exfalso;first | omega | exact hb trivial)))) | (apply endS trivial;rotate_left;(· exact eva);(· rfl);try refine⟨?_,rfl⟩) | fail)
   exact⟨cy+1,by omega,by exact tF,by rw [Nat.mul_succ],by omega⟩
 ·obtain rfl :cy=H :=by omega
  repeat' (first | refine ff ?_ | ((first | refine sR ?_ ?_ | refine sC ?_ ?_) <;> (intro hb;(try rw [hb]);(try simp only [bb] at hb);(try (exfalso;first | omega | exact hb trivial)))) | (apply endS trivial;rotate_left;(· exact eva);(· rfl);try refine⟨?_,rfl⟩) | fail)
  rw [hN,show preM gx x N=newM gx x from by rw [← e4];exact preM_end,show preM gy y N=newM gy y from by rw [← e5];exact preM_end]
  (apply endR [1,2,3] trivial ⟨rfl,rfl⟩;(· exact eva);(· simp [gcTop,gcVal,gcLeaf,gcLeaves,gcVals,constOk,gc_lt,gc_lt0]);(· rfl);(· decide);(· simp [allConst,f32s,i64s,b8s,bools,constOk]))
def spec_l03Rest_ok (c :Contract) :Prop :=∀ (σ :Heap)(b o p q :Nat)(W H :Nat)(wr :Bool)(sv lv ev xv yv :Value)(N :Nat)(sp lo e x y :List Nat)(cx cy :Nat),PtAt σ b o [.int .i64 W,.int .i64 H,.bool wr,sv,lv]→PtAt σ p q [ev,xv,yv]→ShR σ sv lv sp lo→FlR σ ev xv yv e x y→3 ≤ W→W ≤ 16→3 ≤ H→H ≤ 16→W * H=N→sp.length=N→lo.length=N→e.length=N→x.length=N→y.length=N→cx < W→cy < H →
 Ret c [.pointer (some ⟨b,o,none⟩),.pointer (some ⟨p,q,none⟩),.int .i64 cx,.int .i64 cy] σ fun v σ' =>v = .float .f32 (seC W H wr sp lo e x y cx cy (W * cy+cx))∧σ'=σ
theorem spec_l03Rest_law {C :Ctab}{i1 i2 :FuncId}{c1 c2 :Contract}(h1 :Has C i1 c1 spec_l03At_ok)(h2 :Has C i2 c2 spec_l02Border_ok) :spec_l03Rest_ok (gcC C (spec_l03Rest i1 i2) true) :=by
 intro σ b o p q W H wr sv lv ev xv yv N sp lo e x y cx cy hs hp ⟨r1,r2⟩ ⟨r3,r4,r5⟩ a1 a2 a3 a4 hN e1 e2 e3 e4 e5 hx hy
 have hN2 :W * H ≤ 256 :=Nat.mul_le_mul a2 a4
 have hlt :=cell_lt hx hy
 obtain⟨j,hj⟩ :∃ j,j=W * cy+cx :=⟨_,rfl⟩
 have at0 :atC W H cx cy=(j :Int) :=by rw [atC_cell hx hy,hj]
 have at1 :=atC_atN (W :=W) (H :=H) (u :=cx) (v :=(cy :Int) - 1) a1 a3 (by omega) (by omega) (by omega) (by omega)
 have at2 :=atC_atN (W :=W) (H :=H) (u :=(cx :Int) - 1) (v :=cy) a1 a3 (by omega) (by omega) (by omega) (by omega)
 have bt1 :=atN_lt (W :=W) (H :=H) (u :=cx) (v :=(cy :Int) - 1) a1 a3 (by omega) (by omega) (by omega) (by omega)
 have bt2 :=atN_lt (W :=W) (H :=H) (u :=(cx :Int) - 1) (v :=cy) a1 a3 (by omega) (by omega) (by omega) (by omega)
 rw [← hj]
 unfold seC newE
 cases hbd :border W H wr cx cy
 ·rw [if_neg (by simp)]
  refine ret_gc rfl rfl ?_
  repeat' (first | refine ff ?_ | (apply EvR.aCall h1.at_;(· exact eva);(· apply h1.ok <;> exact sid);(rintro _ _ ⟨rfl,rfl⟩;refine EvR.nrm ?_;try simp only [at0,at1,at2,hbd])) | (apply EvR.aCall h2.at_;(· exact eva);(· apply h2.ok <;> exact sid);(rintro _ _ ⟨rfl,rfl⟩;refine EvR.nrm ?_;try simp only [at0,at1,at2,hbd])) | ((first | refine sR ?_ ?_ | refine sC ?_ ?_) <;> (intro hb;(try rw [hb]);(try simp only [bb] at hb);(try (exfalso;first | omega | exact hb trivial)))) | (apply endS trivial;rotate_left;(· exact eva);(· rfl);try refine⟨?_,rfl⟩) | fail)
  all_goals rfl
 ·rw [if_pos rfl]
  have hw :wr=false :=by unfold border at hbd;cases wr <;> simp_all
  subst hw
  refine ret_gc rfl rfl ?_
  repeat' (first | refine ff ?_ | (apply EvR.aCall h1.at_;(· exact eva);(· apply h1.ok <;> exact sid);(rintro _ _ ⟨rfl,rfl⟩;refine EvR.nrm ?_;try simp only [at0,at1,at2,hbd])) | (apply EvR.aCall h2.at_;(· exact eva);(· apply h2.ok <;> exact sid);(rintro _ _ ⟨rfl,rfl⟩;refine EvR.nrm ?_;try simp only [at0,at1,at2,hbd])) | ((first | refine sR ?_ ?_ | refine sC ?_ ?_) <;> (intro hb;(try rw [hb]);(try simp only [bb] at hb);(try (exfalso;first | omega | exact hb trivial)))) | (apply endS trivial;rotate_left;(· exact eva);(· rfl);try refine⟨?_,rfl⟩) | fail)
  all_goals rfl
end Go.Abs
