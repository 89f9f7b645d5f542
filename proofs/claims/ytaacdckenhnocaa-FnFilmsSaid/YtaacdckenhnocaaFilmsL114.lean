/- Law of a row's function: films are loaded as they were stored, and of bytes a beginning is recovered. Conditions: the laws of what it calls. -/
import Derived.Test.YtaacdckenhnocaaFilmsL113
import Derived.Test.YtaacdckenhnocaaFilmsL39
import Derived.Test.YtaacdckenhnocaaFilmsL85
import Derived.Test.YtaacdckenhnocaaFilmsL68
namespace Go.Abs
set_option linter.unusedSimpArgs false
set_option linter.unusedVariables false
set_option maxHeartbeats 8000000
set_option maxRecDepth 20000
def laws_FnFilms_r0 :List SOper :=[
 ⟨some 4,none,.mov (.const (.bool false)),0⟩]
def laws_FnFilms_r1 (i_laws_r8Long :FuncId) :List SOper :=[
 ⟨some 31,none,.mov (.tmp 0),0⟩,
 ⟨some 32,none,.mov (.tmp 1),0⟩,
 ⟨some 33,none,.call (.func i_laws_r8Long) [(.tmp 31),(.tmp 32)],3⟩]
def laws_FnFilms_r2 :List SOper :=[
 ⟨some 4,none,.mov (.const (.bool true)),0⟩]
def laws_FnFilms_r3 (i_spec_R8Film :FuncId) :List SOper :=[
 ⟨some 34,none,.mov (.tmp 0),0⟩,
 ⟨some 35,none,.call (.func i_spec_R8Film) [(.tmp 34)],1⟩,
 ⟨some 5,none,.alloc [(.int .i64 0),(.int .i64 0),(.bool false),(.slice none 0 0),(.slice none 0 0),(.slice none 0 0)],0⟩,
 ⟨none,none,.store 6 (.tmp 5) (.tmp 35),7⟩]
def laws_FnFilms_r4 (i_impl_StoreFilm :FuncId) :List SOper :=[
 ⟨some 37,none,.loadN 6 (.tmp 5),0⟩,
 ⟨some 38,none,.call (.func i_impl_StoreFilm) [(.tmp 37)],1⟩,
 ⟨some 36,none,.mov (.tmp 38),3⟩,
 ⟨some 39,none,.extract (.tmp 36) 0,7⟩,
 ⟨some 40,none,.extract (.tmp 36) 1,7⟩,
 ⟨some 6,none,.mov (.tmp 39),15⟩,
 ⟨some 7,none,.mov (.tmp 40),63⟩]
def laws_FnFilms_r5 (i_impl_LoadFilm :FuncId) :List SOper :=[
 ⟨some 42,none,.mov (.tmp 6),0⟩,
 ⟨some 43,none,.call (.func i_impl_LoadFilm) [(.tmp 42)],1⟩,
 ⟨some 41,none,.mov (.tmp 43),3⟩,
 ⟨some 44,none,.extract (.tmp 41) 0,7⟩,
 ⟨some 45,none,.extract (.tmp 41) 1,7⟩,
 ⟨some 8,none,.alloc [(.int .i64 0),(.int .i64 0),(.bool false),(.slice none 0 0),(.slice none 0 0),(.slice none 0 0)],0⟩,
 ⟨none,none,.store 6 (.tmp 8) (.tmp 44),47⟩,
 ⟨some 9,none,.mov (.tmp 45),127⟩]
def laws_FnFilms_r6 (i_impl_StoreSheet :FuncId) :List SOper :=[
 ⟨some 47,none,.fieldAddr 0 (.tmp 5),0⟩,
 ⟨some 48,none,.loadN 5 (.tmp 47),1⟩,
 ⟨some 49,none,.call (.func i_impl_StoreSheet) [(.tmp 48)],3⟩,
 ⟨some 46,none,.mov (.tmp 49),7⟩,
 ⟨some 50,none,.extract (.tmp 46) 0,15⟩,
 ⟨some 51,none,.extract (.tmp 46) 1,15⟩,
 ⟨some 10,none,.mov (.tmp 50),31⟩,
 ⟨some 11,none,.mov (.tmp 51),127⟩]
def laws_FnFilms_r7 (i_impl_LoadSheet :FuncId) :List SOper :=[
 ⟨some 53,none,.mov (.tmp 10),0⟩,
 ⟨some 54,none,.call (.func i_impl_LoadSheet) [(.tmp 53)],1⟩,
 ⟨some 52,none,.mov (.tmp 54),3⟩,
 ⟨some 55,none,.extract (.tmp 52) 0,7⟩,
 ⟨some 56,none,.extract (.tmp 52) 1,7⟩,
 ⟨some 12,none,.alloc [(.int .i64 0),(.int .i64 0),(.bool false),(.slice none 0 0),(.slice none 0 0)],0⟩,
 ⟨none,none,.store 5 (.tmp 12) (.tmp 55),47⟩,
 ⟨some 13,none,.mov (.tmp 56),127⟩]
def laws_FnFilms_r8 (i_impl_ValidFilm i_impl_SameFilm i_impl_SameSheet :FuncId) :List SOper :=[
 ⟨some 57,none,.mov (.tmp 7),0⟩,
 ⟨some 58,none,.un .not (.tmp 57),1⟩,
 ⟨some 59,none,.mov (.tmp 58),3⟩,
  ⟨(some 60),(some (59,false)),.mov (.tmp 9),7⟩,
  ⟨(some 61),(some (59,false)),.un .not (.tmp 60),15⟩,
 ⟨some 62,none,.pick (.tmp 59) (.const (.bool true)) (.tmp 61),31⟩,
 ⟨some 63,none,.mov (.tmp 62),63⟩,
  ⟨(some 64),(some (63,false)),.mov (.tmp 11),127⟩,
  ⟨(some 65),(some (63,false)),.un .not (.tmp 64),255⟩,
 ⟨some 66,none,.pick (.tmp 63) (.const (.bool true)) (.tmp 65),511⟩,
 ⟨some 67,none,.mov (.tmp 66),1023⟩,
  ⟨(some 68),(some (67,false)),.mov (.tmp 13),2047⟩,
  ⟨(some 69),(some (67,false)),.un .not (.tmp 68),4095⟩,
 ⟨some 70,none,.pick (.tmp 67) (.const (.bool true)) (.tmp 69),8191⟩,
 ⟨some 71,none,.mov (.tmp 70),16383⟩,
  ⟨(some 72),(some (71,false)),.loadN 6 (.tmp 5),32767⟩,
  ⟨(some 73),(some (71,false)),.call (.func i_impl_ValidFilm) [(.tmp 72)],65535⟩,
  ⟨(some 74),(some (71,false)),.un .not (.tmp 73),131071⟩,
 ⟨some 75,none,.pick (.tmp 71) (.const (.bool true)) (.tmp 74),262143⟩,
 ⟨some 76,none,.mov (.tmp 75),524287⟩,
  ⟨(some 77),(some (76,false)),.loadN 6 (.tmp 8),1048575⟩,
  ⟨(some 78),(some (76,false)),.loadN 6 (.tmp 5),1048575⟩,
  ⟨(some 79),(some (76,false)),.call (.func i_impl_SameFilm) [(.tmp 77),(.tmp 78)],4194303⟩,
  ⟨(some 80),(some (76,false)),.un .not (.tmp 79),8388607⟩,
 ⟨some 81,none,.pick (.tmp 76) (.const (.bool true)) (.tmp 80),16777215⟩,
 ⟨some 82,none,.mov (.tmp 81),33554431⟩,
  ⟨(some 83),(some (82,false)),.loadN 5 (.tmp 12),67108863⟩,
  ⟨(some 84),(some (82,false)),.fieldAddr 0 (.tmp 5),67108863⟩,
  ⟨(some 85),(some (82,false)),.loadN 5 (.tmp 84),201326591⟩,
  ⟨(some 86),(some (82,false)),.call (.func i_impl_SameSheet) [(.tmp 83),(.tmp 85)],536870911⟩,
  ⟨(some 87),(some (82,false)),.un .not (.tmp 86),1073741823⟩,
 ⟨some 88,none,.pick (.tmp 82) (.const (.bool true)) (.tmp 87),2147483647⟩,
 ⟨some 89,none,.mov (.tmp 88),4294967295⟩,
  ⟨(some 90),(some (89,false)),.mov (.tmp 10),8589934591⟩,
  ⟨(some 91),(some (89,false)),.len true (.tmp 90),17179869183⟩,
  ⟨(some 92),(some (89,false)),.mov (.tmp 6),8589934591⟩,
  ⟨(some 93),(some (89,false)),.len true (.tmp 92),42949672959⟩,
  ⟨(some 94),(some (89,false)),.bin .gtr .other (.tmp 91) (.tmp 93),137438953471⟩,
 ⟨some 95,none,.pick (.tmp 89) (.const (.bool true)) (.tmp 94),274877906943⟩,
 ⟨some 96,none,.mov (.tmp 95),549755813887⟩,
  ⟨(some 97),(some (96,false)),.mov (.tmp 6),1099511627775⟩,
  ⟨(some 98),(some (96,false)),.mov (.tmp 10),1099511627775⟩,
  ⟨(some 99),(some (96,false)),.len true (.tmp 98),3298534883327⟩,
  ⟨(some 100),(some (96,false)),.sliceStr (.tmp 97) none (some (.tmp 99)),8796093022207⟩,
  ⟨(some 101),(some (96,false)),.mov (.tmp 10),1099511627775⟩,
  ⟨(some 102),(some (96,false)),.bin .neq .other (.tmp 100) (.tmp 101),35184372088831⟩,
 ⟨some 103,none,.pick (.tmp 96) (.const (.bool true)) (.tmp 102),70368744177663⟩]
def laws_FnFilms_r9 :List SOper :=[
 ⟨some 4,none,.mov (.const (.bool false)),0⟩]
def laws_FnFilms_r10 :List SOper :=[
 ⟨some 104,none,.mov (.tmp 6),0⟩,
 ⟨some 105,none,.len true (.tmp 104),1⟩,
 ⟨some 14,none,.mov (.tmp 105),3⟩]
def laws_FnFilms_r11 (i_laws_r8At :FuncId) :List SOper :=[
 ⟨some 106,none,.mov (.tmp 10),0⟩,
 ⟨some 107,none,.len true (.tmp 106),1⟩,
 ⟨some 108,none,.mov (.tmp 1),0⟩,
 ⟨some 109,none,.call (.func i_laws_r8At) [(.tmp 108),(.const (.int .i64 0)),(.const (.int .i64 256))],4⟩,
 ⟨some 110,none,.bin .mul .other (.const (.int .i64 256)) (.tmp 109),12⟩,
 ⟨some 111,none,.mov (.tmp 1),0⟩,
 ⟨some 112,none,.call (.func i_laws_r8At) [(.tmp 111),(.const (.int .i64 1)),(.const (.int .i64 256))],44⟩,
 ⟨some 113,none,.bin .add .other (.tmp 110) (.tmp 112),124⟩,
 ⟨some 114,none,.mov (.tmp 14),0⟩,
 ⟨some 115,none,.mov (.tmp 10),0⟩,
 ⟨some 116,none,.len true (.tmp 115),512⟩,
 ⟨some 117,none,.bin .sub .other (.tmp 114) (.tmp 116),1792⟩,
 ⟨some 118,none,.bin .add .other (.tmp 117) (.const (.int .i64 1)),3840⟩,
 ⟨some 119,none,.bin .rem .other (.tmp 113) (.tmp 118),8188⟩,
 ⟨some 120,none,.bin .add .other (.tmp 107) (.tmp 119),16383⟩,
 ⟨some 15,none,.mov (.tmp 120),32767⟩]
def laws_FnFilms_r12 (i_impl_RecoverFilm :FuncId) :List SOper :=[
 ⟨some 122,none,.mov (.tmp 6),0⟩,
 ⟨some 123,none,.mov (.tmp 15),0⟩,
 ⟨some 124,none,.sliceStr (.tmp 122) none (some (.tmp 123)),3⟩,
 ⟨some 125,none,.call (.func i_impl_RecoverFilm) [(.tmp 124)],7⟩,
 ⟨some 121,none,.mov (.tmp 125),15⟩,
 ⟨some 126,none,.extract (.tmp 121) 0,31⟩,
 ⟨some 127,none,.extract (.tmp 121) 1,31⟩,
 ⟨some 128,none,.extract (.tmp 121) 2,31⟩,
 ⟨some 16,none,.alloc [(.int .i64 0),(.int .i64 0),(.bool false),(.slice none 0 0),(.slice none 0 0),(.slice none 0 0)],0⟩,
 ⟨none,none,.store 6 (.tmp 16) (.tmp 126),319⟩,
 ⟨some 17,none,.mov (.tmp 127),895⟩,
 ⟨some 18,none,.mov (.tmp 128),2047⟩]
def laws_FnFilms_r13 (i_impl_StoreFilm :FuncId) :List SOper :=[
 ⟨some 130,none,.loadN 6 (.tmp 16),0⟩,
 ⟨some 131,none,.call (.func i_impl_StoreFilm) [(.tmp 130)],1⟩,
 ⟨some 129,none,.mov (.tmp 131),3⟩,
 ⟨some 132,none,.extract (.tmp 129) 0,7⟩,
 ⟨some 133,none,.extract (.tmp 129) 1,7⟩,
 ⟨some 19,none,.mov (.tmp 132),15⟩,
 ⟨some 20,none,.mov (.tmp 133),63⟩]
def laws_FnFilms_r14 :List SOper :=[
 ⟨some 134,none,.mov (.tmp 18),0⟩,
 ⟨some 135,none,.un .not (.tmp 134),1⟩,
 ⟨some 136,none,.mov (.tmp 135),3⟩,
  ⟨(some 137),(some (136,false)),.mov (.tmp 20),7⟩,
  ⟨(some 138),(some (136,false)),.un .not (.tmp 137),15⟩,
 ⟨some 139,none,.pick (.tmp 136) (.const (.bool true)) (.tmp 138),31⟩,
 ⟨some 140,none,.mov (.tmp 139),63⟩,
  ⟨(some 141),(some (140,false)),.mov (.tmp 17),127⟩,
  ⟨(some 142),(some (140,false)),.mov (.tmp 15),127⟩,
  ⟨(some 143),(some (140,false)),.bin .gtr .other (.tmp 141) (.tmp 142),511⟩,
 ⟨some 144,none,.pick (.tmp 140) (.const (.bool true)) (.tmp 143),1023⟩,
 ⟨some 145,none,.mov (.tmp 144),2047⟩,
  ⟨(some 146),(some (145,false)),.mov (.tmp 19),4095⟩,
  ⟨(some 147),(some (145,false)),.mov (.tmp 6),4095⟩,
  ⟨(some 148),(some (145,false)),.mov (.tmp 17),4095⟩,
  ⟨(some 149),(some (145,false)),.sliceStr (.tmp 147) none (some (.tmp 148)),28671⟩,
  ⟨(some 150),(some (145,false)),.bin .neq .other (.tmp 146) (.tmp 149),65535⟩,
 ⟨some 151,none,.pick (.tmp 145) (.const (.bool true)) (.tmp 150),131071⟩,
 ⟨some 152,none,.mov (.tmp 151),262143⟩,
  ⟨(some 153),(some (152,false)),.fieldAddr 5 (.tmp 16),524287⟩,
  ⟨(some 154),(some (152,false)),.load1 (.tmp 153),1048575⟩,
  ⟨(some 155),(some (152,false)),.len false (.tmp 154),2097151⟩,
  ⟨(some 156),(some (152,false)),.fieldAddr 5 (.tmp 5),524287⟩,
  ⟨(some 157),(some (152,false)),.load1 (.tmp 156),4718591⟩,
  ⟨(some 158),(some (152,false)),.len false (.tmp 157),13107199⟩,
  ⟨(some 159),(some (152,false)),.bin .gtr .other (.tmp 155) (.tmp 158),33554431⟩,
 ⟨some 160,none,.pick (.tmp 152) (.const (.bool true)) (.tmp 159),67108863⟩]
def laws_FnFilms_r15 :List SOper :=[
 ⟨some 4,none,.mov (.const (.bool false)),0⟩]
def laws_FnFilms_r16 :List SOper :=[
 ⟨some 161,none,.fieldAddr 5 (.tmp 16),0⟩,
 ⟨some 162,none,.load1 (.tmp 161),1⟩,
 ⟨some 163,none,.len false (.tmp 162),3⟩,
 ⟨some 164,none,.fieldAddr 5 (.tmp 5),0⟩,
 ⟨some 165,none,.load1 (.tmp 164),8⟩,
 ⟨some 166,none,.len false (.tmp 165),24⟩,
 ⟨some 167,none,.bin .lss .other (.tmp 163) (.tmp 166),63⟩]
def laws_FnFilms_r17 (i_impl_SliceFilm :FuncId) :List SOper :=[
 ⟨some 169,none,.loadN 6 (.tmp 5),0⟩,
 ⟨some 170,none,.fieldAddr 5 (.tmp 16),0⟩,
 ⟨some 171,none,.load1 (.tmp 170),2⟩,
 ⟨some 172,none,.len false (.tmp 171),6⟩,
 ⟨some 173,none,.bin .add .other (.tmp 172) (.const (.int .i64 1)),14⟩,
 ⟨some 174,none,.call (.func i_impl_SliceFilm) [(.tmp 169),(.const (.int .i64 0)),(.tmp 173)],31⟩,
 ⟨some 168,none,.mov (.tmp 174),63⟩,
 ⟨some 175,none,.extract (.tmp 168) 0,127⟩,
 ⟨some 176,none,.extract (.tmp 168) 1,127⟩,
 ⟨some 21,none,.alloc [(.int .i64 0),(.int .i64 0),(.bool false),(.slice none 0 0),(.slice none 0 0),(.slice none 0 0)],0⟩,
 ⟨none,none,.store 6 (.tmp 21) (.tmp 175),767⟩,
 ⟨some 22,none,.mov (.tmp 176),2047⟩]
def laws_FnFilms_r18 (i_impl_StoreFilm :FuncId) :List SOper :=[
 ⟨some 178,none,.loadN 6 (.tmp 21),0⟩,
 ⟨some 179,none,.call (.func i_impl_StoreFilm) [(.tmp 178)],1⟩,
 ⟨some 177,none,.mov (.tmp 179),3⟩,
 ⟨some 180,none,.extract (.tmp 177) 0,7⟩,
 ⟨some 181,none,.extract (.tmp 177) 1,7⟩,
 ⟨some 23,none,.mov (.tmp 180),15⟩,
 ⟨some 24,none,.mov (.tmp 181),63⟩]
def laws_FnFilms_r19 :List SOper :=[
 ⟨some 182,none,.mov (.tmp 22),0⟩,
 ⟨some 183,none,.un .not (.tmp 182),1⟩,
 ⟨some 184,none,.mov (.tmp 183),3⟩,
  ⟨(some 185),(some (184,false)),.mov (.tmp 24),7⟩,
  ⟨(some 186),(some (184,false)),.un .not (.tmp 185),15⟩,
 ⟨some 187,none,.pick (.tmp 184) (.const (.bool true)) (.tmp 186),31⟩,
 ⟨some 188,none,.mov (.tmp 187),63⟩,
  ⟨(some 189),(some (188,false)),.mov (.tmp 23),127⟩,
  ⟨(some 190),(some (188,false)),.len true (.tmp 189),255⟩,
  ⟨(some 191),(some (188,false)),.mov (.tmp 15),127⟩,
  ⟨(some 192),(some (188,false)),.bin .leq .other (.tmp 190) (.tmp 191),1023⟩,
 ⟨some 193,none,.pick (.tmp 188) (.const (.bool true)) (.tmp 192),2047⟩]
def laws_FnFilms_r20 :List SOper :=[
 ⟨some 4,none,.mov (.const (.bool false)),0⟩]
def laws_FnFilms_r21 :List SOper :=[
 ⟨some 194,none,.mov (.tmp 15),0⟩,
 ⟨some 195,none,.mov (.tmp 14),0⟩,
 ⟨some 196,none,.bin .eql .other (.tmp 194) (.tmp 195),3⟩]
def laws_FnFilms_r22 :List SOper :=[
 ⟨some 197,none,.mov (.tmp 17),0⟩,
 ⟨some 198,none,.mov (.tmp 14),0⟩,
 ⟨some 199,none,.bin .eql .other (.tmp 197) (.tmp 198),3⟩,
 ⟨some 4,none,.mov (.tmp 199),7⟩]
def laws_FnFilms_r23 (i_laws_r8At :FuncId) :List SOper :=[
 ⟨some 200,none,.mov (.tmp 6),0⟩,
 ⟨some 201,none,.mov (.tmp 15),0⟩,
 ⟨some 202,none,.sliceStr (.tmp 200) none (some (.tmp 201)),3⟩,
 ⟨some 203,none,.mov (.tmp 6),0⟩,
 ⟨some 204,none,.mov (.tmp 15),0⟩,
 ⟨some 205,none,.indexStr (.tmp 203) (.tmp 204),24⟩,
 ⟨some 206,none,.mov (.tmp 1),0⟩,
 ⟨some 207,none,.call (.func i_laws_r8At) [(.tmp 206),(.const (.int .i64 2)),(.const (.int .i64 255))],64⟩,
 ⟨some 208,none,.bin .add .other (.const (.int .i64 1)) (.tmp 207),192⟩,
 ⟨some 209,none,.conv (.toInt .u8) (.tmp 208),448⟩,
 ⟨some 210,none,.bin .xor .other (.tmp 205) (.tmp 209),1016⟩,
 ⟨some 211,none,.buildSlice 1 1 [(.int .u8 0)] [(0,1,(.tmp 210))],2040⟩,
 ⟨some 212,none,.conv .toStr (.tmp 211),4088⟩,
 ⟨some 213,none,.bin .add .other (.tmp 202) (.tmp 212),8191⟩,
 ⟨some 214,none,.mov (.tmp 6),0⟩,
 ⟨some 215,none,.mov (.tmp 15),0⟩,
 ⟨some 216,none,.bin .add .other (.tmp 215) (.const (.int .i64 1)),32768⟩,
 ⟨some 217,none,.sliceStr (.tmp 214) (some (.tmp 216)) none,114688⟩,
 ⟨some 218,none,.bin .add .other (.tmp 213) (.tmp 217),262143⟩,
 ⟨some 25,none,.mov (.tmp 218),524287⟩]
def laws_FnFilms_r24 (i_impl_RecoverFilm :FuncId) :List SOper :=[
 ⟨some 220,none,.mov (.tmp 25),0⟩,
 ⟨some 221,none,.call (.func i_impl_RecoverFilm) [(.tmp 220)],1⟩,
 ⟨some 219,none,.mov (.tmp 221),3⟩,
 ⟨some 222,none,.extract (.tmp 219) 0,7⟩,
 ⟨some 223,none,.extract (.tmp 219) 1,7⟩,
 ⟨some 224,none,.extract (.tmp 219) 2,7⟩,
 ⟨some 26,none,.alloc [(.int .i64 0),(.int .i64 0),(.bool false),(.slice none 0 0),(.slice none 0 0),(.slice none 0 0)],0⟩,
 ⟨none,none,.store 6 (.tmp 26) (.tmp 222),79⟩,
 ⟨some 27,none,.mov (.tmp 223),223⟩,
 ⟨some 28,none,.mov (.tmp 224),511⟩]
def laws_FnFilms_r25 (i_impl_StoreFilm :FuncId) :List SOper :=[
 ⟨some 226,none,.loadN 6 (.tmp 26),0⟩,
 ⟨some 227,none,.call (.func i_impl_StoreFilm) [(.tmp 226)],1⟩,
 ⟨some 225,none,.mov (.tmp 227),3⟩,
 ⟨some 228,none,.extract (.tmp 225) 0,7⟩,
 ⟨some 229,none,.extract (.tmp 225) 1,7⟩,
 ⟨some 29,none,.mov (.tmp 228),15⟩,
 ⟨some 30,none,.mov (.tmp 229),63⟩]
def laws_FnFilms_r26 :List SOper :=[
 ⟨some 230,none,.mov (.tmp 28),0⟩,
 ⟨some 231,none,.mov (.tmp 230),1⟩,
  ⟨(some 232),(some (231,true)),.mov (.tmp 30),3⟩,
 ⟨some 233,none,.pick (.tmp 231) (.tmp 232) (.const (.bool false)),7⟩,
 ⟨some 234,none,.mov (.tmp 233),15⟩,
  ⟨(some 235),(some (234,true)),.mov (.tmp 27),31⟩,
  ⟨(some 236),(some (234,true)),.mov (.tmp 17),31⟩,
  ⟨(some 237),(some (234,true)),.bin .geq .other (.tmp 235) (.tmp 236),127⟩,
 ⟨some 238,none,.pick (.tmp 234) (.tmp 237) (.const (.bool false)),255⟩,
 ⟨some 239,none,.mov (.tmp 238),511⟩,
  ⟨(some 240),(some (239,true)),.mov (.tmp 29),1023⟩,
  ⟨(some 241),(some (239,true)),.mov (.tmp 25),1023⟩,
  ⟨(some 242),(some (239,true)),.mov (.tmp 27),1023⟩,
  ⟨(some 243),(some (239,true)),.sliceStr (.tmp 241) none (some (.tmp 242)),7167⟩,
  ⟨(some 244),(some (239,true)),.bin .eql .other (.tmp 240) (.tmp 243),16383⟩,
 ⟨some 245,none,.pick (.tmp 239) (.tmp 244) (.const (.bool false)),32767⟩,
 ⟨some 4,none,.mov (.tmp 245),65535⟩]
def laws_FnFilms (i_laws_r8Long i_spec_R8Film i_impl_StoreFilm i_impl_LoadFilm i_impl_StoreSheet i_impl_LoadSheet i_impl_ValidFilm i_impl_SameFilm i_impl_SameSheet i_laws_r8At i_impl_RecoverFilm i_impl_SliceFilm :FuncId) :SFunc :=⟨246,[.tmp 4],(.kp [0,1] (.seq (.region laws_FnFilms_r0 false) (.kp [0,1] (.seq (.seq (.region (laws_FnFilms_r1 i_laws_r8Long) false) (.kp [0,1,33] (.cond (.tmp 33) (.seq (.region laws_FnFilms_r2 false) .ret) .skip))) (.kp [0,1] (.seq (.region (laws_FnFilms_r3 i_spec_R8Film) false) (.kp [1,5] (.seq (.region (laws_FnFilms_r4 i_impl_StoreFilm) false) (.kp [1,5,6,7] (.seq (.region (laws_FnFilms_r5 i_impl_LoadFilm) false) (.kp [1,5,6,7,8,9] (.seq (.region (laws_FnFilms_r6 i_impl_StoreSheet) false) (.kp [1,5,6,7,8,9,10,11] (.seq (.region (laws_FnFilms_r7 i_impl_LoadSheet) false) (.kp [1,5,6,7,8,9,10,11,12,13] (.seq (.seq (.region (laws_FnFilms_r8 i_impl_ValidFilm i_impl_SameFilm i_impl_SameSheet) false) (.kp [1,5,6,10,103] (.cond (.tmp 103) (.seq (.region laws_FnFilms_r9 false) .ret) .skip))) (.kp [1,5,6,10] (.seq (.region laws_FnFilms_r10 false) (.kp [1,5,6,10,14] (.seq (.region (laws_FnFilms_r11 i_laws_r8At) false) (.kp [1,5,6,14,15] (.seq (.region (laws_FnFilms_r12 i_impl_RecoverFilm) false) (.kp [1,5,6,14,15,16,17,18] (.seq (.region (laws_FnFilms_r13 i_impl_StoreFilm) false) (.kp [1,5,6,14,15,16,17,18,19,20] (.seq (.seq (.region laws_FnFilms_r14 false) (.kp [1,5,6,14,15,16,17,160] (.cond (.tmp 160) (.seq (.region laws_FnFilms_r15 false) .ret) .skip))) (.kp [1,5,6,14,15,16,17] (.seq (.seq (.region laws_FnFilms_r16 false) (.kp [1,5,6,14,15,16,17,167] (.cond (.tmp 167) (.seq (.region (laws_FnFilms_r17 i_impl_SliceFilm) false) (.kp [1,6,14,15,17,21,22] (.seq (.region (laws_FnFilms_r18 i_impl_StoreFilm) false) (.kp [1,6,14,15,17,22,23,24] (.seq (.region laws_FnFilms_r19 false) (.kp [1,6,14,15,17,193] (.cond (.tmp 193) (.seq (.region laws_FnFilms_r20 false) .ret) .skip))))))) .skip))) (.kp [1,6,14,15,17] (.seq (.seq (.region laws_FnFilms_r21 false) (.kp [1,6,14,15,17,196] (.cond (.tmp 196) (.seq (.region laws_FnFilms_r22 false) .ret) .skip))) (.kp [1,6,15,17] (.seq (.region (laws_FnFilms_r23 i_laws_r8At) true) (.kp [17,25] (.seq (.region (laws_FnFilms_r24 i_impl_RecoverFilm) false) (.kp [17,25,26,27,28] (.seq (.region (laws_FnFilms_r25 i_impl_StoreFilm) false) (.kp [17,25,27,28,29,30] (.seq (.region laws_FnFilms_r26 false) .ret))))))))))))))))))))))))))))))))))))))⟩
theorem laws_FnFilms_r23_dr {i_laws_r8At :FuncId} :drawOkW wStat (laws_FnFilms_r23 i_laws_r8At)=true :=by kernel_rfl
attribute [push_cast] laws_FnFilms_r23_dr
theorem FmResN.any {σ σ' :Heap}{v :Value}{w h :Int}{wr :Bool}{sp lo :List Nat}{gs :List Fld}(hr :FmResN true σ σ' v w h wr sp lo gs) :∃ τ s l p,σ'=σ++τ∧v = .tuple #[fmV w h wr (slV s sp.length) (slV l lo.length) (.slice p gs.length gs.length),.bool true]∧ShR σ' (slV s sp.length) (slV l lo.length) sp lo∧FlsR σ' (.slice p gs.length gs.length) gs :=by
 by_cases hg :gs=[]
 ·obtain⟨τ,s,l,h1,h2,h3⟩ :=hr.n rfl hg
  subst hg
  exact⟨τ,s,l,none,h1,h2,h3.sheet,h3.fls⟩
 ·obtain⟨τ,s,l,b,R,h1,h2,h3⟩ :=hr.t rfl hg
  exact⟨τ,s,l,_,h1,h2,h3.sheet,h3.fls⟩
theorem FmR3N.any {σ σ' :Heap}{v :Value}{w h :Int}{wr :Bool}{sp lo :List Nat}{gs :List Fld}{n :Nat}(hr :FmR3N true σ σ' v w h wr sp lo gs n) :∃ τ s l p,σ'=σ++τ∧v = .tuple #[fmV w h wr (slV s sp.length) (slV l lo.length) (.slice p gs.length gs.length),.int .i64 n,.bool true]∧ShR σ' (slV s sp.length) (slV l lo.length) sp lo∧FlsR σ' (.slice p gs.length gs.length) gs :=by
 by_cases hg :gs=[]
 ·obtain⟨τ,s,l,h1,h2,h3⟩ :=hr.n rfl hg
  subst hg
  exact⟨τ,s,l,none,h1,h2,h3.sheet,h3.fls⟩
 ·obtain⟨τ,s,l,b,R,h1,h2,h3⟩ :=hr.t rfl hg
  exact⟨τ,s,l,_,h1,h2,h3.sheet,h3.fls⟩
theorem HdOk.rc {W H :Nat}{wr :Bool}{sp lo :List Nat}{s :List UInt8}(h :HdOk W H wr sp lo s)(hl :s.length ≤ 65536) :rcOk s=true :=by
 unfold rcOk;rw [h.ah,decide_eq_true hl];rfl
theorem load_law {c :Contract}(h :impl_LoadFilm_ok c){W H :Nat}{wr :Bool}{sp lo :List Nat}{s :List UInt8}(hd :HdOk W H wr sp lo s)(hl :s.length ≤ 65536)(he :(rcAll s).2=s.length)(σ :Heap) :Ret c [.string (str s)] σ fun v σ' =>FmResN true σ σ' v W H wr sp lo (rcAll s).1 :=by
 have :=h σ s (by omega)
 rwa [hd.w,hd.h,hd.r,hd.p,hd.l,show ldfOk s=true from by unfold ldfOk;rw [hd.rc hl,decide_eq_true he];rfl] at this
theorem rec_law {c :Contract}(h :impl_RecoverFilm_ok c){W H :Nat}{wr :Bool}{sp lo :List Nat}{s :List UInt8}(hd :HdOk W H wr sp lo s)(hl :s.length ≤ 65536)(σ :Heap) :Ret c [.string (str s)] σ fun v σ' =>FmR3N true σ σ' v W H wr sp lo (rcAll s).1 (rcAll s).2 :=by
 have :=h σ s (by omega)
 rwa [hd.w,hd.h,hd.r,hd.p,hd.l,hd.rc hl] at this
theorem head_law {c :Contract}(h :impl_LoadSheet_ok c){W H :Nat}{wr :Bool}{sp lo :List Nat}(hd :HdOk W H wr sp lo (shB W H wr sp lo))(hl :(shB W H wr sp lo).length ≤ 65536)(σ :Heap) :Ret c [.string (str (shB W H wr sp lo))] σ fun v σ' =>v = .tuple #[shV W H wr (slV σ.length sp.length) (slV (σ.length+1) lo.length),.bool true]∧σ'=σ++[rowO sp,rowO lo] :=by
 have :=h σ (shB W H wr sp lo) (by omega)
 rwa [show ldOk (shB W H wr sp lo)=true from by unfold ldOk;rw [hd.ah,decide_eq_true hd.e];rfl,show (fun v σ' =>ldRes true (shB W H wr sp lo) σ σ' v)=fun v σ' =>v = .tuple #[shV W H wr (slV σ.length sp.length) (slV (σ.length+1) lo.length),.bool true]∧σ'=σ++[rowO sp,rowO lo] from by
  funext v σ'
  unfold ldRes
  rw [hd.w,hd.h,hd.r,hd.p,hd.l,cond_true]] at this
theorem films_t {C :Ctab}{i1 i2 i3 i4 i5 i6 i7 i8 i9 i10 i11 i12 :FuncId}{c1 c2 c3 c4 c5 c6 c7 c8 c9 c10 c11 c12 :Contract}(h1 :Has C i1 c1 laws_r8Long_ok)(h2 :Has C i2 c2 spec_R8Film_ok)(h3 :Has C i3 c3 impl_StoreFilm_ok)(h4 :Has C i4 c4 impl_LoadFilm_ok)(h5 :Has C i5 c5 impl_StoreSheet_ok)(h6 :Has C i6 c6 impl_LoadSheet_ok)(h7 :Has C i7 c7 impl_ValidFilm_ok)(h8 :Has C i8 c8 impl_SameFilm_ok)(h9 :Has C i9 c9 impl_SameSheetN_ok)(h10 :Has C i10 c10 laws_r8At_ok)(h11 :Has C i11 c11 impl_RecoverFilm_ok)(h12 :Has C i12 c12 impl_SliceFilm_ok)(σ :Heap)(va vb :Value)(code more :List UInt8)(r1 :Row σ 1 va code.length (b8s code))(r2 :Row σ 1 vb more.length (b8s more)) :Ret (gcC C (laws_FnFilms i1 i2 i3 i4 i5 i6 i7 i8 i9 i10 i11 i12) true) [va,vb] σ fun v _ =>v = .bool true :=by
 have k1 :=r1.ok
 have k2 :=r2.ok
 by_cases hL :code.length ≤ 48∧more.length ≤ 48
 rotate_left
 ·refine ret_gc rfl rfl ?_
  repeat' (first | refine ff ?_ | ((first | refine sR ?_ ?_ | refine sC ?_ ?_) <;> (intro hb;(try rw [hb]);(try simp only [bb] at hb);(try (exfalso;first | omega | exact hb trivial)))) | (apply endS trivial;rotate_left;(· exact eva);(· rfl);try refine⟨?_,rfl⟩) | fail)
  (apply EvR.aCall h1.at_;(· exact eva);(· exact  h1.ok _ va vb code more (r1.ext _) (r2.ext _));(rintro _ _ ⟨rfl,rfl⟩;refine EvR.nrm ?_))
  rw [show (decide (48 < code.length) || decide (48 < more.length))=true from by simp;omega]
  repeat' (first | refine ff ?_ | ((first | refine sR ?_ ?_ | refine sC ?_ ?_) <;> (intro hb;(try rw [hb]);(try simp only [bb] at hb);(try (exfalso;first | omega | exact hb trivial)))) | (apply endS trivial;rotate_left;(· exact eva);(· rfl);try refine⟨?_,rfl⟩) | fail)
  all_goals (try rfl)
 obtain⟨hL1,hL2⟩ :=hL
 refine ret_gc rfl rfl ?_
 repeat' (first | refine ff ?_ | ((first | refine sR ?_ ?_ | refine sC ?_ ?_) <;> (intro hb;(try rw [hb]);(try simp only [bb] at hb);(try (exfalso;first | omega | exact hb trivial)))) | (apply endS trivial;rotate_left;(· exact eva);(· rfl);try refine⟨?_,rfl⟩) | fail)
 (apply EvR.aCall h1.at_;(· exact eva);(· exact  h1.ok _ va vb code more (r1.ext _) (r2.ext _));(rintro _ _ ⟨rfl,rfl⟩;refine EvR.nrm ?_))
 rw [show (decide (48 < code.length) || decide (48 < more.length))=false from by simp;omega]
 repeat' (first | refine ff ?_ | ((first | refine sR ?_ ?_ | refine sC ?_ ?_) <;> (intro hb;(try rw [hb]);(try simp only [bb] at hb);(try (exfalso;first | omega | exact hb trivial)))) | (apply endS trivial;rotate_left;(· exact eva);(· rfl);try refine⟨?_,rfl⟩) | fail)
 apply EvR.aCall h2.at_;(· exact eva);(· exact h2.ok _ va code (r1.ext _) (by omega))
 rintro _ _ ⟨W,H,wr,sp,lo,fs,s1,l1,b1,R1,τ1,hI,hlen,lF,isp,ilo,rfl,rfl,o1⟩
 have hfm :FlmI W H wr sp lo fs :=⟨hI,hlen,lF,isp,ilo⟩
 obtain⟨hsh,hN3,hN2,z1,z2,hfl⟩ :=isFilm_n hI
 obtain⟨u1,u2⟩ :=isSheet_nums hsh isp ilo
 have isn :=nums_in u1
 have iln :=nums_in u2
 have n1 :sp.length ≤ 1048576 :=by omega
 have n2 :lo.length ≤ 1048576 :=by omega
 have hfit :=film_fit hI hN2
 have hd0 :=hfm.hd0 hfm.le
 rw [List.take_length] at hd0
 obtain⟨hBl,hSl⟩ :=hfm.len
 have hle :=hfm.le
 obtain⟨v1,v2,v3⟩ :=hfm.whole
 have L4 :=load_law h4.ok hd0 (by omega) v2
 have hdB :=hd_ok (wr :=wr) hsh isp ilo []
 rw [List.append_nil] at hdB
 have L6 :=head_law h6.ok hdB (by omega)
 obtain⟨_,_,_,_,lFb⟩ :=rec_store hd0 hsh (by omega)
 have hfitb :=(rcAll_fit (sfB W H wr sp lo fs)).1
 have hpre :=hd0.b
 have hst :stS W H wr sp lo=shB W H wr sp lo :=by unfold stS;rw [Int.toNat_natCast,Int.toNat_natCast]
 have hcut :=fun n =>hfm.cut (n :=n)
 have hhd :=fun n u =>hfm.hd (n :=n) (u :=u)
 have hhd0 :=fun n =>hfm.hd0 (n :=n)
 have hbent :=fun n u =>hfm.bent (n :=n) (u :=u)
 have hend :=fun n =>hfm.end_ (n :=n)
 have hsub :=fun k =>hfm.sub k
 have hsf :=hfm.sf
 have hsm :sameFm W H wr sp lo (rcAll (sfB W H wr sp lo fs)).1 W H wr sp lo fs=true :=by
  unfold sameFm
  rw [(rec_store hd0 hsh (by omega)).1,v3,sameSN_refl,hI];rfl
 obtain⟨S,hS⟩ :∃ S,sfB W H wr sp lo fs=S :=⟨_,rfl⟩
 obtain⟨B,hB⟩ :∃ B,shB W H wr sp lo=B :=⟨_,rfl⟩
 obtain⟨bs,hbs⟩ :∃ bs,(rcAll S).1=bs :=⟨_,rfl⟩
 rw [hS] at hd0 hSl hle v1 v2 v3 L4 lFb hfitb hpre hsm
 rw [hB] at hBl hle hpre hst L6
 rw [hbs] at L4 lFb hfitb v1 v3 hsm
 rw [hS,hB] at hhd hhd0 hbent hcut
 rw [hS] at hend
 have d2 :Row σ 1 vb more.length (b8s more) :=r2
 refine EvR.base2 fun A1 S1 f1 e1 q1 =>?_
 rw [← e1] at o1
 have w1 :Pre σ S1 :=Pre.trans (by rw [f1];exact (Pre.refl _).app _) q1
 have xx :Pre σ S1 :=w1
 replace d2 :=d2.pre w1
 clear e1 f1 q1
 have D1a :=o1.sheet
 have D1b :=o1.fls
 clear o1
 refine EvR.nrm ?_
 repeat' (first | refine ff ?_ | ((first | refine sR ?_ ?_ | refine sC ?_ ?_) <;> (intro hb;(try rw [hb]);(try simp only [bb] at hb);(try (exfalso;first | omega | exact hb trivial)))) | (apply endS trivial;rotate_left;(· exact eva);(· rfl);try refine⟨?_,rfl⟩) | fail)
 (apply EvR.aCall h3.at_;(· exact eva);(· exact  h3.ok _ W H wr _ _ _ sp lo fs ⟨D1a.s.ext _,D1a.l.ext _⟩ (D1b.ext _) n1 n2 hfit isp ilo lF);(rintro _ _ ⟨rfl,rfl⟩;refine EvR.nrm ?_))
 rw [hsf,chRes_t,hS]
 repeat' (first | refine ff ?_ | ((first | refine sR ?_ ?_ | refine sC ?_ ?_) <;> (intro hb;(try rw [hb]);(try simp only [bb] at hb);(try (exfalso;first | omega | exact hb trivial)))) | (apply endS trivial;rotate_left;(· exact eva);(· rfl);try refine⟨?_,rfl⟩) | fail)
 apply EvR.aCall h4.at_;(· exact eva);(· exact L4 _);rintro _ _ hres
 obtain⟨τ2,s2,l2,p2,rfl,rfl,D2a,D2b⟩ :=hres.any
 clear hres
 refine EvR.base2 fun A2 S2 f2 e2 q2 =>?_
 rw [← e2] at D2a
 rw [← e2] at D2b
 have w2 :Pre S1 S2 :=Pre.trans (by rw [f2];exact (Pre.refl _).app _) q2
 have p5 :PtAt S2 (S1.length+0) 0 [.int .i64 W,.int .i64 H,.bool wr,slV s1 sp.length,slV l1 lo.length,(slV b1 fs.length)] :=PtAt.pre q2 (by rw [f2];exact PtAt.own rfl)
 replace xx :=xx.trans w2
 replace d2 :=d2.pre w2
 replace D1a :=D1a.pre w2
 replace D1b :=D1b.pre w2
 clear e2 f2 q2
 refine EvR.nrm ?_
 repeat' (first | refine ff ?_ | ((first | refine sR ?_ ?_ | refine sC ?_ ?_) <;> (intro hb;(try rw [hb]);(try simp only [bb] at hb);(try (exfalso;first | omega | exact hb trivial)))) | (apply endS trivial;rotate_left;(· exact eva);(· rfl);try refine⟨?_,rfl⟩) | fail)
 refine EvR.ldP (cs :=[.int .i64 W,.int .i64 H,.bool wr,slV s1 sp.length,slV l1 lo.length]) p5 rfl rfl rfl (by omega) ?_
 repeat' (first | refine ff ?_ | ((first | refine sR ?_ ?_ | refine sC ?_ ?_) <;> (intro hb;(try rw [hb]);(try simp only [bb] at hb);(try (exfalso;first | omega | exact hb trivial)))) | (apply endS trivial;rotate_left;(· exact eva);(· rfl);try refine⟨?_,rfl⟩) | fail)
 (apply EvR.aCall h5.at_;(· exact eva);(· exact  h5.ok _ W H wr _ _ sp lo ⟨D1a.s.ext _,D1a.l.ext _⟩ n1 n2 isp ilo);(rintro _ _ ⟨rfl,rfl⟩;refine EvR.nrm ?_))
 rw [hsh,chRes_t,hst]
 repeat' (first | refine ff ?_ | ((first | refine sR ?_ ?_ | refine sC ?_ ?_) <;> (intro hb;(try rw [hb]);(try simp only [bb] at hb);(try (exfalso;first | omega | exact hb trivial)))) | (apply endS trivial;rotate_left;(· exact eva);(· rfl);try refine⟨?_,rfl⟩) | fail)
 (apply EvR.aCall h6.at_;(· exact eva);(· exact  L6 _);(rintro _ _ ⟨rfl,rfl⟩;refine EvR.nrm ?_))
 repeat' (first | refine ff ?_ | ((first | refine sR ?_ ?_ | refine sC ?_ ?_) <;> (intro hb;(try rw [hb]);(try simp only [bb] at hb);(try (exfalso;first | omega | exact hb trivial)))) | (apply endS trivial;rotate_left;(· exact eva);(· rfl);try refine⟨?_,rfl⟩) | fail)
 (apply EvR.aCall h7.at_;(· exact eva);(· exact  h7.ok _ W H wr _ _ _ sp lo fs ⟨D1a.s.ext _,D1a.l.ext _⟩ (D1b.ext _) n1 n2 hfit);(rintro _ _ ⟨rfl,rfl⟩;refine EvR.nrm ?_))
 rw [hI]
 repeat' (first | refine ff ?_ | ((first | refine sR ?_ ?_ | refine sC ?_ ?_) <;> (intro hb;(try rw [hb]);(try simp only [bb] at hb);(try (exfalso;first | omega | exact hb trivial)))) | (apply endS trivial;rotate_left;(· exact eva);(· rfl);try refine⟨?_,rfl⟩) | fail)
 (apply EvR.aCall h8.at_;(· exact eva);(· exact  h8.ok _ W H wr _ _ _ sp lo bs W H wr _ _ _ sp lo fs ⟨D2a.s.ext _,D2a.l.ext _⟩ (D2b.ext _) ⟨D1a.s.ext _,D1a.l.ext _⟩ (D1b.ext _) n1 n2 hfitb n1 n2 hfit isp ilo isp ilo lFb lF);(rintro _ _ ⟨rfl,rfl⟩;refine EvR.nrm ?_))
 rw [hsm]
 repeat' (first | refine ff ?_ | ((first | refine sR ?_ ?_ | refine sC ?_ ?_) <;> (intro hb;(try rw [hb]);(try simp only [bb] at hb);(try (exfalso;first | omega | exact hb trivial)))) | (apply endS trivial;rotate_left;(· exact eva);(· rfl);try refine⟨?_,rfl⟩) | fail)
 refine EvR.ldP (cs :=[.int .i64 W,.int .i64 H,.bool wr,slV s1 sp.length,slV l1 lo.length]) p5 rfl rfl rfl (by omega) ?_
 repeat' (first | refine ff ?_ | ((first | refine sR ?_ ?_ | refine sC ?_ ?_) <;> (intro hb;(try rw [hb]);(try simp only [bb] at hb);(try (exfalso;first | omega | exact hb trivial)))) | (apply endS trivial;rotate_left;(· exact eva);(· rfl);try refine⟨?_,rfl⟩) | fail)
 (apply EvR.aCall h9.at_;(· exact eva);(· exact  h9.ok _ W H wr _ _ sp lo W H wr _ _ sp lo ⟨Row.ownF rfl rfl,Row.ownF rfl rfl⟩ ⟨D1a.s.ext _,D1a.l.ext _⟩ n1 n2 n1 n2 isn iln isn iln);(rintro _ _ ⟨rfl,rfl⟩;refine EvR.nrm ?_))
 rw [sameSN_refl]
 repeat' (first | refine ff ?_ | ((first | refine sR ?_ ?_ | refine sC ?_ ?_) <;> (intro hb;(try rw [hb]);(try simp only [bb] at hb);(try (exfalso;first | omega | exact hb trivial)))) | (apply endS trivial;rotate_left;(· exact eva);(· rfl);try refine⟨?_,rfl⟩) | fail)
 ·exact absurd hpre (by assumption)
 apply EvR.aCall h10.at_;(· exact eva);(· exact h10.ok _ vb more 0 256 (d2.ext _) (by omega) (by omega) (by omega));rintro _ _ ⟨qa,qa0,qa1,rfl,rfl⟩
 refine EvR.nrm ?_
 repeat' (first | refine ff ?_ | ((first | refine sR ?_ ?_ | refine sC ?_ ?_) <;> (intro hb;(try rw [hb]);(try simp only [bb] at hb);(try (exfalso;first | omega | exact hb trivial)))) | (apply endS trivial;rotate_left;(· exact eva);(· rfl);try refine⟨?_,rfl⟩) | fail)
 apply EvR.aCall h10.at_;(· exact eva);(· exact h10.ok _ vb more 1 256 (d2.ext _) (by omega) (by omega) (by omega));rintro _ _ ⟨qb,qb0,qb1,rfl,rfl⟩
 refine EvR.nrm ?_
 repeat' (first | refine ff ?_ | ((first | refine sR ?_ ?_ | refine sC ?_ ?_) <;> (intro hb;(try rw [hb]);(try simp only [bb] at hb);(try (exfalso;first | omega | exact hb trivial)))) | (apply endS trivial;rotate_left;(· exact eva);(· rfl);try refine⟨?_,rfl⟩) | fail)
 obtain⟨a,ha,ha1,ha2⟩ :∃ a :Nat,IntKind.i64.wrap ((B.length :Int)+(256 * qa+qb) % ((S.length :Int) - B.length+1))=(a :Int)∧B.length ≤ a∧a ≤ S.length :=by
  have e1 :=Int.emod_nonneg (256 * qa+qb) (show ((S.length :Int) - B.length+1) ≠ 0 by omega)
  have e2 :=Int.emod_lt_of_pos (256 * qa+qb) (show 0 < ((S.length :Int) - B.length+1) by omega)
  generalize (256 * qa+qb) % ((S.length :Int) - B.length+1)=m at e1 e2 ⊢
  exact⟨B.length+m.toNat,by rw [wrap64 (by omega) (by omega)];omega,by omega,by omega⟩
 rw [ha]
 clear ha qa0 qa1 qb0 qb1
 have hda :=hhd0 a ha1
 have hTl :(S.take a).length=a :=by rw [List.length_take];omega
 obtain⟨q1,_,q3,q4⟩ :=hcut a ha1 ha2
 obtain⟨cI,csf,csB,cn,clow⟩ :=rec_store hda hsh (by omega)
 have hfitc :=(rcAll_fit (S.take a)).1
 have hendA :=hend a
 have L11 :=rec_law h11.ok hda (by omega)
 have hbA :=fun u =>hbent a u ha1 ha2
 have hdu :=fun u =>hhd a u ha1
 clear hcut hend hbent hhd hhd0
 obtain⟨cs,hcs⟩ :∃ cs,(rcAll (S.take a)).1=cs :=⟨_,rfl⟩
 obtain⟨n,hn⟩ :∃ n,(rcAll (S.take a)).2=n :=⟨_,rfl⟩
 rw [hcs,hn] at L11
 rw [hcs] at q1 q3 q4 cI csf csB hfitc clow
 rw [hn] at csB cn hendA
 rw [hn] at hbA
 rw [hTl] at cn
 rw [List.take_take,Nat.min_eq_left cn] at csB
 repeat' (first | refine ff ?_ | ((first | refine sR ?_ ?_ | refine sC ?_ ?_) <;> (intro hb;(try rw [hb]);(try simp only [bb] at hb);(try (exfalso;first | omega | exact hb trivial)))) | (apply endS trivial;rotate_left;(· exact eva);(· rfl);try refine⟨?_,rfl⟩) | fail)
 apply EvR.aCall h11.at_;(· exact eva);(· exact L11 _);rintro _ _ hres
 obtain⟨τ3,s3,l3,p3,rfl,rfl,D3a,D3b⟩ :=hres.any
 clear hres D2a D2b
 refine EvR.base2 fun A3 S3 f3 e3 q3 =>?_
 rw [← e3] at D3a
 rw [← e3] at D3b
 have w3 :Pre S2 S3 :=Pre.trans (by rw [f3];exact (Pre.refl _).app _) q3
 replace xx :=xx.trans w3
 replace d2 :=d2.pre w3
 replace D1a :=D1a.pre w3
 replace D1b :=D1b.pre w3
 replace p5 :=p5.pre w3
 clear e3 f3 q3
 refine EvR.nrm ?_
 repeat' (first | refine ff ?_ | ((first | refine sR ?_ ?_ | refine sC ?_ ?_) <;> (intro hb;(try rw [hb]);(try simp only [bb] at hb);(try (exfalso;first | omega | exact hb trivial)))) | (apply endS trivial;rotate_left;(· exact eva);(· rfl);try refine⟨?_,rfl⟩) | fail)
 (apply EvR.aCall h3.at_;(· exact eva);(· exact  h3.ok _ W H wr _ _ _ sp lo cs ⟨D3a.s.ext _,D3a.l.ext _⟩ (D3b.ext _) n1 n2 hfitc isp ilo clow);(rintro _ _ ⟨rfl,rfl⟩;refine EvR.nrm ?_))
 rw [csf,chRes_t,csB]
 repeat' (first | refine ff ?_ | ((first | refine sR ?_ ?_ | refine sC ?_ ?_) <;> (intro hb;(try rw [hb]);(try simp only [bb] at hb);(try (exfalso;first | omega | exact hb trivial)))) | (apply endS trivial;rotate_left;(· exact eva);(· rfl);try refine⟨?_,rfl⟩) | fail)
 ·apply EvR.aCall h12.at_;(· exact eva);(· exact h12.ok _ W H wr _ _ _ sp lo fs 0 (cs.length+1) ⟨D1a.s.ext _,D1a.l.ext _⟩ (D1b.ext _) n1 n2 hfit);rintro _ _ hres
  obtain⟨τ4,s4,l4,b4,R4,rfl,rfl,o4⟩ :=hres.t (slOk_t hI (by omega) (by omega) (by omega) (by omega))
  clear hres
  obtain⟨ls,hls⟩ :∃ ls,ls=(fs.drop (0 :Int).toNat).take ((cs.length :Int)+1).toNat :=⟨_,rfl⟩
  rw [← hls] at o4 ⊢
  have hls2 :ls=fs.take (cs.length+1) :=by rw [hls,show ((cs.length :Int)+1).toNat=cs.length+1 from by omega];rfl
  have hlm :=hsub (cs.length+1)
  rw [← hls2] at hlm q4
  have hlmf :=hlm.sf
  obtain⟨V,hV⟩ :∃ V,sfB W H wr sp lo ls=V :=⟨_,rfl⟩
  have hVl :=hlm.len.2
  rw [hV] at q4 hVl
  have hVa :a < V.length :=q4 (by omega)
  refine EvR.base2 fun A4 S4 f4 e4 q4 =>?_
  rw [← e4] at o4
  have w4 :Pre S3 S4 :=Pre.trans (by rw [f4];exact (Pre.refl _).app _) q4
  replace xx :=xx.trans w4
  replace d2 :=d2.pre w4
  replace D1a :=D1a.pre w4
  replace D1b :=D1b.pre w4
  replace p5 :=p5.pre w4
  replace D3a :=D3a.pre w4
  replace D3b :=D3b.pre w4
  clear e4 f4 q4
  have D4a :=o4.sheet
  have D4b :=o4.fls
  clear o4
  refine EvR.nrm ?_
  repeat' (first | refine ff ?_ | ((first | refine sR ?_ ?_ | refine sC ?_ ?_) <;> (intro hb;(try rw [hb]);(try simp only [bb] at hb);(try (exfalso;first | omega | exact hb trivial)))) | (apply endS trivial;rotate_left;(· exact eva);(· rfl);try refine⟨?_,rfl⟩) | fail)
  (apply EvR.aCall h3.at_;(· exact eva);(· exact  h3.ok _ W H wr _ _ _ sp lo ls ⟨D4a.s.ext _,D4a.l.ext _⟩ (D4b.ext _) n1 n2 (film_fit hlm.I hN2) isp ilo hlm.lw);(rintro _ _ ⟨rfl,rfl⟩;refine EvR.nrm ?_))
  rw [hlmf,chRes_t,hV]
  repeat' (first | refine ff ?_ | ((first | refine sR ?_ ?_ | refine sC ?_ ?_) <;> (intro hb;(try rw [hb]);(try simp only [bb] at hb);(try (exfalso;first | omega | exact hb trivial)))) | (apply endS trivial;rotate_left;(· exact eva);(· rfl);try refine⟨?_,rfl⟩) | fail)
  ·rw [show decide ((n :Int)=S.length)=true from decide_eq_true (by have :=hendA (by omega);omega)]
   apply endKK xx
   ·trivial
   ·rfl
   ·exact eva
   ·rfl
  apply EvR.aCall h10.at_;(· exact eva);(· exact h10.ok _ vb more 2 255 (d2.ext _) (by omega) (by omega) (by omega));rintro _ _ ⟨qc,qc0,qc1,rfl,rfl⟩
  refine EvR.nrm ?_
  repeat' (first | refine ff ?_ | ((first | refine sR ?_ ?_ | refine sC ?_ ?_) <;> (intro hb;(try rw [hb]);(try simp only [bb] at hb);(try (exfalso;first | omega | exact hb trivial)))) | (apply endS trivial;rotate_left;(· exact eva);(· rfl);try refine⟨?_,rfl⟩) | fail)
  simp only [u8_wrap]
  rw [show ∀ y :UInt8,[Value.int IntKind.u8 (y.toNat :Int)]=b8s [y] from fun _ =>rfl]
  repeat' (first | refine ff ?_ | ((first | refine sR ?_ ?_ | refine sC ?_ ?_) <;> (intro hb;(try rw [hb]);(try simp only [bb] at hb);(try (exfalso;first | omega | exact hb trivial)))) | (apply endS trivial;rotate_left;(· exact eva);(· rfl);try refine⟨?_,rfl⟩) | fail)
  generalize byteOf (((BitVec.ofInt IntKind.u8.bits ((byAt S a :Nat) :Int) ^^^ BitVec.ofInt IntKind.u8.bits ((byteOf (1+qc)).toNat :Int)).toNat :Nat) :Int)=y
  have hla :a < S.length :=by omega
  obtain⟨U,hU⟩ :∃ U,y::S.drop ((a :Int)+1).toNat=U :=⟨_,rfl⟩
  have hXl :(S.take a++U).length=S.length :=by rw [List.length_append,hTl,← hU,List.length_cons,List.length_drop];omega
  rw [hU]
  have hdx :=hdu U
  have hbx :=hbA U
  have L11b :=rec_law h11.ok hdx (by omega)
  obtain⟨_,dsf,dsB,dn,dlow⟩ :=rec_store hdx hsh (by omega)
  have hfitd :=(rcAll_fit (S.take a++U)).1
  obtain⟨ds,hds⟩ :∃ ds,(rcAll (S.take a++U)).1=ds :=⟨_,rfl⟩
  obtain⟨m,hm⟩ :∃ m,(rcAll (S.take a++U)).2=m :=⟨_,rfl⟩
  rw [hds,hm] at L11b
  rw [hds] at dsf dsB dlow hfitd
  rw [hm] at dsB dn hbx
  obtain⟨X,hX⟩ :∃ X,S.take a++U=X :=⟨_,rfl⟩
  rw [hX] at L11b dsB dn hXl
  rw [hX]
  clear hm hds hX hdx
  apply EvR.aCall h11.at_;(· exact eva);(· exact L11b _);rintro _ _ hres
  obtain⟨τ5,s5,l5,pz,rfl,rfl,D5a,D5b⟩ :=hres.any
  clear hres
  refine EvR.base2 fun A5 S5 f5 e5 q5 =>?_
  rw [← e5] at D5a
  rw [← e5] at D5b
  have w5 :Pre S4 S5 :=Pre.trans (by rw [f5];exact (Pre.refl _).app _) q5
  replace xx :=xx.trans w5
  replace d2 :=d2.pre w5
  replace D1a :=D1a.pre w5
  replace D1b :=D1b.pre w5
  replace p5 :=p5.pre w5
  replace D3a :=D3a.pre w5
  replace D3b :=D3b.pre w5
  clear e5 f5 q5
  refine EvR.nrm ?_
  repeat' (first | refine ff ?_ | ((first | refine sR ?_ ?_ | refine sC ?_ ?_) <;> (intro hb;(try rw [hb]);(try simp only [bb] at hb);(try (exfalso;first | omega | exact hb trivial)))) | (apply endS trivial;rotate_left;(· exact eva);(· rfl);try refine⟨?_,rfl⟩) | fail)
  (apply EvR.aCall h3.at_;(· exact eva);(· exact  h3.ok _ W H wr _ _ _ sp lo ds ⟨D5a.s.ext _,D5a.l.ext _⟩ (D5b.ext _) n1 n2 hfitd isp ilo dlow);(rintro _ _ ⟨rfl,rfl⟩;refine EvR.nrm ?_))
  rw [dsf,chRes_t,dsB]
  repeat' (first | refine ff ?_ | ((first | refine sR ?_ ?_ | refine sC ?_ ?_) <;> (intro hb;(try rw [hb]);(try simp only [bb] at hb);(try (exfalso;first | omega | exact hb trivial)))) | (apply endS trivial;rotate_left;(· exact eva);(· rfl);try refine⟨?_,rfl⟩) | fail)
  ·apply endKK xx
   ·trivial
   ·rfl
   ·exact eva
   ·rfl
  all_goals (exfalso;omega)
 ·rw [show decide ((n :Int)=S.length)=true from decide_eq_true (by have :=hendA (by omega);omega)]
  apply endKK xx
  ·trivial
  ·rfl
  ·exact eva
  ·rfl
 apply EvR.aCall h10.at_;(· exact eva);(· exact h10.ok _ vb more 2 255 (d2.ext _) (by omega) (by omega) (by omega));rintro _ _ ⟨qc,qc0,qc1,rfl,rfl⟩
 refine EvR.nrm ?_
 repeat' (first | refine ff ?_ | ((first | refine sR ?_ ?_ | refine sC ?_ ?_) <;> (intro hb;(try rw [hb]);(try simp only [bb] at hb);(try (exfalso;first | omega | exact hb trivial)))) | (apply endS trivial;rotate_left;(· exact eva);(· rfl);try refine⟨?_,rfl⟩) | fail)
 simp only [u8_wrap]
 rw [show ∀ y :UInt8,[Value.int IntKind.u8 (y.toNat :Int)]=b8s [y] from fun _ =>rfl]
 repeat' (first | refine ff ?_ | ((first | refine sR ?_ ?_ | refine sC ?_ ?_) <;> (intro hb;(try rw [hb]);(try simp only [bb] at hb);(try (exfalso;first | omega | exact hb trivial)))) | (apply endS trivial;rotate_left;(· exact eva);(· rfl);try refine⟨?_,rfl⟩) | fail)
 generalize byteOf (((BitVec.ofInt IntKind.u8.bits ((byAt S a :Nat) :Int) ^^^ BitVec.ofInt IntKind.u8.bits ((byteOf (1+qc)).toNat :Int)).toNat :Nat) :Int)=y
 have hla :a < S.length :=by omega
 obtain⟨U,hU⟩ :∃ U,y::S.drop ((a :Int)+1).toNat=U :=⟨_,rfl⟩
 have hXl :(S.take a++U).length=S.length :=by rw [List.length_append,hTl,← hU,List.length_cons,List.length_drop];omega
 rw [hU]
 have hdx :=hdu U
 have hbx :=hbA U
 have L11b :=rec_law h11.ok hdx (by omega)
 obtain⟨_,dsf,dsB,dn,dlow⟩ :=rec_store hdx hsh (by omega)
 have hfitd :=(rcAll_fit (S.take a++U)).1
 obtain⟨ds,hds⟩ :∃ ds,(rcAll (S.take a++U)).1=ds :=⟨_,rfl⟩
 obtain⟨m,hm⟩ :∃ m,(rcAll (S.take a++U)).2=m :=⟨_,rfl⟩
 rw [hds,hm] at L11b
 rw [hds] at dsf dsB dlow hfitd
 rw [hm] at dsB dn hbx
 obtain⟨X,hX⟩ :∃ X,S.take a++U=X :=⟨_,rfl⟩
 rw [hX] at L11b dsB dn hXl
 rw [hX]
 clear hm hds hX hdx
 apply EvR.aCall h11.at_;(· exact eva);(· exact L11b _);rintro _ _ hres
 obtain⟨τ5,s5,l5,pz,rfl,rfl,D5a,D5b⟩ :=hres.any
 clear hres
 refine EvR.base2 fun A5 S5 f5 e5 q5 =>?_
 rw [← e5] at D5a
 rw [← e5] at D5b
 have w5 :Pre S3 S5 :=Pre.trans (by rw [f5];exact (Pre.refl _).app _) q5
 replace xx :=xx.trans w5
 replace d2 :=d2.pre w5
 replace D1a :=D1a.pre w5
 replace D1b :=D1b.pre w5
 replace p5 :=p5.pre w5
 replace D3a :=D3a.pre w5
 replace D3b :=D3b.pre w5
 clear e5 f5 q5
 refine EvR.nrm ?_
 repeat' (first | refine ff ?_ | ((first | refine sR ?_ ?_ | refine sC ?_ ?_) <;> (intro hb;(try rw [hb]);(try simp only [bb] at hb);(try (exfalso;first | omega | exact hb trivial)))) | (apply endS trivial;rotate_left;(· exact eva);(· rfl);try refine⟨?_,rfl⟩) | fail)
 (apply EvR.aCall h3.at_;(· exact eva);(· exact  h3.ok _ W H wr _ _ _ sp lo ds ⟨D5a.s.ext _,D5a.l.ext _⟩ (D5b.ext _) n1 n2 hfitd isp ilo dlow);(rintro _ _ ⟨rfl,rfl⟩;refine EvR.nrm ?_))
 rw [dsf,chRes_t,dsB]
 repeat' (first | refine ff ?_ | ((first | refine sR ?_ ?_ | refine sC ?_ ?_) <;> (intro hb;(try rw [hb]);(try simp only [bb] at hb);(try (exfalso;first | omega | exact hb trivial)))) | (apply endS trivial;rotate_left;(· exact eva);(· rfl);try refine⟨?_,rfl⟩) | fail)
 ·apply endKK xx
  ·trivial
  ·rfl
  ·exact eva
  ·rfl
 all_goals (exfalso;omega)
def laws_FnFilms_ok (c :Contract) :Prop :=AlwaysTrue [bytesK,bytesK] c
theorem laws_FnFilms_law {C :Ctab}{i1 i2 i3 i4 i5 i6 i7 i8 i9 i10 i11 i12 :FuncId}{c1 c2 c3 c4 c5 c6 c7 c8 c9 c10 c11 c12 :Contract}(h1 :Has C i1 c1 laws_r8Long_ok)(h2 :Has C i2 c2 spec_R8Film_ok)(h3 :Has C i3 c3 impl_StoreFilm_ok)(h4 :Has C i4 c4 impl_LoadFilm_ok)(h5 :Has C i5 c5 impl_StoreSheet_ok)(h6 :Has C i6 c6 impl_LoadSheet_ok)(h7 :Has C i7 c7 impl_ValidFilm_ok)(h8 :Has C i8 c8 impl_SameFilm_ok)(h9 :Has C i9 c9 impl_SameSheetN_ok)(h10 :Has C i10 c10 laws_r8At_ok)(h11 :Has C i11 c11 impl_RecoverFilm_ok)(h12 :Has C i12 c12 impl_SliceFilm_ok) :
 laws_FnFilms_ok (gcC C (laws_FnFilms i1 i2 i3 i4 i5 i6 i7 i8 i9 i10 i11 i12) true) :=by
 intro σ avs hh
 match avs,hh with
 | [va,vb],⟨g0,g1,_⟩ =>
  obtain⟨code,r1,hb1⟩ :=bytes_abs g0
  obtain⟨more,r2,hb2⟩ :=bytes_abs g1
  exact films_t h1 h2 h3 h4 h5 h6 h7 h8 h9 h10 h11 h12 σ va vb code more r1 r2
end Go.Abs
