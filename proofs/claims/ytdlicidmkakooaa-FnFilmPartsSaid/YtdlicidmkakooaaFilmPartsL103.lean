/- Law of a row's function: films are what their parts are, and films of steps. Conditions: the laws of what it calls. -/
import Derived.Test.YtdlicidmkakooaaFilmPartsL102
import Derived.Test.YtdlicidmkakooaaFilmPartsL44
import Derived.Test.YtdlicidmkakooaaFilmPartsL71
import Derived.Test.YtdlicidmkakooaaFilmPartsL79
import Derived.Test.YtdlicidmkakooaaFilmPartsL90
namespace Go.Abs

set_option linter.unusedSimpArgs false
set_option linter.unusedVariables false
set_option maxHeartbeats 8000000
set_option maxRecDepth 20000
/- loop.example/g01201/laws.FnFilmParts -/
def laws_FnFilmParts_r0 : List SOper := [
  ⟨(some 4), none, .mov (.const (.bool false)), 0⟩]
def laws_FnFilmParts_r1 (i_laws_r8Long : FuncId) : List SOper := [
  ⟨(some 23), none, .mov (.tmp 0), 0⟩,
  ⟨(some 24), none, .mov (.tmp 1), 0⟩,
  ⟨(some 25), none, .call (.func i_laws_r8Long) [(.tmp 23), (.tmp 24)], 3⟩]
def laws_FnFilmParts_r2 : List SOper := [
  ⟨(some 4), none, .mov (.const (.bool true)), 0⟩]
def laws_FnFilmParts_r3 (i_spec_R8Film : FuncId) : List SOper := [
  ⟨(some 26), none, .mov (.tmp 0), 0⟩,
  ⟨(some 27), none, .call (.func i_spec_R8Film) [(.tmp 26)], 1⟩,
  ⟨(some 5), none, .alloc [(.int .i64 0), (.int .i64 0), (.bool false), (.slice none 0 0), (.slice none 0 0), (.slice none 0 0)], 0⟩,
  ⟨none, none, .store 6 (.tmp 5) (.tmp 27), 7⟩]
def laws_FnFilmParts_r4 : List SOper := [
  ⟨(some 28), none, .fieldAddr 5 (.tmp 5), 0⟩,
  ⟨(some 29), none, .load1 (.tmp 28), 1⟩,
  ⟨(some 30), none, .len false (.tmp 29), 3⟩,
  ⟨(some 6), none, .mov (.tmp 30), 7⟩]
def laws_FnFilmParts_r5 (i_laws_r8At : FuncId) : List SOper := [
  ⟨(some 31), none, .mov (.tmp 1), 0⟩,
  ⟨(some 32), none, .mov (.tmp 6), 0⟩,
  ⟨(some 33), none, .bin .add .other (.tmp 32) (.const (.int .i64 1)), 2⟩,
  ⟨(some 34), none, .call (.func i_laws_r8At) [(.tmp 31), (.const (.int .i64 0)), (.tmp 33)], 7⟩,
  ⟨(some 7), none, .mov (.tmp 34), 15⟩]
def laws_FnFilmParts_r6 (i_impl_SliceFilm : FuncId) : List SOper := [
  ⟨(some 36), none, .loadN 6 (.tmp 5), 0⟩,
  ⟨(some 37), none, .mov (.tmp 7), 0⟩,
  ⟨(some 38), none, .call (.func i_impl_SliceFilm) [(.tmp 36), (.const (.int .i64 0)), (.tmp 37)], 3⟩,
  ⟨(some 35), none, .mov (.tmp 38), 7⟩,
  ⟨(some 39), none, .extract (.tmp 35) 0, 15⟩,
  ⟨(some 40), none, .extract (.tmp 35) 1, 15⟩,
  ⟨(some 8), none, .alloc [(.int .i64 0), (.int .i64 0), (.bool false), (.slice none 0 0), (.slice none 0 0), (.slice none 0 0)], 0⟩,
  ⟨none, none, .store 6 (.tmp 8) (.tmp 39), 95⟩,
  ⟨(some 9), none, .mov (.tmp 40), 255⟩]
def laws_FnFilmParts_r7 (i_impl_SliceFilm : FuncId) : List SOper := [
  ⟨(some 42), none, .loadN 6 (.tmp 5), 0⟩,
  ⟨(some 43), none, .mov (.tmp 7), 0⟩,
  ⟨(some 44), none, .mov (.tmp 6), 0⟩,
  ⟨(some 45), none, .mov (.tmp 7), 0⟩,
  ⟨(some 46), none, .bin .sub .other (.tmp 44) (.tmp 45), 12⟩,
  ⟨(some 47), none, .call (.func i_impl_SliceFilm) [(.tmp 42), (.tmp 43), (.tmp 46)], 31⟩,
  ⟨(some 41), none, .mov (.tmp 47), 63⟩,
  ⟨(some 48), none, .extract (.tmp 41) 0, 127⟩,
  ⟨(some 49), none, .extract (.tmp 41) 1, 127⟩,
  ⟨(some 10), none, .alloc [(.int .i64 0), (.int .i64 0), (.bool false), (.slice none 0 0), (.slice none 0 0), (.slice none 0 0)], 0⟩,
  ⟨none, none, .store 6 (.tmp 10) (.tmp 48), 767⟩,
  ⟨(some 11), none, .mov (.tmp 49), 2047⟩]
def laws_FnFilmParts_r8 (i_impl_JoinFilms : FuncId) : List SOper := [
  ⟨(some 51), none, .loadN 6 (.tmp 8), 0⟩,
  ⟨(some 52), none, .loadN 6 (.tmp 10), 0⟩,
  ⟨(some 53), none, .call (.func i_impl_JoinFilms) [(.tmp 51), (.tmp 52)], 3⟩,
  ⟨(some 50), none, .mov (.tmp 53), 7⟩,
  ⟨(some 54), none, .extract (.tmp 50) 0, 15⟩,
  ⟨(some 55), none, .extract (.tmp 50) 1, 15⟩,
  ⟨(some 12), none, .alloc [(.int .i64 0), (.int .i64 0), (.bool false), (.slice none 0 0), (.slice none 0 0), (.slice none 0 0)], 0⟩,
  ⟨none, none, .store 6 (.tmp 12) (.tmp 54), 95⟩,
  ⟨(some 13), none, .mov (.tmp 55), 255⟩]
def laws_FnFilmParts_r9 (i_spec_R8Wild : FuncId) : List SOper := [
  ⟨(some 56), none, .mov (.tmp 1), 0⟩,
  ⟨(some 57), none, .fieldAddr 0 (.tmp 5), 0⟩,
  ⟨(some 58), none, .loadN 5 (.tmp 57), 2⟩,
  ⟨(some 59), none, .call (.func i_spec_R8Wild) [(.tmp 56), (.tmp 58)], 7⟩,
  ⟨(some 14), none, .alloc [(.slice none 0 0), (.slice none 0 0), (.slice none 0 0)], 0⟩,
  ⟨none, none, .store 3 (.tmp 14) (.tmp 59), 31⟩]
def laws_FnFilmParts_r10 (i_impl_FilmOf : FuncId) : List SOper := [
  ⟨(some 61), none, .fieldAddr 0 (.tmp 5), 0⟩,
  ⟨(some 62), none, .loadN 5 (.tmp 61), 1⟩,
  ⟨(some 63), none, .loadN 3 (.tmp 14), 0⟩,
  ⟨(some 64), none, .call (.func i_impl_FilmOf) [(.tmp 62), (.tmp 63), (.const (.int .i64 2)), (.const (.int .i64 3))], 7⟩,
  ⟨(some 60), none, .mov (.tmp 64), 15⟩,
  ⟨(some 65), none, .extract (.tmp 60) 0, 31⟩,
  ⟨(some 66), none, .extract (.tmp 60) 1, 31⟩,
  ⟨(some 15), none, .alloc [(.int .i64 0), (.int .i64 0), (.bool false), (.slice none 0 0), (.slice none 0 0), (.slice none 0 0)], 0⟩,
  ⟨none, none, .store 6 (.tmp 15) (.tmp 65), 191⟩,
  ⟨(some 16), none, .mov (.tmp 66), 511⟩]
def laws_FnFilmParts_r11 (i_impl_RunField : FuncId) : List SOper := [
  ⟨(some 68), none, .fieldAddr 0 (.tmp 5), 0⟩,
  ⟨(some 69), none, .loadN 5 (.tmp 68), 1⟩,
  ⟨(some 70), none, .loadN 3 (.tmp 14), 0⟩,
  ⟨(some 71), none, .call (.func i_impl_RunField) [(.tmp 69), (.tmp 70), (.const (.int .i64 4))], 7⟩,
  ⟨(some 67), none, .mov (.tmp 71), 15⟩,
  ⟨(some 72), none, .extract (.tmp 67) 0, 31⟩,
  ⟨(some 73), none, .extract (.tmp 67) 1, 31⟩,
  ⟨(some 17), none, .alloc [(.slice none 0 0), (.slice none 0 0), (.slice none 0 0)], 0⟩,
  ⟨none, none, .store 3 (.tmp 17) (.tmp 72), 191⟩,
  ⟨(some 18), none, .mov (.tmp 73), 511⟩]
def laws_FnFilmParts_r12 (i_impl_SameFilm i_impl_SameField : FuncId) : List SOper := [
  ⟨(some 74), none, .mov (.tmp 9), 0⟩,
  ⟨(some 75), none, .un .not (.tmp 74), 1⟩,
  ⟨(some 76), none, .mov (.tmp 75), 3⟩,
  ⟨(some 77), (some (76, false)), .mov (.tmp 11), 7⟩,
  ⟨(some 78), (some (76, false)), .un .not (.tmp 77), 15⟩,
  ⟨(some 79), none, .pick (.tmp 76) (.const (.bool true)) (.tmp 78), 31⟩,
  ⟨(some 80), none, .mov (.tmp 79), 63⟩,
  ⟨(some 81), (some (80, false)), .mov (.tmp 13), 127⟩,
  ⟨(some 82), (some (80, false)), .un .not (.tmp 81), 255⟩,
  ⟨(some 83), none, .pick (.tmp 80) (.const (.bool true)) (.tmp 82), 511⟩,
  ⟨(some 84), none, .mov (.tmp 83), 1023⟩,
  ⟨(some 85), (some (84, false)), .mov (.tmp 16), 2047⟩,
  ⟨(some 86), (some (84, false)), .un .not (.tmp 85), 4095⟩,
  ⟨(some 87), none, .pick (.tmp 84) (.const (.bool true)) (.tmp 86), 8191⟩,
  ⟨(some 88), none, .mov (.tmp 87), 16383⟩,
  ⟨(some 89), (some (88, false)), .mov (.tmp 18), 32767⟩,
  ⟨(some 90), (some (88, false)), .un .not (.tmp 89), 65535⟩,
  ⟨(some 91), none, .pick (.tmp 88) (.const (.bool true)) (.tmp 90), 131071⟩,
  ⟨(some 92), none, .mov (.tmp 91), 262143⟩,
  ⟨(some 93), (some (92, false)), .loadN 6 (.tmp 12), 524287⟩,
  ⟨(some 94), (some (92, false)), .loadN 6 (.tmp 5), 524287⟩,
  ⟨(some 95), (some (92, false)), .call (.func i_impl_SameFilm) [(.tmp 93), (.tmp 94)], 2097151⟩,
  ⟨(some 96), (some (92, false)), .un .not (.tmp 95), 4194303⟩,
  ⟨(some 97), none, .pick (.tmp 92) (.const (.bool true)) (.tmp 96), 8388607⟩,
  ⟨(some 98), none, .mov (.tmp 97), 16777215⟩,
  ⟨(some 99), (some (98, false)), .fieldAddr 5 (.tmp 15), 33554431⟩,
  ⟨(some 100), (some (98, false)), .load1 (.tmp 99), 67108863⟩,
  ⟨(some 101), (some (98, false)), .len false (.tmp 100), 134217727⟩,
  ⟨(some 102), (some (98, false)), .bin .neq .other (.tmp 101) (.const (.int .i64 3)), 268435455⟩,
  ⟨(some 103), none, .pick (.tmp 98) (.const (.bool true)) (.tmp 102), 536870911⟩,
  ⟨(some 104), none, .mov (.tmp 103), 1073741823⟩,
  ⟨(some 105), (some (104, false)), .fieldAddr 5 (.tmp 15), 2147483647⟩,
  ⟨(some 106), (some (104, false)), .load1 (.tmp 105), 4294967295⟩,
  ⟨(some 107), (some (104, false)), .indexAddrS 3 (.tmp 106) (.const (.int .i64 0)), 8589934591⟩,
  ⟨(some 108), (some (104, false)), .loadN 3 (.tmp 107), 17179869183⟩,
  ⟨(some 109), (some (104, false)), .loadN 3 (.tmp 14), 2147483647⟩,
  ⟨(some 110), (some (104, false)), .call (.func i_impl_SameField) [(.tmp 108), (.tmp 109)], 68719476735⟩,
  ⟨(some 111), (some (104, false)), .un .not (.tmp 110), 137438953471⟩,
  ⟨(some 112), none, .pick (.tmp 104) (.const (.bool true)) (.tmp 111), 274877906943⟩,
  ⟨(some 113), none, .mov (.tmp 112), 549755813887⟩,
  ⟨(some 114), (some (113, false)), .fieldAddr 5 (.tmp 15), 1099511627775⟩,
  ⟨(some 115), (some (113, false)), .load1 (.tmp 114), 2199023255551⟩,
  ⟨(some 116), (some (113, false)), .indexAddrS 3 (.tmp 115) (.const (.int .i64 2)), 4398046511103⟩,
  ⟨(some 117), (some (113, false)), .loadN 3 (.tmp 116), 8796093022207⟩,
  ⟨(some 118), (some (113, false)), .loadN 3 (.tmp 17), 1099511627775⟩,
  ⟨(some 119), (some (113, false)), .call (.func i_impl_SameField) [(.tmp 117), (.tmp 118)], 35184372088831⟩,
  ⟨(some 120), (some (113, false)), .un .not (.tmp 119), 70368744177663⟩,
  ⟨(some 121), none, .pick (.tmp 113) (.const (.bool true)) (.tmp 120), 140737488355327⟩]
def laws_FnFilmParts_r13 : List SOper := [
  ⟨(some 4), none, .mov (.const (.bool false)), 0⟩]
def laws_FnFilmParts_r14 : List SOper := [
  ⟨(some 122), none, .mov (.tmp 6), 0⟩,
  ⟨(some 123), none, .bin .eql .other (.tmp 122) (.const (.int .i64 0)), 1⟩]
def laws_FnFilmParts_r15 : List SOper := [
  ⟨(some 4), none, .mov (.const (.bool true)), 0⟩]
def laws_FnFilmParts_r16 (i_impl_SliceFilm : FuncId) : List SOper := [
  ⟨(some 125), none, .loadN 6 (.tmp 5), 0⟩,
  ⟨(some 126), none, .mov (.tmp 6), 0⟩,
  ⟨(some 127), none, .bin .sub .other (.tmp 126) (.const (.int .i64 1)), 2⟩,
  ⟨(some 128), none, .call (.func i_impl_SliceFilm) [(.tmp 125), (.const (.int .i64 0)), (.tmp 127)], 7⟩,
  ⟨(some 124), none, .mov (.tmp 128), 15⟩,
  ⟨(some 129), none, .extract (.tmp 124) 0, 31⟩,
  ⟨(some 130), none, .extract (.tmp 124) 1, 31⟩,
  ⟨(some 19), none, .alloc [(.int .i64 0), (.int .i64 0), (.bool false), (.slice none 0 0), (.slice none 0 0), (.slice none 0 0)], 0⟩,
  ⟨none, none, .store 6 (.tmp 19) (.tmp 129), 191⟩,
  ⟨(some 20), none, .mov (.tmp 130), 511⟩]
def laws_FnFilmParts_r17 (i_impl_AddField : FuncId) : List SOper := [
  ⟨(some 132), none, .loadN 6 (.tmp 19), 0⟩,
  ⟨(some 133), none, .fieldAddr 5 (.tmp 5), 0⟩,
  ⟨(some 134), none, .load1 (.tmp 133), 2⟩,
  ⟨(some 135), none, .mov (.tmp 6), 0⟩,
  ⟨(some 136), none, .bin .sub .other (.tmp 135) (.const (.int .i64 1)), 8⟩,
  ⟨(some 137), none, .indexAddrS 3 (.tmp 134) (.tmp 136), 30⟩,
  ⟨(some 138), none, .loadN 3 (.tmp 137), 62⟩,
  ⟨(some 139), none, .call (.func i_impl_AddField) [(.tmp 132), (.tmp 138)], 127⟩,
  ⟨(some 131), none, .mov (.tmp 139), 255⟩,
  ⟨(some 140), none, .extract (.tmp 131) 0, 511⟩,
  ⟨(some 141), none, .extract (.tmp 131) 1, 511⟩,
  ⟨(some 21), none, .alloc [(.int .i64 0), (.int .i64 0), (.bool false), (.slice none 0 0), (.slice none 0 0), (.slice none 0 0)], 0⟩,
  ⟨none, none, .store 6 (.tmp 21) (.tmp 140), 3071⟩,
  ⟨(some 22), none, .mov (.tmp 141), 8191⟩]
def laws_FnFilmParts_r18 (i_impl_SameFilm : FuncId) : List SOper := [
  ⟨(some 142), none, .mov (.tmp 20), 0⟩,
  ⟨(some 143), none, .mov (.tmp 142), 1⟩,
  ⟨(some 144), (some (143, true)), .mov (.tmp 22), 3⟩,
  ⟨(some 145), none, .pick (.tmp 143) (.tmp 144) (.const (.bool false)), 7⟩,
  ⟨(some 146), none, .mov (.tmp 145), 15⟩,
  ⟨(some 147), (some (146, true)), .loadN 6 (.tmp 21), 31⟩,
  ⟨(some 148), (some (146, true)), .loadN 6 (.tmp 5), 31⟩,
  ⟨(some 149), (some (146, true)), .call (.func i_impl_SameFilm) [(.tmp 147), (.tmp 148)], 127⟩,
  ⟨(some 150), none, .pick (.tmp 146) (.tmp 149) (.const (.bool false)), 255⟩,
  ⟨(some 4), none, .mov (.tmp 150), 511⟩]
def laws_FnFilmParts (i_laws_r8Long i_spec_R8Film i_laws_r8At i_impl_SliceFilm i_impl_JoinFilms i_spec_R8Wild i_impl_FilmOf i_impl_RunField i_impl_SameFilm i_impl_SameField i_impl_AddField : FuncId) : SFunc := ⟨151, [.tmp 4], (.kp [0, 1] (.seq (.region laws_FnFilmParts_r0 false) (.kp [0, 1] (.seq (.seq (.region (laws_FnFilmParts_r1 i_laws_r8Long) false) (.kp [0, 1, 25] (.cond (.tmp 25) (.seq (.region laws_FnFilmParts_r2 false) .ret) .skip))) (.kp [0, 1] (.seq (.region (laws_FnFilmParts_r3 i_spec_R8Film) false) (.kp [1, 5] (.seq (.region laws_FnFilmParts_r4 false) (.kp [1, 5, 6] (.seq (.region (laws_FnFilmParts_r5 i_laws_r8At) false) (.kp [1, 5, 6, 7] (.seq (.region (laws_FnFilmParts_r6 i_impl_SliceFilm) false) (.kp [1, 5, 6, 7, 8, 9] (.seq (.region (laws_FnFilmParts_r7 i_impl_SliceFilm) false) (.kp [1, 5, 6, 8, 9, 10, 11] (.seq (.region (laws_FnFilmParts_r8 i_impl_JoinFilms) false) (.kp [1, 5, 6, 9, 11, 12, 13] (.seq (.region (laws_FnFilmParts_r9 i_spec_R8Wild) false) (.kp [5, 6, 9, 11, 12, 13, 14] (.seq (.region (laws_FnFilmParts_r10 i_impl_FilmOf) false) (.kp [5, 6, 9, 11, 12, 13, 14, 15, 16] (.seq (.region (laws_FnFilmParts_r11 i_impl_RunField) false) (.kp [5, 6, 9, 11, 12, 13, 14, 15, 16, 17, 18] (.seq (.seq (.region (laws_FnFilmParts_r12 i_impl_SameFilm i_impl_SameField) true) (.kp [5, 6, 121] (.cond (.tmp 121) (.seq (.region laws_FnFilmParts_r13 false) .ret) .skip))) (.kp [5, 6] (.seq (.seq (.region laws_FnFilmParts_r14 false) (.kp [5, 6, 123] (.cond (.tmp 123) (.seq (.region laws_FnFilmParts_r15 false) .ret) .skip))) (.kp [5, 6] (.seq (.region (laws_FnFilmParts_r16 i_impl_SliceFilm) false) (.kp [5, 6, 19, 20] (.seq (.region (laws_FnFilmParts_r17 i_impl_AddField) true) (.kp [5, 20, 21, 22] (.seq (.region (laws_FnFilmParts_r18 i_impl_SameFilm) false) .ret))))))))))))))))))))))))))))))))⟩
theorem laws_FnFilmParts_r12_dr {i_impl_SameFilm i_impl_SameField : FuncId} : drawOkW wStat (laws_FnFilmParts_r12 i_impl_SameFilm i_impl_SameField) = true := by kernel_rfl
attribute [push_cast] laws_FnFilmParts_r12_dr
theorem laws_FnFilmParts_r17_dr {i_impl_AddField : FuncId} : (drawOkS (laws_FnFilmParts_r17 i_impl_AddField) && storesOnly (laws_FnFilmParts_r17 i_impl_AddField)) = true := by kernel_rfl
attribute [push_cast] laws_FnFilmParts_r17_dr
theorem Row.pre {A S : Heap} (hp : Pre A S) {e n : Nat} {v : Value} {cs : List Value} (h : Row A e v n cs) : Row S e v n cs := by obtain ⟨X, rfl⟩ := hp; exact h.ext X
theorem sameL_refl (xs : List Nat) : sameL xs xs = true := decide_eq_true rfl
theorem sameFl_refl (f : Fld) : sameFl f f = true := by unfold sameFl; rw [sameL_refl, sameL_refl, sameL_refl]; rfl
theorem sameFls_refl : ∀ fs : List Fld, sameFls fs fs = true
  | [] => rfl
  | f :: fs => by unfold sameFls; rw [sameFl_refl, sameFls_refl fs]; rfl
theorem sameSN_refl (w h : Int) (wr : Bool) (sp lo : List Nat) : sameSN w h wr sp lo w h wr sp lo = true := by unfold sameSN; rw [sameL_refl, sameL_refl]; simp
theorem sameFm_refl {w h : Int} {wr : Bool} {sp lo : List Nat} {fs : List Fld} (hI : isFilm w h wr sp lo fs = true) : sameFm w h wr sp lo fs w h wr sp lo fs = true := by
  unfold sameFm; rw [hI, sameSN_refl, sameFls_refl]; rfl
theorem isFilm_sub {w h : Int} {wr : Bool} {sp lo : List Nat} {fs gs : List Fld} (hI : isFilm w h wr sp lo fs = true) (hl : gs.length ≤ fs.length) (hm : ∀ g ∈ gs, g ∈ fs) : isFilm w h wr sp lo gs = true := by
  unfold isFilm at hI ⊢
  rw [Bool.and_eq_true, Bool.and_eq_true] at hI ⊢
  have := of_decide_eq_true hI.1.2
  refine ⟨⟨hI.1.1, decide_eq_true (by omega)⟩, List.all_eq_true.2 fun g hg => List.all_eq_true.1 hI.2 g (hm g hg)⟩
theorem slOk_t {w h : Int} {wr : Bool} {sp lo : List Nat} {fs : List Fld} {a k : Int} (hI : isFilm w h wr sp lo fs = true) (h1 : 0 ≤ a) (h2 : a ≤ fs.length) (h3 : 0 ≤ k) (h4 : k ≤ fs.length - a) : slOk w h wr sp lo fs a k = true := by
  unfold slOk; rw [hI]; simp [inR]; omega
theorem joinOk_t {w h : Int} {wr : Bool} {sp lo : List Nat} {fs gs : List Fld} (h1 : isFilm w h wr sp lo fs = true) (h2 : isFilm w h wr sp lo gs = true) (h3 : fs.length + gs.length ≤ 16) : joinOk w h wr sp lo fs w h wr sp lo gs = true := by
  unfold joinOk; rw [h1, h2]; simp [sameS]; omega
theorem film_fit {W H : Nat} {wr : Bool} {sp lo : List Nat} {fs : List Fld} (hI : isFilm W H wr sp lo fs = true) (hN : W * H ≤ 256) : fitsF fs := by
  unfold isFilm at hI
  rw [Bool.and_eq_true, Bool.and_eq_true] at hI
  have := of_decide_eq_true hI.1.2
  refine ⟨by omega, fun f hf => ?_⟩
  obtain ⟨_, e1, e2, e3⟩ := isField_len (List.all_eq_true.1 hI.2 f hf)
  have hWH : (W : Int) * (H : Int) = ((W * H : Nat) : Int) := (Int.natCast_mul _ _).symm
  exact ⟨by omega, by omega, by omega⟩
theorem runF_low {W H : Nat} {wr : Bool} {sp lo : List Nat} {f : Fld} (h : lowF1 f) : ∀ k, lowF1 (runF W H wr sp lo k f)
  | 0 => h
  | k + 1 => stepF_low (runF_low h k)

theorem FlsC.get3 {σ : Heap} : ∀ {fs : List Fld} {cs : List Value} {i : Nat} {f : Fld}, FlsC σ fs cs → fs[i]? = some f → ∃ a b c, (cs.drop (i * 3)).take 3 = [a, b, c] ∧ FlR σ a b c f.e f.x f.y
  | g :: fs, a :: b :: c :: cs, 0, f, h, hf => by simp at hf; subst hf; exact ⟨a, b, c, rfl, h.1⟩
  | g :: fs, a :: b :: c :: cs, i + 1, f, h, hf => by
    obtain ⟨a', b', c', h1, h2⟩ := FlsC.get3 (i := i) h.2 (by simpa using hf)
    refine ⟨a', b', c', ?_, h2⟩
    rw [← h1, show (i + 1) * 3 = i * 3 + 3 by omega]
    rfl
  | [], [], _, _, _, hf => by simp at hf
  | [], _ :: _, _, _, h, _ => False.elim h
  | _ :: _, [], _, _, h, _ => False.elim h
  | _ :: _, [_], _, _, h, _ => False.elim h
  | _ :: _, [_, _], _, _, h, _ => False.elim h
section
variable {C : Ctab} {F : Frame} {τ l : Heap}
theorem Row.ld33 {v : Value} {m i : Nat} {cs : List Value} {a b c : Value} (hr : Row τ 3 v m cs) (hi : i < m) (hc : (cs.drop (i * 3)).take 3 = [a, b, c]) : aLoadN τ 3 (elemP 3 v i) = some (fV a b c) := by
  unfold Row at hr
  split at hr
  · omega
  · rename_i ad n' cap
    obtain ⟨rfl, h2, obj, h3, h4⟩ := hr
    obtain ⟨g1, g2, g3, g4⟩ := rowAt_spec h3
    have e1 : elemP 3 (.slice (some ad) n' cap) i = .pointer (some ⟨ad.block, ad.off + i * 3, some (ad.off + cap * 3)⟩) := by unfold elemP; rfl
    have e2 : (obj.cells.drop (ad.off + i * 3)).take 3 = [a, b, c] := by
      rw [← hc, h4, List.drop_take, List.drop_drop, List.take_take]
      congr 1
      omega
    rw [e1]
    simp only [aLoadN, g1]
    have hp : ptrOk obj (some (ad.off + cap * 3)) = true := by simp [ptrOk, g2, g3]; rfl
    rw [if_pos (by rw [hp, Bool.true_and, decide_eq_true_eq, g3]; omega), e2]
  · exact hr.elim
/-- An element of a row that may be read. -/
theorem EvR.ld33 {Q} {d n i m : Nat} {rest : List SOper} {x : Operand} {v a b c : Value} {cs : List Value} (hr : Row τ 3 v m cs) (hi : i < m) (hc : (cs.drop (i * 3)).take 3 = [a, b, c]) (h1 : eval F x = elemP 3 v i)
    (h : EvR C rest ((d, fV a b c) :: F) (τ ++ l) Q) : EvR C (⟨some d, none, .loadN 3 x, n⟩ :: rest) F (τ ++ l) Q := by
  refine EvR.opS (evL_ok ?_) h
  rw [evL, h1]
  exact Row.ld33 (hr.ext l) hi hc
end
theorem endKK {F : Frame} {σ S l : Heap} {rs : List SRes} {Q : Value → Heap → Prop} {v : Value} {q : Bool} {o : Out} (hp : Pre σ S) (ho : match o with | .exit _ => False | _ => True) (h : Q v σ) (h1 : resOf F (S ++ l) rs = some v) (h2 : gcTop σ.length v = some (v, [])) :
    atEnd rs (fun v0 σ0 => ∃ v ids σ', gcTop σ.length v0 = some (v, ids) ∧ Cleared σ σ0 ids σ' ∧ QuietTo q σ σ' ∧ Q v σ') o F (S ++ l) := by
  obtain ⟨X, rfl⟩ := hp
  rw [List.append_assoc] at h1 ⊢
  exact endS ho h h1 h2

theorem EvR.ldP {C : Ctab} {F : Frame} {τ l : Heap} {Q} {n d m b o : Nat} {rest : List SOper} {x : Operand} {cells cs : List Value} (hp : PtAt τ b o cells) (h1 : eval F x = .pointer (some ⟨b, o, none⟩)) (h2 : cells.take m = cs) (h3 : cs.length = m) (hm : 0 < m)
    (h : EvR C rest ((d, .agg cs.toArray) :: F) (τ ++ l) Q) : EvR C (⟨some d, none, .loadN m x, n⟩ :: rest) F (τ ++ l) Q := by
  refine EvR.opS (evL_ok ?_) h
  obtain ⟨cells0, r, g1, g2⟩ := hp
  have hp2 : PtAt τ b o cs := ⟨cells0, r, g1, by
    have hl : cs.length = min m cells.length := by rw [← h2, List.length_take]
    rw [h3]
    conv => rhs; rw [← h2, ← g2, List.take_take]
    congr 1
    omega⟩
  rw [evL, h1]
  exact hp2.loadNR h3 hm

theorem filmParts_t {C : Ctab} {i1 i2 i3 i4 i5 i6 i7 i8 i9 i10 i11 : FuncId} {c1 c2 c3 c4 c5 c6 c7 c8 c9 c10 c11 : Contract} (h1 : Has C i1 c1 laws_r8Long_ok) (h2 : Has C i2 c2 spec_R8Film_ok) (h3 : Has C i3 c3 laws_r8At_ok) (h4 : Has C i4 c4 impl_SliceFilm_ok) (h5 : Has C i5 c5 impl_JoinFilms_ok) (h6 : Has C i6 c6 spec_R8Wild_ok) (h7 : Has C i7 c7 impl_FilmOf_ok) (h8 : Has C i8 c8 impl_RunField_ok) (h9 : Has C i9 c9 impl_SameFilm_ok) (h10 : Has C i10 c10 impl_SameField_ok) (h11 : Has C i11 c11 impl_AddField_ok) (σ : Heap) (va vb : Value) (code more : List UInt8) (r1 : Row σ 1 va code.length (b8s code)) (r2 : Row σ 1 vb more.length (b8s more)) : Ret (gcC C (laws_FnFilmParts i1 i2 i3 i4 i5 i6 i7 i8 i9 i10 i11) true) [va, vb] σ fun v _ => v = .bool true := by
  have k1 := r1.ok
  have k2 := r2.ok
  by_cases hL : code.length ≤ 48 ∧ more.length ≤ 48
  rotate_left
  · refine ret_gc rfl rfl ?_
    repeat' (first | refine ff ?_ | ((first | refine EvR.aSplB ?_ ?_ | refine Ev.aSplB ?_ ?_) <;> (intro hb; (try rw [hb]); (try simp only [Bool.not_eq_true', Bool.not_eq_false', Bool.not_eq_eq_eq_not, Bool.not_true, Bool.not_false, decide_eq_true_eq, decide_eq_false_iff_not, Bool.and_eq_true, Bool.and_eq_false_iff, Bool.or_eq_true, Bool.or_eq_false_iff] at hb); (try (exfalso; first | omega | exact hb trivial)))) | (apply endS trivial; rotate_left; (· exact eva); (· rfl); try refine ⟨?_, rfl⟩) | fail)
    (apply EvR.aCall h1.at_; (· exact eva); (· exact  h1.ok _ va vb code more (r1.ext _) (r2.ext _)); (rintro _ _ ⟨rfl, rfl⟩; refine EvR.nrm ?_))
    rw [show (decide (48 < code.length) || decide (48 < more.length)) = true from by simp; omega]
    repeat' (first | refine ff ?_ | ((first | refine EvR.aSplB ?_ ?_ | refine Ev.aSplB ?_ ?_) <;> (intro hb; (try rw [hb]); (try simp only [Bool.not_eq_true', Bool.not_eq_false', Bool.not_eq_eq_eq_not, Bool.not_true, Bool.not_false, decide_eq_true_eq, decide_eq_false_iff_not, Bool.and_eq_true, Bool.and_eq_false_iff, Bool.or_eq_true, Bool.or_eq_false_iff] at hb); (try (exfalso; first | omega | exact hb trivial)))) | (apply endS trivial; rotate_left; (· exact eva); (· rfl); try refine ⟨?_, rfl⟩) | fail)
    all_goals (try rfl)
  obtain ⟨hL1, hL2⟩ := hL
  refine ret_gc rfl rfl ?_
  repeat' (first | refine ff ?_ | ((first | refine EvR.aSplB ?_ ?_ | refine Ev.aSplB ?_ ?_) <;> (intro hb; (try rw [hb]); (try simp only [Bool.not_eq_true', Bool.not_eq_false', Bool.not_eq_eq_eq_not, Bool.not_true, Bool.not_false, decide_eq_true_eq, decide_eq_false_iff_not, Bool.and_eq_true, Bool.and_eq_false_iff, Bool.or_eq_true, Bool.or_eq_false_iff] at hb); (try (exfalso; first | omega | exact hb trivial)))) | (apply endS trivial; rotate_left; (· exact eva); (· rfl); try refine ⟨?_, rfl⟩) | fail)
  (apply EvR.aCall h1.at_; (· exact eva); (· exact  h1.ok _ va vb code more (r1.ext _) (r2.ext _)); (rintro _ _ ⟨rfl, rfl⟩; refine EvR.nrm ?_))
  rw [show (decide (48 < code.length) || decide (48 < more.length)) = false from by simp; omega]
  repeat' (first | refine ff ?_ | ((first | refine EvR.aSplB ?_ ?_ | refine Ev.aSplB ?_ ?_) <;> (intro hb; (try rw [hb]); (try simp only [Bool.not_eq_true', Bool.not_eq_false', Bool.not_eq_eq_eq_not, Bool.not_true, Bool.not_false, decide_eq_true_eq, decide_eq_false_iff_not, Bool.and_eq_true, Bool.and_eq_false_iff, Bool.or_eq_true, Bool.or_eq_false_iff] at hb); (try (exfalso; first | omega | exact hb trivial)))) | (apply endS trivial; rotate_left; (· exact eva); (· rfl); try refine ⟨?_, rfl⟩) | fail)
  apply EvR.aCall h2.at_; (· exact eva); (· exact h2.ok _ va code (r1.ext _) (by omega))
  rintro _ _ ⟨W, H, wr, sp, lo, fs, s1, l1, b1, R1, τ1, hI, hlen, lF, isp, ilo, rfl, rfl, o1⟩
  have hsh : isSheet W H sp lo = true := by unfold isFilm at hI; rw [Bool.and_eq_true, Bool.and_eq_true] at hI; exact hI.1.1
  obtain ⟨a1, a2, a3, a4, z1, z2⟩ := isSheet_sides hsh
  have hN2 : W * H ≤ 256 := Nat.mul_le_mul (show W ≤ 16 by omega) (show H ≤ 16 by omega)
  have hWH : (W : Int) * (H : Int) = ((W * H : Nat) : Int) := (Int.natCast_mul _ _).symm
  have n1 : sp.length ≤ 1048576 := by omega
  have n2 : lo.length ≤ 1048576 := by omega
  have hfit := film_fit hI hN2
  have d2 : Row σ 1 vb more.length (b8s more) := r2
  refine EvR.base2 fun A1 S1 f1 e1 q1 => ?_
  rw [← e1] at o1
  have w1 : Pre σ S1 := Pre.trans (by rw [f1]; exact (Pre.refl _).app _) q1
  have xx : Pre σ S1 := w1
  replace d2 := d2.pre w1
  clear e1 f1 q1
  have D1a := o1.sheet
  have D1b := o1.fls
  clear o1
  refine EvR.nrm ?_
  repeat' (first | refine ff ?_ | ((first | refine EvR.aSplB ?_ ?_ | refine Ev.aSplB ?_ ?_) <;> (intro hb; (try rw [hb]); (try simp only [Bool.not_eq_true', Bool.not_eq_false', Bool.not_eq_eq_eq_not, Bool.not_true, Bool.not_false, decide_eq_true_eq, decide_eq_false_iff_not, Bool.and_eq_true, Bool.and_eq_false_iff, Bool.or_eq_true, Bool.or_eq_false_iff] at hb); (try (exfalso; first | omega | exact hb trivial)))) | (apply endS trivial; rotate_left; (· exact eva); (· rfl); try refine ⟨?_, rfl⟩) | fail)
  apply EvR.aCall h3.at_; (· exact eva); (· exact h3.ok _ vb more 0 (fs.length + 1) (d2.ext _) (by omega) (by omega) (by omega)); rintro _ _ ⟨q, uq0, uq1, rfl, rfl⟩
  obtain ⟨a, rfl⟩ := Int.eq_ofNat_of_zero_le uq0
  refine EvR.nrm ?_
  repeat' (first | refine ff ?_ | ((first | refine EvR.aSplB ?_ ?_ | refine Ev.aSplB ?_ ?_) <;> (intro hb; (try rw [hb]); (try simp only [Bool.not_eq_true', Bool.not_eq_false', Bool.not_eq_eq_eq_not, Bool.not_true, Bool.not_false, decide_eq_true_eq, decide_eq_false_iff_not, Bool.and_eq_true, Bool.and_eq_false_iff, Bool.or_eq_true, Bool.or_eq_false_iff] at hb); (try (exfalso; first | omega | exact hb trivial)))) | (apply endS trivial; rotate_left; (· exact eva); (· rfl); try refine ⟨?_, rfl⟩) | fail)
  apply EvR.aCall h4.at_; (· exact eva); (· exact h4.ok _ W H wr _ _ _ sp lo fs 0 a ⟨D1a.s.ext _, D1a.l.ext _⟩ (D1b.ext _) n1 n2 hfit); rintro _ _ hres
  obtain ⟨τ2, s2, l2, b2, R2, rfl, rfl, o2⟩ := hres.t (slOk_t hI (by omega) (by omega) (by omega) (by omega))
  clear hres
  obtain ⟨ls, hls⟩ : ∃ ls, ls = (fs.drop (0 : Int).toNat).take (a : Int).toNat := ⟨_, rfl⟩
  rw [← hls] at o2 ⊢
  refine EvR.base2 fun A2 S2 f2 e2 q2 => ?_
  rw [← e2] at o2
  have w2 : Pre S1 S2 := Pre.trans (by rw [f2]; exact (Pre.refl _).app _) q2
  have p5 : PtAt S2 (S1.length + 0) 0 [.int .i64 W, .int .i64 H, .bool wr, slV s1 sp.length, slV l1 lo.length, slV b1 fs.length] := PtAt.pre q2 (by rw [f2]; exact PtAt.own rfl)
  replace xx := xx.trans w2
  replace d2 := d2.pre w2
  replace D1a := D1a.pre w2
  replace D1b := D1b.pre w2
  clear e2 f2 q2
  have D2a := o2.sheet
  have D2b := o2.fls
  clear o2
  refine EvR.nrm ?_
  repeat' (first | refine ff ?_ | ((first | refine EvR.aSplB ?_ ?_ | refine Ev.aSplB ?_ ?_) <;> (intro hb; (try rw [hb]); (try simp only [Bool.not_eq_true', Bool.not_eq_false', Bool.not_eq_eq_eq_not, Bool.not_true, Bool.not_false, decide_eq_true_eq, decide_eq_false_iff_not, Bool.and_eq_true, Bool.and_eq_false_iff, Bool.or_eq_true, Bool.or_eq_false_iff] at hb); (try (exfalso; first | omega | exact hb trivial)))) | (apply endS trivial; rotate_left; (· exact eva); (· rfl); try refine ⟨?_, rfl⟩) | fail)
  apply EvR.aCall h4.at_; (· exact eva); (· exact h4.ok _ W H wr _ _ _ sp lo fs a (fs.length - a) ⟨D1a.s.ext _, D1a.l.ext _⟩ (D1b.ext _) n1 n2 hfit); rintro _ _ hres
  obtain ⟨τ3, s3, l3, b3, R3, rfl, rfl, o3⟩ := hres.t (slOk_t hI (by omega) (by omega) (by omega) (by omega))
  clear hres
  obtain ⟨rs, hrs⟩ : ∃ rs, rs = (fs.drop (a : Int).toNat).take ((fs.length : Int) - a).toNat := ⟨_, rfl⟩
  rw [← hrs] at o3 ⊢
  refine EvR.base2 fun A3 S3 f3 e3 q3 => ?_
  rw [← e3] at o3
  have w3 : Pre S2 S3 := Pre.trans (by rw [f3]; exact (Pre.refl _).app _) q3
  have p8 : PtAt S3 (S2.length + 0) 0 [.int .i64 W, .int .i64 H, .bool wr, slV s2 sp.length, slV l2 lo.length, slV b2 ls.length] := PtAt.pre q3 (by rw [f3]; exact PtAt.own rfl)
  replace xx := xx.trans w3
  replace d2 := d2.pre w3
  replace D1a := D1a.pre w3
  replace D1b := D1b.pre w3
  replace p5 := p5.pre w3
  replace D2a := D2a.pre w3
  replace D2b := D2b.pre w3
  clear e3 f3 q3
  have D3a := o3.sheet
  have D3b := o3.fls
  clear o3
  have hjoin : ls ++ rs = fs := by
    rw [hls, hrs]
    rw [show (0 : Int).toNat = 0 from rfl, Int.toNat_natCast, List.drop_zero, List.take_of_length_le (l := fs.drop a) (by rw [List.length_drop]; omega), List.take_append_drop]
  have mls : ∀ g ∈ ls, g ∈ fs := fun g hg => by rw [← hjoin]; exact List.mem_append_left _ hg
  have mrs : ∀ g ∈ rs, g ∈ fs := fun g hg => by rw [← hjoin]; exact List.mem_append_right _ hg
  have hjl : ls.length + rs.length = fs.length := by rw [← hjoin, List.length_append]
  have hIl := isFilm_sub hI (show ls.length ≤ fs.length by omega) mls
  have hIr := isFilm_sub hI (show rs.length ≤ fs.length by omega) mrs
  refine EvR.nrm ?_
  repeat' (first | refine ff ?_ | ((first | refine EvR.aSplB ?_ ?_ | refine Ev.aSplB ?_ ?_) <;> (intro hb; (try rw [hb]); (try simp only [Bool.not_eq_true', Bool.not_eq_false', Bool.not_eq_eq_eq_not, Bool.not_true, Bool.not_false, decide_eq_true_eq, decide_eq_false_iff_not, Bool.and_eq_true, Bool.and_eq_false_iff, Bool.or_eq_true, Bool.or_eq_false_iff] at hb); (try (exfalso; first | omega | exact hb trivial)))) | (apply endS trivial; rotate_left; (· exact eva); (· rfl); try refine ⟨?_, rfl⟩) | fail)
  apply EvR.aCall h5.at_; (· exact eva); (· exact h5.ok _ W H wr _ _ _ sp lo ls W H wr _ _ _ sp lo rs ⟨D2a.s.ext _, D2a.l.ext _⟩ (D2b.ext _) ⟨D3a.s.ext _, D3a.l.ext _⟩ (D3b.ext _) n1 n2 (film_fit hIl hN2) n1 n2 (film_fit hIr hN2) isp ilo isp ilo); rintro _ _ hres
  obtain ⟨τ4, s4, l4, b4, R4, rfl, rfl, o4⟩ := hres.t (joinOk_t hIl hIr (by omega))
  clear hres
  rw [hjoin] at o4 ⊢
  refine EvR.base2 fun A4 S4 f4 e4 q4 => ?_
  rw [← e4] at o4
  have w4 : Pre S3 S4 := Pre.trans (by rw [f4]; exact (Pre.refl _).app _) q4
  replace xx := xx.trans w4
  replace d2 := d2.pre w4
  replace D1a := D1a.pre w4
  replace D1b := D1b.pre w4
  replace p5 := p5.pre w4
  clear e4 f4 q4
  have D4a := o4.sheet
  have D4b := o4.fls
  clear o4
  clear D2a D2b D3a D3b p8
  refine EvR.nrm ?_
  repeat' (first | refine ff ?_ | ((first | refine EvR.aSplB ?_ ?_ | refine Ev.aSplB ?_ ?_) <;> (intro hb; (try rw [hb]); (try simp only [Bool.not_eq_true', Bool.not_eq_false', Bool.not_eq_eq_eq_not, Bool.not_true, Bool.not_false, decide_eq_true_eq, decide_eq_false_iff_not, Bool.and_eq_true, Bool.and_eq_false_iff, Bool.or_eq_true, Bool.or_eq_false_iff] at hb); (try (exfalso; first | omega | exact hb trivial)))) | (apply endS trivial; rotate_left; (· exact eva); (· rfl); try refine ⟨?_, rfl⟩) | fail)
  refine EvR.ldP (cs := [.int .i64 W, .int .i64 H, .bool wr, slV s1 sp.length, slV l1 lo.length]) p5 rfl rfl rfl (by omega) ?_
  repeat' (first | refine ff ?_ | ((first | refine EvR.aSplB ?_ ?_ | refine Ev.aSplB ?_ ?_) <;> (intro hb; (try rw [hb]); (try simp only [Bool.not_eq_true', Bool.not_eq_false', Bool.not_eq_eq_eq_not, Bool.not_true, Bool.not_false, decide_eq_true_eq, decide_eq_false_iff_not, Bool.and_eq_true, Bool.and_eq_false_iff, Bool.or_eq_true, Bool.or_eq_false_iff] at hb); (try (exfalso; first | omega | exact hb trivial)))) | (apply endS trivial; rotate_left; (· exact eva); (· rfl); try refine ⟨?_, rfl⟩) | fail)
  apply EvR.aCall h6.at_; (· exact eva); (· exact h6.ok _ vb more W H wr _ _ sp lo (d2.ext _) (by omega) ⟨D1a.s.ext _, D1a.l.ext _⟩ hsh)
  rintro _ _ ⟨g, e5, x5, y5, τ5, hg, lg, rfl, rfl, hN⟩
  have hge := isField_len hg
  obtain ⟨_, u1, u2, u3⟩ := hge
  have hgf : fitF g := ⟨by omega, by omega, by omega⟩
  refine EvR.base2 fun A5 S5 f5 e5 q5 => ?_
  rw [← e5] at hN
  have w5 : Pre S4 S5 := Pre.trans (by rw [f5]; exact (Pre.refl _).app _) q5
  have p12 : PtAt S5 (S4.length + 0) 0 [.int .i64 W, .int .i64 H, .bool wr, slV s4 sp.length, slV l4 lo.length, slV b4 fs.length] := PtAt.pre q5 (by rw [f5]; exact PtAt.own rfl)
  replace xx := xx.trans w5
  replace d2 := d2.pre w5
  replace D1a := D1a.pre w5
  replace D1b := D1b.pre w5
  replace p5 := p5.pre w5
  replace D4a := D4a.pre w5
  replace D4b := D4b.pre w5
  clear e5 f5 q5
  have D5 : FlR S5 (slV e5 g.e.length) (slV x5 g.x.length) (slV y5 g.y.length) g.e g.x g.y := ⟨Row.whole hN.e_ (by omega) (by rw [f32s_length]; omega), Row.whole hN.x_ (by omega) (by rw [f32s_length]; omega), Row.whole hN.y_ (by omega) (by rw [f32s_length]; omega)⟩
  clear hN
  refine EvR.nrm ?_
  repeat' (first | refine ff ?_ | ((first | refine EvR.aSplB ?_ ?_ | refine Ev.aSplB ?_ ?_) <;> (intro hb; (try rw [hb]); (try simp only [Bool.not_eq_true', Bool.not_eq_false', Bool.not_eq_eq_eq_not, Bool.not_true, Bool.not_false, decide_eq_true_eq, decide_eq_false_iff_not, Bool.and_eq_true, Bool.and_eq_false_iff, Bool.or_eq_true, Bool.or_eq_false_iff] at hb); (try (exfalso; first | omega | exact hb trivial)))) | (apply endS trivial; rotate_left; (· exact eva); (· rfl); try refine ⟨?_, rfl⟩) | fail)
  refine EvR.ldP (cs := [.int .i64 W, .int .i64 H, .bool wr, slV s1 sp.length, slV l1 lo.length]) p5 rfl rfl rfl (by omega) ?_
  repeat' (first | refine ff ?_ | ((first | refine EvR.aSplB ?_ ?_ | refine Ev.aSplB ?_ ?_) <;> (intro hb; (try rw [hb]); (try simp only [Bool.not_eq_true', Bool.not_eq_false', Bool.not_eq_eq_eq_not, Bool.not_true, Bool.not_false, decide_eq_true_eq, decide_eq_false_iff_not, Bool.and_eq_true, Bool.and_eq_false_iff, Bool.or_eq_true, Bool.or_eq_false_iff] at hb); (try (exfalso; first | omega | exact hb trivial)))) | (apply endS trivial; rotate_left; (· exact eva); (· rfl); try refine ⟨?_, rfl⟩) | fail)
  have hfo : foOk W H wr sp lo g 2 3 = true := by unfold foOk; rw [hg]; rfl
  apply EvR.aCall h7.at_; (· exact eva); (· exact h7.ok _ W H wr _ _ sp lo _ _ _ g 2 3 ⟨D1a.s.ext _, D1a.l.ext _⟩ n1 n2 (D5.ext _) hgf); rintro _ _ hres
  obtain ⟨τ6, s6, l6, b6, R6, rfl, rfl, o6⟩ := hres.t hfo (by unfold foFs framesF; simp)
  clear hres
  obtain ⟨gs, hgs⟩ : ∃ gs, gs = foFs W H wr sp lo g 2 3 := ⟨_, rfl⟩
  rw [← hgs] at o6 ⊢
  have hgl : gs.length = 3 := by rw [hgs]; rfl
  have hg0 : gs[0]? = some g := by rw [hgs]; rfl
  obtain ⟨g4, hg4⟩ : ∃ g4, g4 = runF W H wr sp lo 4 g := ⟨_, rfl⟩
  have hg2 : gs[2]? = some g4 := by rw [hgs, hg4]; rfl
  refine EvR.base2 fun A6 S6 f6 e6 q6 => ?_
  rw [← e6] at o6
  have w6 : Pre S5 S6 := Pre.trans (by rw [f6]; exact (Pre.refl _).app _) q6
  have p14 : PtAt S6 (S5.length + 0) 0 [slV e5 g.e.length, slV x5 g.x.length, slV y5 g.y.length] := PtAt.pre q6 (by rw [f6]; exact PtAt.own rfl)
  replace xx := xx.trans w6
  replace d2 := d2.pre w6
  replace D1a := D1a.pre w6
  replace D1b := D1b.pre w6
  replace p5 := p5.pre w6
  replace D4a := D4a.pre w6
  replace D4b := D4b.pre w6
  replace p12 := p12.pre w6
  replace D5 := D5.pre w6
  clear e6 f6 q6
  have D6a := o6.sheet
  have D6b := o6.fls
  clear o6
  have hrf : rfOk W H wr sp lo g.e g.x g.y 4 = true := by unfold rfOk; rw [hg]; rfl
  have lg4 : lowF1 g4 := by rw [hg4]; exact runF_low lg 4
  have hgn : lenF (W * H) g4 := by rw [hg4]; exact runF_len ⟨by omega, by omega, by omega⟩ 4
  have e4 : rfF W H wr sp lo g.e g.x g.y 4 = g4 := by rw [hg4]; rfl
  have hg4f : fitF g4 := ⟨by have := hgn.1; omega, by have := hgn.2.1; omega, by have := hgn.2.2; omega⟩
  rw [hgl]
  refine EvR.nrm ?_
  repeat' (first | refine ff ?_ | ((first | refine EvR.aSplB ?_ ?_ | refine Ev.aSplB ?_ ?_) <;> (intro hb; (try rw [hb]); (try simp only [Bool.not_eq_true', Bool.not_eq_false', Bool.not_eq_eq_eq_not, Bool.not_true, Bool.not_false, decide_eq_true_eq, decide_eq_false_iff_not, Bool.and_eq_true, Bool.and_eq_false_iff, Bool.or_eq_true, Bool.or_eq_false_iff] at hb); (try (exfalso; first | omega | exact hb trivial)))) | (apply endS trivial; rotate_left; (· exact eva); (· rfl); try refine ⟨?_, rfl⟩) | fail)
  refine EvR.ldP (cs := [.int .i64 W, .int .i64 H, .bool wr, slV s1 sp.length, slV l1 lo.length]) p5 rfl rfl rfl (by omega) ?_
  repeat' (first | refine ff ?_ | ((first | refine EvR.aSplB ?_ ?_ | refine Ev.aSplB ?_ ?_) <;> (intro hb; (try rw [hb]); (try simp only [Bool.not_eq_true', Bool.not_eq_false', Bool.not_eq_eq_eq_not, Bool.not_true, Bool.not_false, decide_eq_true_eq, decide_eq_false_iff_not, Bool.and_eq_true, Bool.and_eq_false_iff, Bool.or_eq_true, Bool.or_eq_false_iff] at hb); (try (exfalso; first | omega | exact hb trivial)))) | (apply endS trivial; rotate_left; (· exact eva); (· rfl); try refine ⟨?_, rfl⟩) | fail)
  apply EvR.aCall h8.at_; (· exact eva); (· exact h8.ok _ W H wr _ _ sp lo _ _ _ g.e g.x g.y 4 ⟨D1a.s.ext _, D1a.l.ext _⟩ n1 n2 (D5.ext _) hgf.1 hgf.2.1 hgf.2.2)
  rintro _ _ ⟨rfl, rfl⟩
  rw [hrf, flRes_t, flRows_t, e4]
  refine EvR.nrm ?_
  rw [hgl] at D6b
  obtain ⟨cs6, hrow6, hcs6⟩ := D6b.ex
  obtain ⟨a0, b0, c0, hc0, f0⟩ := hcs6.get3 hg0
  obtain ⟨a9, b9, c9, hc9, f9⟩ := hcs6.get3 hg2
  repeat' (first | refine ff ?_ | ((first | refine EvR.aSplB ?_ ?_ | refine Ev.aSplB ?_ ?_) <;> (intro hb; (try rw [hb]); (try simp only [Bool.not_eq_true', Bool.not_eq_false', Bool.not_eq_eq_eq_not, Bool.not_true, Bool.not_false, decide_eq_true_eq, decide_eq_false_iff_not, Bool.and_eq_true, Bool.and_eq_false_iff, Bool.or_eq_true, Bool.or_eq_false_iff] at hb); (try (exfalso; first | omega | exact hb trivial)))) | (apply endS trivial; rotate_left; (· exact eva); (· rfl); try refine ⟨?_, rfl⟩) | fail)
  (apply EvR.aCall h9.at_; (· exact eva); (· exact  h9.ok _ W H wr _ _ _ sp lo fs W H wr _ _ _ sp lo fs ⟨D4a.s.ext _, D4a.l.ext _⟩ (D4b.ext _) ⟨D1a.s.ext _, D1a.l.ext _⟩ (D1b.ext _) n1 n2 hfit n1 n2 hfit isp ilo isp ilo lF lF); (rintro _ _ ⟨rfl, rfl⟩; refine EvR.nrm ?_))
  rw [sameFm_refl hI]
  repeat' (first | refine ff ?_ | ((first | refine EvR.aSplB ?_ ?_ | refine Ev.aSplB ?_ ?_) <;> (intro hb; (try rw [hb]); (try simp only [Bool.not_eq_true', Bool.not_eq_false', Bool.not_eq_eq_eq_not, Bool.not_true, Bool.not_false, decide_eq_true_eq, decide_eq_false_iff_not, Bool.and_eq_true, Bool.and_eq_false_iff, Bool.or_eq_true, Bool.or_eq_false_iff] at hb); (try (exfalso; first | omega | exact hb trivial)))) | (apply endS trivial; rotate_left; (· exact eva); (· rfl); try refine ⟨?_, rfl⟩) | fail)
  refine EvR.ld33 hrow6 (by omega) hc0 rfl ?_
  repeat' (first | refine ff ?_ | ((first | refine EvR.aSplB ?_ ?_ | refine Ev.aSplB ?_ ?_) <;> (intro hb; (try rw [hb]); (try simp only [Bool.not_eq_true', Bool.not_eq_false', Bool.not_eq_eq_eq_not, Bool.not_true, Bool.not_false, decide_eq_true_eq, decide_eq_false_iff_not, Bool.and_eq_true, Bool.and_eq_false_iff, Bool.or_eq_true, Bool.or_eq_false_iff] at hb); (try (exfalso; first | omega | exact hb trivial)))) | (apply endS trivial; rotate_left; (· exact eva); (· rfl); try refine ⟨?_, rfl⟩) | fail)
  (apply EvR.aCall h10.at_; (· exact eva); (· exact  h10.ok _ _ _ _ _ _ _ g g (f0.ext _) (D5.ext _) hgf hgf lg lg); (rintro _ _ ⟨rfl, rfl⟩; refine EvR.nrm ?_))
  rw [sameFl_refl]
  repeat' (first | refine ff ?_ | ((first | refine EvR.aSplB ?_ ?_ | refine Ev.aSplB ?_ ?_) <;> (intro hb; (try rw [hb]); (try simp only [Bool.not_eq_true', Bool.not_eq_false', Bool.not_eq_eq_eq_not, Bool.not_true, Bool.not_false, decide_eq_true_eq, decide_eq_false_iff_not, Bool.and_eq_true, Bool.and_eq_false_iff, Bool.or_eq_true, Bool.or_eq_false_iff] at hb); (try (exfalso; first | omega | exact hb trivial)))) | (apply endS trivial; rotate_left; (· exact eva); (· rfl); try refine ⟨?_, rfl⟩) | fail)
  refine EvR.ld33 hrow6 (by omega) hc9 rfl ?_
  repeat' (first | refine ff ?_ | ((first | refine EvR.aSplB ?_ ?_ | refine Ev.aSplB ?_ ?_) <;> (intro hb; (try rw [hb]); (try simp only [Bool.not_eq_true', Bool.not_eq_false', Bool.not_eq_eq_eq_not, Bool.not_true, Bool.not_false, decide_eq_true_eq, decide_eq_false_iff_not, Bool.and_eq_true, Bool.and_eq_false_iff, Bool.or_eq_true, Bool.or_eq_false_iff] at hb); (try (exfalso; first | omega | exact hb trivial)))) | (apply endS trivial; rotate_left; (· exact eva); (· rfl); try refine ⟨?_, rfl⟩) | fail)
  (apply EvR.aCall h10.at_; (· exact eva); (· exact  h10.ok _ _ _ _ _ _ _ g4 g4 (f9.ext _) ⟨Row.ownF rfl rfl, Row.ownF rfl rfl, Row.ownF rfl rfl⟩ hg4f hg4f lg4 lg4); (rintro _ _ ⟨rfl, rfl⟩; refine EvR.nrm ?_))
  rw [sameFl_refl]
  by_cases hn0 : fs.length = 0
  · repeat' (first | refine ff ?_ | ((first | refine EvR.aSplB ?_ ?_ | refine Ev.aSplB ?_ ?_) <;> (intro hb; (try rw [hb]); (try simp only [Bool.not_eq_true', Bool.not_eq_false', Bool.not_eq_eq_eq_not, Bool.not_true, Bool.not_false, decide_eq_true_eq, decide_eq_false_iff_not, Bool.and_eq_true, Bool.and_eq_false_iff, Bool.or_eq_true, Bool.or_eq_false_iff] at hb); (try (exfalso; first | omega | exact hb trivial)))) | (apply endS trivial; rotate_left; (· exact eva); (· rfl); try refine ⟨?_, rfl⟩) | fail)
    · apply endKK xx
      · trivial
      · rfl
      · exact eva
      · rfl
    all_goals (exfalso; omega)
  obtain ⟨fl, hfl⟩ : ∃ fl, fs[fs.length - 1]? = some fl := ⟨_, List.getElem?_eq_getElem (by omega)⟩
  have hcut : fs.take (fs.length - 1) ++ [fl] = fs := by
    have h := List.take_add_one (l := fs) (i := fs.length - 1)
    rw [hfl, show fs.length - 1 + 1 = fs.length from by omega, List.take_length] at h
    exact h.symm
  have hflm : fl ∈ fs := List.mem_of_getElem? hfl
  repeat' (first | refine ff ?_ | ((first | refine EvR.aSplB ?_ ?_ | refine Ev.aSplB ?_ ?_) <;> (intro hb; (try rw [hb]); (try simp only [Bool.not_eq_true', Bool.not_eq_false', Bool.not_eq_eq_eq_not, Bool.not_true, Bool.not_false, decide_eq_true_eq, decide_eq_false_iff_not, Bool.and_eq_true, Bool.and_eq_false_iff, Bool.or_eq_true, Bool.or_eq_false_iff] at hb); (try (exfalso; first | omega | exact hb trivial)))) | (apply endS trivial; rotate_left; (· exact eva); (· rfl); try refine ⟨?_, rfl⟩) | fail)
  apply EvR.aCall h4.at_; (· exact eva); (· exact h4.ok _ W H wr _ _ _ sp lo fs 0 (fs.length - 1) ⟨D1a.s.ext _, D1a.l.ext _⟩ (D1b.ext _) n1 n2 hfit); rintro _ _ hres
  obtain ⟨τ8, s8, l8, b8, R8, rfl, rfl, o8⟩ := hres.t (slOk_t hI (by omega) (by omega) (by omega) (by omega))
  clear hres
  obtain ⟨ss, hss⟩ : ∃ ss, ss = (fs.drop (0 : Int).toNat).take ((fs.length : Int) - 1).toNat := ⟨_, rfl⟩
  rw [← hss] at o8 ⊢
  have hss2 : ss = fs.take (fs.length - 1) := by rw [hss, show ((fs.length : Int) - 1).toNat = fs.length - 1 from by omega]; rfl
  have mss : ∀ g ∈ ss, g ∈ fs := fun g hg => by rw [hss2] at hg; exact List.mem_of_mem_take hg
  have lss : ss.length = fs.length - 1 := by rw [hss2, List.length_take]; omega
  have hIs := isFilm_sub hI (show ss.length ≤ fs.length by omega) mss
  have hjs : ss ++ [fl] = fs := by rw [hss2]; exact hcut
  clear hrow6 hcs6 f0 f9 hc0 hc9
  refine EvR.base2 fun A8 S8 f8 e8 q8 => ?_
  rw [← e8] at o8
  have w8 : Pre S6 S8 := Pre.trans (by rw [f8]; exact (Pre.refl _).app _) q8
  replace xx := xx.trans w8
  replace d2 := d2.pre w8
  replace D1a := D1a.pre w8
  replace D1b := D1b.pre w8
  replace p5 := p5.pre w8
  clear e8 f8 q8
  have D8a := o8.sheet
  have D8b := o8.fls
  clear o8
  clear p12 D4a D4b D5 p14 D6a D6b
  obtain ⟨cs1, hrow1, hcs1⟩ := D1b.ex
  obtain ⟨a5, b5, c5_, hc5, f5⟩ := hcs1.get3 hfl
  have hidx : ((fs.length : Int) - 1).toNat = fs.length - 1 := by omega
  refine EvR.nrm ?_
  repeat' (first | refine ff ?_ | ((first | refine EvR.aSplB ?_ ?_ | refine Ev.aSplB ?_ ?_) <;> (intro hb; (try rw [hb]); (try simp only [Bool.not_eq_true', Bool.not_eq_false', Bool.not_eq_eq_eq_not, Bool.not_true, Bool.not_false, decide_eq_true_eq, decide_eq_false_iff_not, Bool.and_eq_true, Bool.and_eq_false_iff, Bool.or_eq_true, Bool.or_eq_false_iff] at hb); (try (exfalso; first | omega | exact hb trivial)))) | (apply endS trivial; rotate_left; (· exact eva); (· rfl); try refine ⟨?_, rfl⟩) | fail)
  refine EvR.ld33 hrow1 (show fs.length - 1 < fs.length by omega) hc5 (by rw [← hidx]; rfl) ?_
  repeat' (first | refine ff ?_ | ((first | refine EvR.aSplB ?_ ?_ | refine Ev.aSplB ?_ ?_) <;> (intro hb; (try rw [hb]); (try simp only [Bool.not_eq_true', Bool.not_eq_false', Bool.not_eq_eq_eq_not, Bool.not_true, Bool.not_false, decide_eq_true_eq, decide_eq_false_iff_not, Bool.and_eq_true, Bool.and_eq_false_iff, Bool.or_eq_true, Bool.or_eq_false_iff] at hb); (try (exfalso; first | omega | exact hb trivial)))) | (apply endS trivial; rotate_left; (· exact eva); (· rfl); try refine ⟨?_, rfl⟩) | fail)
  apply EvR.aCall h11.at_; (· exact eva); (· exact h11.ok _ W H wr _ _ _ _ _ _ sp lo ss fl ⟨D8a.s.ext _, D8a.l.ext _⟩ (D8b.ext _) (f5.ext _) n1 n2 (film_fit hIs hN2) (hfit.2 fl hflm)); rintro _ _ hres
  obtain ⟨τ9, s9, l9, b9', R9, rfl, rfl, o9⟩ := hres.t (by rw [hjs]; exact hI)
  clear hres
  rw [hjs] at o9 ⊢
  refine EvR.base2 fun A9 S9 f9 e9 q9 => ?_
  rw [← e9] at o9
  have w9 : Pre S8 S9 := Pre.trans (by rw [f9]; exact (Pre.refl _).app _) q9
  replace xx := xx.trans w9
  replace d2 := d2.pre w9
  replace D1a := D1a.pre w9
  replace D1b := D1b.pre w9
  replace p5 := p5.pre w9
  replace D8a := D8a.pre w9
  replace D8b := D8b.pre w9
  clear e9 f9 q9
  have D9a := o9.sheet
  have D9b := o9.fls
  clear o9
  refine EvR.nrm ?_
  repeat' (first | refine ff ?_ | ((first | refine EvR.aSplB ?_ ?_ | refine Ev.aSplB ?_ ?_) <;> (intro hb; (try rw [hb]); (try simp only [Bool.not_eq_true', Bool.not_eq_false', Bool.not_eq_eq_eq_not, Bool.not_true, Bool.not_false, decide_eq_true_eq, decide_eq_false_iff_not, Bool.and_eq_true, Bool.and_eq_false_iff, Bool.or_eq_true, Bool.or_eq_false_iff] at hb); (try (exfalso; first | omega | exact hb trivial)))) | (apply endS trivial; rotate_left; (· exact eva); (· rfl); try refine ⟨?_, rfl⟩) | fail)
  (apply EvR.aCall h9.at_; (· exact eva); (· exact  h9.ok _ W H wr _ _ _ sp lo fs W H wr _ _ _ sp lo fs ⟨D9a.s.ext _, D9a.l.ext _⟩ (D9b.ext _) ⟨D1a.s.ext _, D1a.l.ext _⟩ (D1b.ext _) n1 n2 hfit n1 n2 hfit isp ilo isp ilo lF lF); (rintro _ _ ⟨rfl, rfl⟩; refine EvR.nrm ?_))
  rw [sameFm_refl hI]
  repeat' (first | refine ff ?_ | ((first | refine EvR.aSplB ?_ ?_ | refine Ev.aSplB ?_ ?_) <;> (intro hb; (try rw [hb]); (try simp only [Bool.not_eq_true', Bool.not_eq_false', Bool.not_eq_eq_eq_not, Bool.not_true, Bool.not_false, decide_eq_true_eq, decide_eq_false_iff_not, Bool.and_eq_true, Bool.and_eq_false_iff, Bool.or_eq_true, Bool.or_eq_false_iff] at hb); (try (exfalso; first | omega | exact hb trivial)))) | (apply endS trivial; rotate_left; (· exact eva); (· rfl); try refine ⟨?_, rfl⟩) | fail)
  apply endKK xx
  · trivial
  · rfl
  · exact eva
  · rfl
def laws_FnFilmParts_ok (c : Contract) : Prop := AlwaysTrue [bytesK, bytesK] c
theorem laws_FnFilmParts_law {C : Ctab} {i1 i2 i3 i4 i5 i6 i7 i8 i9 i10 i11 : FuncId} {c1 c2 c3 c4 c5 c6 c7 c8 c9 c10 c11 : Contract} (h1 : Has C i1 c1 laws_r8Long_ok) (h2 : Has C i2 c2 spec_R8Film_ok) (h3 : Has C i3 c3 laws_r8At_ok) (h4 : Has C i4 c4 impl_SliceFilm_ok) (h5 : Has C i5 c5 impl_JoinFilms_ok) (h6 : Has C i6 c6 spec_R8Wild_ok) (h7 : Has C i7 c7 impl_FilmOf_ok) (h8 : Has C i8 c8 impl_RunField_ok) (h9 : Has C i9 c9 impl_SameFilm_ok) (h10 : Has C i10 c10 impl_SameField_ok) (h11 : Has C i11 c11 impl_AddField_ok) :
    laws_FnFilmParts_ok (gcC C (laws_FnFilmParts i1 i2 i3 i4 i5 i6 i7 i8 i9 i10 i11) true) := by
  intro σ avs hh
  match avs, hh with
  | [va, vb], ⟨g0, g1, _⟩ =>
    obtain ⟨code, r1, hb1⟩ := bytes_abs g0
    obtain ⟨more, r2, hb2⟩ := bytes_abs g1
    exact filmParts_t h1 h2 h3 h4 h5 h6 h7 h8 h9 h10 h11 σ va vb code more r1 r2
end Go.Abs

