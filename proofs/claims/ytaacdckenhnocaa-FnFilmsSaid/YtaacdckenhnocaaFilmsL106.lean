/- Laws of functions: films are recovered, by the program. Conditions: the laws of what they call. -/
import Derived.Test.YtaacdckenhnocaaFilmsL105
import Derived.Test.YtaacdckenhnocaaFilmsL27
import Derived.Test.YtaacdckenhnocaaFilmsL89
import Derived.Test.YtaacdckenhnocaaFilmsL94
import Derived.Test.YtaacdckenhnocaaFilmsL12
namespace Go.Abs
set_option linter.unusedSimpArgs false
set_option linter.unusedVariables false
set_option maxHeartbeats 8000000
set_option maxRecDepth 20000
def impl_RecoverFilm_r0 :List SOper :=[
 ⟨some 2,none,.alloc [(.int .i64 0),(.int .i64 0),(.bool false),(.slice none 0 0),(.slice none 0 0),(.slice none 0 0)],0⟩,
 ⟨some 3,none,.mov (.const (.int .i64 0)),0⟩,
 ⟨some 4,none,.mov (.const (.bool false)),2⟩]
def impl_RecoverFilm_r1 (i_impl_sheetAhead :FuncId) :List SOper :=[
 ⟨some 16,none,.mov (.tmp 0),0⟩,
 ⟨some 17,none,.call (.func i_impl_sheetAhead) [(.tmp 16)],1⟩,
 ⟨some 15,none,.mov (.tmp 17),3⟩,
 ⟨some 18,none,.extract (.tmp 15) 0,7⟩,
 ⟨some 19,none,.extract (.tmp 15) 1,7⟩,
 ⟨some 20,none,.extract (.tmp 15) 2,7⟩,
 ⟨some 5,none,.alloc [(.int .i64 0),(.int .i64 0),(.bool false),(.slice none 0 0),(.slice none 0 0)],0⟩,
 ⟨none,none,.store 5 (.tmp 5) (.tmp 18),79⟩,
 ⟨some 6,none,.mov (.tmp 19),223⟩,
 ⟨some 7,none,.mov (.tmp 20),511⟩]
def impl_RecoverFilm_r2 :List SOper :=[
 ⟨some 21,none,.mov (.tmp 7),0⟩,
 ⟨some 22,none,.un .not (.tmp 21),1⟩,
 ⟨some 23,none,.mov (.tmp 22),3⟩,
  ⟨(some 24),(some (23,false)),.mov (.tmp 0),7⟩,
  ⟨(some 25),(some (23,false)),.len true (.tmp 24),15⟩,
  ⟨(some 26),(some (23,false)),.bin .gtr .other (.tmp 25) (.const (.int .i64 65536)),31⟩,
 ⟨some 27,none,.pick (.tmp 23) (.const (.bool true)) (.tmp 26),63⟩]
def impl_RecoverFilm_r3 :List SOper :=[
 ⟨some 28,none,.build [(.int .i64 0),(.int .i64 0),(.bool false),(.slice none 0 0),(.slice none 0 0),(.slice none 0 0)] [],0⟩,
 ⟨none,none,.store 6 (.tmp 2) (.tmp 28),1⟩,
 ⟨some 3,none,.mov (.const (.int .i64 0)),3⟩,
 ⟨some 4,none,.mov (.const (.bool false)),7⟩]
def impl_RecoverFilm_r4 (i_impl_zeroField i_impl_numbersOf :FuncId) :List SOper :=[
 ⟨some 29,none,.loadN 5 (.tmp 5),0⟩,
 ⟨some 30,none,.build [(.int .i64 0),(.int .i64 0),(.bool false),(.slice none 0 0),(.slice none 0 0),(.slice none 0 0)] [(0,5,(.tmp 29))],1⟩,
 ⟨some 31,none,.loadN 5 (.tmp 5),0⟩,
 ⟨some 32,none,.call (.func i_impl_zeroField) [(.tmp 31)],4⟩,
 ⟨some 33,none,.call (.func i_impl_numbersOf) [(.tmp 32)],12⟩,
 ⟨some 8,none,.alloc [(.int .i64 0),(.int .i64 0),(.bool false),(.slice none 0 0),(.slice none 0 0),(.slice none 0 0)],0⟩,
 ⟨none,none,.store 6 (.tmp 8) (.tmp 30),63⟩,
 ⟨some 9,none,.mov (.tmp 33),127⟩]
def impl_RecoverFilm_r5 :List SOper :=[
 ⟨some 34,none,.fieldAddr 3 (.tmp 5),0⟩,
 ⟨some 35,none,.load1 (.tmp 34),1⟩,
 ⟨some 36,none,.len false (.tmp 35),3⟩,
 ⟨some 10,none,.mov (.tmp 36),7⟩]
def impl_RecoverFilm_r6 :List SOper :=[
 ⟨some 37,none,.fieldAddr 5 (.tmp 8),0⟩,
 ⟨some 38,none,.load1 (.tmp 37),1⟩,
 ⟨some 39,none,.len false (.tmp 38),3⟩,
 ⟨some 40,none,.bin .lss .other (.tmp 39) (.const (.int .i64 16)),7⟩]
def impl_RecoverFilm_r7 (i_impl_frameAt :FuncId) :List SOper :=[
 ⟨some 42,none,.mov (.tmp 9),0⟩,
 ⟨some 43,none,.mov (.tmp 0),0⟩,
 ⟨some 44,none,.mov (.tmp 6),0⟩,
 ⟨some 45,none,.call (.func i_impl_frameAt) [(.tmp 42),(.tmp 43),(.tmp 44)],7⟩,
 ⟨some 41,none,.mov (.tmp 45),15⟩,
 ⟨some 46,none,.extract (.tmp 41) 0,31⟩,
 ⟨some 47,none,.extract (.tmp 41) 1,31⟩,
 ⟨some 48,none,.extract (.tmp 41) 2,31⟩,
 ⟨some 11,none,.mov (.tmp 46),63⟩,
 ⟨some 12,none,.mov (.tmp 47),383⟩,
 ⟨some 13,none,.mov (.tmp 48),1023⟩]
def impl_RecoverFilm_r8 :List SOper :=[
 ⟨some 49,none,.mov (.tmp 13),0⟩,
 ⟨some 50,none,.un .not (.tmp 49),1⟩]
def impl_RecoverFilm_r9 (i_impl_copyOf :FuncId) :List SOper :=[
 ⟨some 51,none,.mov (.tmp 11),0⟩,
 ⟨some 52,none,.mov (.tmp 10),0⟩,
 ⟨some 53,none,.sliceSl 1 (.tmp 51) none (some (.tmp 52)),3⟩,
 ⟨some 54,none,.call (.func i_impl_copyOf) [(.tmp 53)],7⟩,
 ⟨some 55,none,.mov (.tmp 11),0⟩,
 ⟨some 56,none,.mov (.tmp 10),0⟩,
 ⟨some 57,none,.mov (.tmp 10),0⟩,
 ⟨some 58,none,.bin .mul .other (.const (.int .i64 2)) (.tmp 57),64⟩,
 ⟨some 59,none,.sliceSl 1 (.tmp 55) (some (.tmp 56)) (some (.tmp 58)),240⟩,
 ⟨some 60,none,.call (.func i_impl_copyOf) [(.tmp 59)],511⟩,
 ⟨some 61,none,.mov (.tmp 11),0⟩,
 ⟨some 62,none,.mov (.tmp 10),0⟩,
 ⟨some 63,none,.bin .mul .other (.const (.int .i64 2)) (.tmp 62),2048⟩,
 ⟨some 64,none,.sliceSl 1 (.tmp 61) (some (.tmp 63)) none,7168⟩,
 ⟨some 65,none,.call (.func i_impl_copyOf) [(.tmp 64)],16383⟩,
 ⟨some 66,none,.build [(.slice none 0 0),(.slice none 0 0),(.slice none 0 0)] [(0,1,(.tmp 54)),(1,1,(.tmp 60)),(2,1,(.tmp 65))],32767⟩,
 ⟨some 14,none,.alloc [(.slice none 0 0),(.slice none 0 0),(.slice none 0 0)],0⟩,
 ⟨none,none,.store 3 (.tmp 14) (.tmp 66),131071⟩]
def impl_RecoverFilm_r10 (i_impl_IsField :FuncId) :List SOper :=[
 ⟨some 67,none,.loadN 5 (.tmp 5),0⟩,
 ⟨some 68,none,.loadN 3 (.tmp 14),0⟩,
 ⟨some 69,none,.call (.func i_impl_IsField) [(.tmp 67),(.tmp 68)],3⟩,
 ⟨some 70,none,.un .not (.tmp 69),7⟩]
def impl_RecoverFilm_r11 :List SOper :=[
 ⟨some 71,none,.fieldAddr 5 (.tmp 8),0⟩,
 ⟨some 72,none,.load1 (.tmp 71),1⟩,
 ⟨some 73,none,.loadN 3 (.tmp 14),0⟩,
 ⟨some 74,none,.buildSlice 3 1 [(.slice none 0 0),(.slice none 0 0),(.slice none 0 0)] [(0,3,(.tmp 73))],4⟩,
 ⟨some 75,none,.append 3 72 (.tmp 72) (.tmp 74),15⟩,
 ⟨some 76,none,.fieldAddr 5 (.tmp 8),31⟩,
 ⟨none,none,.store 1 (.tmp 76) (.tmp 75),63⟩]
def impl_RecoverFilm_r12 :List SOper :=[
 ⟨some 77,none,.mov (.tmp 12),0⟩,
 ⟨some 6,none,.mov (.tmp 77),1⟩]
def impl_RecoverFilm_r13 :List SOper :=[
 ⟨some 78,none,.mov (.tmp 11),0⟩,
 ⟨some 9,none,.mov (.tmp 78),1⟩]
def impl_RecoverFilm_l14 (i_impl_frameAt i_impl_copyOf i_impl_IsField :FuncId) :SCode :=(.kp [0,2,5,6,8,9,10] (.seq (.seq (.region impl_RecoverFilm_r6 false) (.kp [0,2,5,6,8,9,10,40] (.cond (.tmp 40) .skip (.exit 0)))) (.kp [0,2,5,6,8,9,10] (.block 1 (.seq (.region (impl_RecoverFilm_r7 i_impl_frameAt) false) (.kp [0,2,5,6,8,10,11,12,13] (.seq (.seq (.region impl_RecoverFilm_r8 false) (.kp [0,2,5,6,8,10,11,12,50] (.cond (.tmp 50) (.exit 0) .skip))) (.kp [0,2,5,6,8,10,11,12] (.seq (.region (impl_RecoverFilm_r9 i_impl_copyOf) true) (.kp [0,2,5,6,8,10,11,12,14] (.seq (.seq (.region (impl_RecoverFilm_r10 i_impl_IsField) false) (.kp [0,2,5,6,8,10,11,12,14,70] (.cond (.tmp 70) (.exit 0) .skip))) (.kp [0,2,5,8,10,11,12,14] (.seq (.region impl_RecoverFilm_r11 false) (.kp [0,2,5,8,10,11,12] (.seq (.region impl_RecoverFilm_r12 false) (.kp [0,2,5,6,8,10,11] (.region impl_RecoverFilm_r13 false)))))))))))))))))
def impl_RecoverFilm_r15 :List SOper :=[
 ⟨some 79,none,.loadN 6 (.tmp 8),0⟩,
 ⟨some 80,none,.mov (.tmp 6),0⟩,
 ⟨none,none,.store 6 (.tmp 2) (.tmp 79),1⟩,
 ⟨some 3,none,.mov (.tmp 80),7⟩,
 ⟨some 4,none,.mov (.const (.bool true)),15⟩]
def impl_RecoverFilm (i_impl_sheetAhead i_impl_zeroField i_impl_numbersOf i_impl_frameAt i_impl_copyOf i_impl_IsField :FuncId) :SFunc :=⟨81,[.cellN 2 6,.tmp 3,.tmp 4],(.kp [0] (.seq (.region impl_RecoverFilm_r0 false) (.kp [0,2] (.seq (.region (impl_RecoverFilm_r1 i_impl_sheetAhead) false) (.kp [0,2,5,6,7] (.seq (.seq (.region impl_RecoverFilm_r2 false) (.kp [0,2,5,6,27] (.cond (.tmp 27) (.seq (.region impl_RecoverFilm_r3 false) .ret) .skip))) (.kp [0,2,5,6] (.seq (.region (impl_RecoverFilm_r4 i_impl_zeroField i_impl_numbersOf) true) (.kp [0,2,5,6,8,9] (.seq (.region impl_RecoverFilm_r5 false) (.kp [0,2,5,6,8,9,10] (.seq (.block 0 (.loop (impl_RecoverFilm_l14 i_impl_frameAt i_impl_copyOf i_impl_IsField))) (.kp [2,6,8] (.seq (.region impl_RecoverFilm_r15 false) .ret))))))))))))))⟩
theorem impl_RecoverFilm_r4_dr {i_impl_zeroField i_impl_numbersOf :FuncId} :(drawOkS (impl_RecoverFilm_r4 i_impl_zeroField i_impl_numbersOf) && storesOnly (impl_RecoverFilm_r4 i_impl_zeroField i_impl_numbersOf))=true :=by kernel_rfl
attribute [push_cast] impl_RecoverFilm_r4_dr
theorem impl_RecoverFilm_r9_dr {i_impl_copyOf :FuncId} :(drawOkS (impl_RecoverFilm_r9 i_impl_copyOf) && storesOnly (impl_RecoverFilm_r9 i_impl_copyOf))=true :=by kernel_rfl
attribute [push_cast] impl_RecoverFilm_r9_dr
theorem ah_sheet {s :List UInt8}(h :ahOk s=true) :isSheet (byAt s 4) (byAt s 5) (shSp s) (shLo s)=true∧shEnd s ≤ s.length :=by
 unfold ahOk at h
 simp only [Bool.and_eq_true,decide_eq_true_eq] at h
 exact⟨h.1.2,h.1.1.2⟩
theorem filmN_of6 {H :Heap}{lo s l :Nat}{sp ls :List Nat}(hs :H[s]? = some (rowO sp))(hl :H[l]? = some (rowO ls))(h1 :lo ≤ s)(h2 :s < l) :FilmN H lo s l sp ls :=by
 refine⟨⟨fun p hp =>?_,fun p hp =>?_,?_⟩⟩
 ·simp only [List.mem_cons,List.not_mem_nil,or_false] at hp
  rcases hp with rfl | rfl
  ·exact hs
  ·exact hl
 ·simp only [List.mem_cons,List.not_mem_nil,or_false] at hp
  rcases hp with rfl | rfl
  ·exact h1
  ·dsimp only;omega
 ·simp only [List.map_cons,List.map_nil,List.nodup_cons,List.mem_cons,List.not_mem_nil,or_false,not_false_eq_true,List.nodup_nil,and_true]
  omega
theorem FmRes3.no {nil ok :Bool}{σ τ :Heap}{v fm :Value}{w h :Int}{wr :Bool}{sp lo :List Nat}{gs :List Fld}{n :Nat}(hok :ok=false)(hv :v = .tuple #[fm,.int .i64 0,.bool false])(hn :nil=true→fm=noFilm)(hr :nil=false → ∃ (w h :Int)(wr :Bool)(sv lv :Value)(fb :Nat)(xs ys :List Nat)(H :Heap),fm=fmV w h wr sv lv (slV fb 0)∧ShR H sv lv xs ys) :FmRes3 nil ok σ (σ++τ) v w h wr sp lo gs n :=
 ⟨fun h =>absurd (hok.symm.trans h) (by decide),fun h =>absurd (hok.symm.trans h) (by decide),fun _ =>⟨⟨_,rfl⟩,_,hv,hn,hr⟩⟩
def RecoverI_ok (c :Contract) :Prop :=∀ (σ :Heap)(s :List UInt8),s.length ≤ 1048576→Ret c [.string (str s)] σ fun v σ' =>FmRes3 true (rcOk s) σ σ' v (byAt s 4) (byAt s 5) (shWr s) (shSp s) (shLo s) (rcAll s).1 (rcAll s).2
theorem RecoverI_law {C :Ctab}{i1 i2 i3 i4 i5 i6 :FuncId}{c1 c2 c3 c4 c5 c6 :Contract}(h1 :Has C i1 c1 impl_sheetAhead_ok)(h2 :Has C i2 c2 impl_zeroField_ok)(h3 :Has C i3 c3 impl_numbersOf_ok)(h4 :Has C i4 c4 impl_frameAt_ok)(h5 :Has C i5 c5 impl_copyOf_ok)(h6 :Has C i6 c6 impl_IsField_ok) :
 RecoverI_ok (bodyC C (impl_RecoverFilm i1 i2 i3 i4 i5 i6) true) :=by
 intro σ s hs
 cases hok :ahOk s
 ·have hrc :rcOk s=false :=by unfold rcOk;rw [hok];rfl
  refine ret_bd rfl rfl ?_
  repeat' (first | refine ff ?_ | ((first | refine sR ?_ ?_ | refine sC ?_ ?_) <;> (intro hb;(try rw [hb]);(try simp only [bb] at hb);(try (exfalso;first | omega | exact hb trivial)))) | (apply endS trivial;rotate_left;(· exact eva);(· rfl);try refine⟨?_,rfl⟩) | fail)
  apply EvR.aCall h1.at_;(· exact eva);(· exact h1.ok _ s hs);intro v σ' hv
  simp only [ahRes,hok,cond_false] at hv
  obtain⟨rfl,rfl⟩ :=hv
  refine EvR.nrm ?_
  repeat' (first | refine ff ?_ | ((first | refine sR ?_ ?_ | refine sC ?_ ?_) <;> (intro hb;(try rw [hb]);(try simp only [bb] at hb);(try (exfalso;first | omega | exact hb trivial)))) | (apply endS trivial;rotate_left;(· exact eva);(· rfl);try refine⟨?_,rfl⟩) | fail)
  apply endB trivial
  ·exact eva
  ·exact FmRes3.no hrc rfl (fun _ =>rfl) (fun h =>by cases h)
 obtain⟨hsh,hend⟩ :=ah_sheet hok
 obtain⟨a1,a2,a3,a4,z1,z2⟩ :=isSheet_sides hsh
 have hN :=shN_def s
 have hN2 :shN s ≤ 256 :=Nat.mul_le_mul (show byAt s 4 ≤ 16 by omega) (show byAt s 5 ≤ 16 by omega)
 have hN3 :9 ≤ shN s :=Nat.mul_le_mul (show 3 ≤ byAt s 4 by omega) (show 3 ≤ byAt s 5 by omega)
 have n1 :(shSp s).length=shN s :=numsAt_length _ _ _
 have n2 :(shLo s).length=shN s :=numsAt_length _ _ _
 by_cases h64 :s.length ≤ 65536
 rotate_left
 ·have hrc :rcOk s=false :=by unfold rcOk;rw [hok,decide_eq_false h64];rfl
  refine ret_bd rfl rfl ?_
  repeat' (first | refine ff ?_ | ((first | refine sR ?_ ?_ | refine sC ?_ ?_) <;> (intro hb;(try rw [hb]);(try simp only [bb] at hb);(try (exfalso;first | omega | exact hb trivial)))) | (apply endS trivial;rotate_left;(· exact eva);(· rfl);try refine⟨?_,rfl⟩) | fail)
  apply EvR.aCall h1.at_;(· exact eva);(· exact h1.ok _ s hs);intro v σ' hv
  simp only [ahRes,hok,cond_true] at hv
  obtain⟨rfl,rfl⟩ :=hv
  refine EvR.nrm ?_
  repeat' (first | refine ff ?_ | ((first | refine sR ?_ ?_ | refine sC ?_ ?_) <;> (intro hb;(try rw [hb]);(try simp only [bb] at hb);(try (exfalso;first | omega | exact hb trivial)))) | (apply endS trivial;rotate_left;(· exact eva);(· rfl);try refine⟨?_,rfl⟩) | fail)
  apply endB trivial
  ·exact eva
  ·exact FmRes3.no hrc rfl (fun _ =>rfl) (fun h =>by cases h)
 have hrc :rcOk s=true :=by unfold rcOk;rw [hok,decide_eq_true h64];rfl
 obtain⟨N,hNN⟩ :∃ N,shN s=N :=⟨_,rfl⟩
 have hz :flat ⟨List.replicate N 0,List.replicate N 0,List.replicate N 0⟩=List.replicate (3 * N) 0 :=by
  unfold flat
  dsimp only
  rw [List.replicate_append_replicate,List.replicate_append_replicate]
  congr 1
  omega
 have hzl :(List.replicate (3 * N) 0 :List Nat).length=3 * N :=List.length_replicate
 have hzN :(List.replicate N 0 :List Nat).length=N :=List.length_replicate
 have hall :rcAll s=recF (byAt s 4) (byAt s 5) (shWr s) (shSp s) (shLo s) N s 16 (List.replicate (3 * N) 0) (shEnd s) [] :=by unfold rcAll;rw [hNN]
 rw [hNN] at hN hN2 hN3 n1 n2
 obtain⟨G,hG⟩ :∃ G,rcAll s=G :=⟨_,rfl⟩
 rw [hG] at hall ⊢
 refine ret_bd rfl rfl ?_
 repeat' (first | refine ff ?_ | ((first | refine sR ?_ ?_ | refine sC ?_ ?_) <;> (intro hb;(try rw [hb]);(try simp only [bb] at hb);(try (exfalso;first | omega | exact hb trivial)))) | (apply endS trivial;rotate_left;(· exact eva);(· rfl);try refine⟨?_,rfl⟩) | fail)
 apply EvR.aCall h1.at_;(· exact eva);(· exact h1.ok _ s hs);intro v σ' hv
 simp only [ahRes,hok,cond_true,hNN] at hv
 obtain⟨rfl,rfl⟩ :=hv
 refine EvR.nrm ?_
 rw [show slV (σ.length+1) N=slV (σ.length+1) (shSp s).length from by rw [n1],show slV (σ.length+2) N=slV (σ.length+2) (shLo s).length from by rw [n2]]
 generalize shSp s=sp at *
 generalize shLo s=lo at *
 generalize shWr s=wr at *
 generalize shEnd s=E0 at *
 have hWN :byAt s 4 * byAt s 5=N :=hNN
 generalize byAt s 4=W at *
 generalize byAt s 5=H at *
 repeat' (first | refine ff ?_ | ((first | refine sR ?_ ?_ | refine sC ?_ ?_) <;> (intro hb;(try rw [hb]);(try simp only [bb] at hb);(try (exfalso;first | omega | exact hb trivial)))) | (apply endS trivial;rotate_left;(· exact eva);(· rfl);try refine⟨?_,rfl⟩) | fail)
 (apply EvR.aCall h2.at_;(· exact eva);(· exact  h2.ok _ W H N wr _ _ rfl rfl (by omega) (by omega) hWN);(rintro _ _ ⟨rfl,rfl⟩;refine EvR.nrm ?_))
 repeat' (first | refine ff ?_ | ((first | refine sR ?_ ?_ | refine sC ?_ ?_) <;> (intro hb;(try rw [hb]);(try simp only [bb] at hb);(try (exfalso;first | omega | exact hb trivial)))) | (apply endS trivial;rotate_left;(· exact eva);(· rfl);try refine⟨?_,rfl⟩) | fail)
 (apply EvR.aCall h3.at_;(· exact eva);(· exact  h3.ok _ _ _ _ ⟨List.replicate N 0,List.replicate N 0,List.replicate N 0⟩ ⟨Row.ownF rfl hzN,Row.ownF rfl hzN,Row.ownF rfl hzN⟩ (by dsimp only;omega) (by dsimp only;omega));(rintro _ _ ⟨rfl,rfl⟩;refine EvR.nrm ?_))
 rw [hz,hzl]
 repeat' (first | refine ff ?_ | ((first | refine sR ?_ ?_ | refine sC ?_ ?_) <;> (intro hb;(try rw [hb]);(try simp only [bb] at hb);(try (exfalso;first | omega | exact hb trivial)))) | (apply endS trivial;rotate_left;(· exact eva);(· rfl);try refine⟨?_,rfl⟩) | fail)
 refine Ev.base fun T hT =>?_
 have I0 :RcI σ W H wr sp lo (σ.length+0) (σ.length+3) (σ.length+8) (σ.length+1) (σ.length+2) T (σ.length+7) (List.replicate (3 * N) 0) (.slice none 0 0) :=by
  rw [hT]
  exact⟨List.take_left,by simp,hget _ _ 0,hget _ _ 3,hget _ _ 8,hget _ _ 1,hget _ _ 2,hget _ _ 7,by omega,by omega,by omega,by omega,by omega,by omega⟩
 clear hT
 refine Ev.mono (Q :=fun o F' σ' =>o = .exit 0 ∧ ∃ (T :Heap) (q :Nat) (last :List Nat) (fv :Value) (fb :Nat) (R :Rws),fkeep [2,6,8] F'=[(2,.pointer (some ⟨σ.length+0,0,none⟩)),(6,.int .i64 (G.2 :Nat)),(8,.pointer (some ⟨σ.length+8,0,none⟩))]∧σ'=T++[] ∧
  RcI σ W H wr sp lo (σ.length+0) (σ.length+3) (σ.length+8) (σ.length+1) (σ.length+2) T q last fv∧FlsA T σ.length (σ.length+1) (σ.length+2) sp lo fv fb R G.1) ?_ ?_
 ·refine Ev.whlH (S :=Nat × Heap × Nat × (Nat × List Nat) × Value × Nat × List Fld × Rws) (fun st =>st.1) (fun st =>[(6,.int .i64 (st.2.2.1 :Nat)),(9,slV st.2.2.2.1.1 (3 * N))]) (fun st =>st.2.1++[])
   (fun st =>st.1+st.2.2.2.2.2.2.1.length=16∧recF W H wr sp lo N s st.1 st.2.2.2.1.2 st.2.2.1 st.2.2.2.2.2.2.1=G∧st.2.2.2.1.2.length=3 * N∧lows st.2.2.2.1.2∧st.2.2.1 ≤ s.length ∧
    RcI σ W H wr sp lo (σ.length+0) (σ.length+3) (σ.length+8) (σ.length+1) (σ.length+2) st.2.1 st.2.2.2.1.1 st.2.2.2.1.2 st.2.2.2.2.1∧FlsA st.2.1 σ.length (σ.length+1) (σ.length+2) sp lo st.2.2.2.2.1 st.2.2.2.2.2.1 st.2.2.2.2.2.2.2 st.2.2.2.2.2.2.1)
   (16,T,E0,(σ.length+7,List.replicate (3 * N) 0),.slice none 0 0,0,[],[]) (by exact tF) rfl ⟨rfl,hall.symm,hzl,lows_zero _,hend,I0,.inl ⟨rfl,rfl⟩⟩ ?_
  rintro⟨k,T,p,⟨q,last⟩,fv,fb,fs,R⟩ F hF ⟨hk,hrec,hll,hlw,hp,I,hfl⟩
  dsimp only at hk hF hrec hll hlw hp I hfl ⊢
  (simp only [List.cons_append,List.nil_append,↓fget_cons,fkeep_cons,fkeep_nil,Nat.reduceEqDiff,reduceIte] at hF;subst hF)
  have pv5 :=PtAt.whole I.v5
  have pv8 :=PtAt.whole I.v8
  obtain⟨r1,r2⟩ :=I.sh
  have r3 :Row T 1 (slV q (3 * N)) last.length (f32s last) :=by have h :=I.lr;rw [← hll];exact h
  cases k with
  | zero =>
   obtain rfl :G=(fs,p) :=hrec.symm
   obtain⟨hne,rfl,ho⟩ :fs ≠ []∧fv=slV fb fs.length∧FilmO T σ.length (σ.length+1) (σ.length+2) fb R sp lo fs :=by
    rcases hfl with ⟨h,_⟩ | h
    ·rw [h] at hk;simp at hk
    ·exact h
   repeat' (first | refine ff ?_ | ((first | refine sR ?_ ?_ | refine sC ?_ ?_) <;> (intro hb;(try rw [hb]);(try simp only [bb] at hb);(try (exfalso;first | omega | exact hb trivial)))) | (apply endS trivial;rotate_left;(· exact eva);(· rfl);try refine⟨?_,rfl⟩) | fail)
   exact⟨rfl,T,q,last,_,fb,R,by exact tF,rfl,I,.inr ⟨hne,rfl,ho⟩⟩
  | succ k =>
   cases hfr :frAt last s p with
   | none =>
    obtain rfl :G=(fs,p) :=by rw [← hrec];exact recF_none hfr
    rcases hfl with ⟨rfl,rfl⟩ | ⟨hne,rfl,ho⟩
    ·repeat' (first | refine ff ?_ | ((first | refine sR ?_ ?_ | refine sC ?_ ?_) <;> (intro hb;(try rw [hb]);(try simp only [bb] at hb);(try (exfalso;first | omega | exact hb trivial)))) | (apply endS trivial;rotate_left;(· exact eva);(· rfl);try refine⟨?_,rfl⟩) | fail)
     (apply EvR.aCall h4.at_;(· exact eva);(· exact  h4.ok _ _ last s p (r3.ext _) hlw (by omega) h64 hp);(rintro _ _ ⟨rfl,rfl⟩;refine EvR.nrm ?_))
     rw [hfr]
     simp only [frRes,afRows]
     refine EvR.nrm ?_
     repeat' (first | refine ff ?_ | ((first | refine sR ?_ ?_ | refine sC ?_ ?_) <;> (intro hb;(try rw [hb]);(try simp only [bb] at hb);(try (exfalso;first | omega | exact hb trivial)))) | (apply endS trivial;rotate_left;(· exact eva);(· rfl);try refine⟨?_,rfl⟩) | fail)
     exact⟨rfl,T,q,last,_,fb,R,by exact tF,rfl,I,.inl ⟨rfl,rfl⟩⟩
    ·repeat' (first | refine ff ?_ | ((first | refine sR ?_ ?_ | refine sC ?_ ?_) <;> (intro hb;(try rw [hb]);(try simp only [bb] at hb);(try (exfalso;first | omega | exact hb trivial)))) | (apply endS trivial;rotate_left;(· exact eva);(· rfl);try refine⟨?_,rfl⟩) | fail)
     (apply EvR.aCall h4.at_;(· exact eva);(· exact  h4.ok _ _ last s p (r3.ext _) hlw (by omega) h64 hp);(rintro _ _ ⟨rfl,rfl⟩;refine EvR.nrm ?_))
     rw [hfr]
     simp only [frRes,afRows]
     refine EvR.nrm ?_
     repeat' (first | refine ff ?_ | ((first | refine sR ?_ ?_ | refine sC ?_ ?_) <;> (intro hb;(try rw [hb]);(try simp only [bb] at hb);(try (exfalso;first | omega | exact hb trivial)))) | (apply endS trivial;rotate_left;(· exact eva);(· rfl);try refine⟨?_,rfl⟩) | fail)
     exact⟨rfl,T,q,last,_,fb,R,by exact tF,rfl,I,.inr ⟨hne,rfl,ho⟩⟩
   | some now =>
    obtain⟨nl,nw,np4,npE⟩ :=frAt_some hfr
    have nw :=nw hlw
    have nlen :now.length=3 * N :=by omega
    obtain⟨g1,g2,g3⟩ :=fldOf_lens nlen
    have fa :(now.drop 0).take (N - 0)=(fldOf N now).e :=by rw [List.drop_zero,Nat.sub_zero];rfl
    have fb_ :(now.drop N).take (2 * N - N)=(fldOf N now).x :=by unfold fldOf;rw [List.drop_take]
    have fc :(now.drop (2 * N)).take (3 * N - 2 * N)=(fldOf N now).y :=by unfold fldOf;exact List.take_of_length_le (by rw [List.length_drop];omega)
    cases hIF :isField W H wr sp lo (fldOf N now).e (fldOf N now).x (fldOf N now).y
    ·obtain rfl :G=(fs,p) :=by rw [← hrec];exact recF_bad hfr hIF
     rcases hfl with ⟨rfl,rfl⟩ | ⟨hne,rfl,ho⟩
     ·repeat' (first | refine ff ?_ | ((first | refine sR ?_ ?_ | refine sC ?_ ?_) <;> (intro hb;(try rw [hb]);(try simp only [bb] at hb);(try (exfalso;first | omega | exact hb trivial)))) | (apply endS trivial;rotate_left;(· exact eva);(· rfl);try refine⟨?_,rfl⟩) | fail)
      (apply EvR.aCall h4.at_;(· exact eva);(· exact  h4.ok _ _ last s p (r3.ext _) hlw (by omega) h64 hp);(rintro _ _ ⟨rfl,rfl⟩;refine EvR.nrm ?_))
      rw [hfr]
      simp only [frRes,afRows]
      refine EvR.base fun S hS =>?_
      have hSl :S=T++[rowO now] :=by rw [hS]
      have I2 :RcI σ W H wr sp lo (σ.length+0) (σ.length+3) (σ.length+8) (σ.length+1) (σ.length+2) S T.length now (.slice none 0 0) :=by rw [hSl];exact (I.ext _).next (by simp)
      clear hS pv5 pv8
      have pv5 :=PtAt.whole I2.v5
      have pv8 :=PtAt.whole I2.v8
      obtain⟨s1,s2⟩ :=I2.sh
      have s3 :=I2.lr
      refine EvR.nrm ?_
      repeat' (first | refine ff ?_ | ((first | refine sR ?_ ?_ | refine sC ?_ ?_) <;> (intro hb;(try rw [hb]);(try simp only [bb] at hb);(try (exfalso;first | omega | exact hb trivial)))) | (apply endS trivial;rotate_left;(· exact eva);(· rfl);try refine⟨?_,rfl⟩) | fail)
      refine EvR.slF (a :=0) (b :=N) s3 (by rw [nlen];rfl) rfl (by show some ((sp.length :Nat) :Int)=_;rw [n1]) (by omega) (by omega) fun wa ra =>?_
      rw [fa] at ra
      repeat' (first | refine ff ?_ | ((first | refine sR ?_ ?_ | refine sC ?_ ?_) <;> (intro hb;(try rw [hb]);(try simp only [bb] at hb);(try (exfalso;first | omega | exact hb trivial)))) | (apply endS trivial;rotate_left;(· exact eva);(· rfl);try refine⟨?_,rfl⟩) | fail)
      (apply EvR.aCall h5.at_;(· exact eva);(· exact  h5.ok _ wa (fldOf N now).e (by rw [g1];exact ra.ext _) (by omega));(rintro _ _ ⟨rfl,rfl⟩;refine EvR.nrm ?_))
      repeat' (first | refine ff ?_ | ((first | refine sR ?_ ?_ | refine sC ?_ ?_) <;> (intro hb;(try rw [hb]);(try simp only [bb] at hb);(try (exfalso;first | omega | exact hb trivial)))) | (apply endS trivial;rotate_left;(· exact eva);(· rfl);try refine⟨?_,rfl⟩) | fail)
      refine EvR.slF (a :=N) (b :=2 * N) s3 (by rw [nlen];rfl) (by show some ((sp.length :Nat) :Int)=_;rw [n1]) (by show some (2 * (sp.length :Int))=_;rw [n1];rfl) (by omega) (by omega) fun wb rb =>?_
      rw [fb_,show 2 * N - N=N from by omega] at rb
      repeat' (first | refine ff ?_ | ((first | refine sR ?_ ?_ | refine sC ?_ ?_) <;> (intro hb;(try rw [hb]);(try simp only [bb] at hb);(try (exfalso;first | omega | exact hb trivial)))) | (apply endS trivial;rotate_left;(· exact eva);(· rfl);try refine⟨?_,rfl⟩) | fail)
      (apply EvR.aCall h5.at_;(· exact eva);(· exact  h5.ok _ wb (fldOf N now).x (by rw [g2];exact rb.ext _) (by omega));(rintro _ _ ⟨rfl,rfl⟩;refine EvR.nrm ?_))
      repeat' (first | refine ff ?_ | ((first | refine sR ?_ ?_ | refine sC ?_ ?_) <;> (intro hb;(try rw [hb]);(try simp only [bb] at hb);(try (exfalso;first | omega | exact hb trivial)))) | (apply endS trivial;rotate_left;(· exact eva);(· rfl);try refine⟨?_,rfl⟩) | fail)
      refine EvR.slF (a :=2 * N) (b :=3 * N) s3 (by rw [nlen];rfl) (by show some (2 * (sp.length :Int))=_;rw [n1];rfl) (by show some ((now.length :Nat) :Int)=_;rw [nlen]) (by omega) (by omega) fun wc rc =>?_
      rw [fc,show 3 * N - 2 * N=N from by omega] at rc
      repeat' (first | refine ff ?_ | ((first | refine sR ?_ ?_ | refine sC ?_ ?_) <;> (intro hb;(try rw [hb]);(try simp only [bb] at hb);(try (exfalso;first | omega | exact hb trivial)))) | (apply endS trivial;rotate_left;(· exact eva);(· rfl);try refine⟨?_,rfl⟩) | fail)
      (apply EvR.aCall h5.at_;(· exact eva);(· exact  h5.ok _ wc (fldOf N now).y (by rw [g3];exact rc.ext _) (by omega));(rintro _ _ ⟨rfl,rfl⟩;refine EvR.nrm ?_))
      repeat' (first | refine ff ?_ | ((first | refine sR ?_ ?_ | refine sC ?_ ?_) <;> (intro hb;(try rw [hb]);(try simp only [bb] at hb);(try (exfalso;first | omega | exact hb trivial)))) | (apply endS trivial;rotate_left;(· exact eva);(· rfl);try refine⟨?_,rfl⟩) | fail)
      (apply EvR.aCall h6.at_;(· exact eva);(· exact  h6.ok _ W H wr _ _ sp lo _ _ _ (fldOf N now).e (fldOf N now).x (fldOf N now).y ⟨s1.ext _,s2.ext _⟩ (by omega) (by omega) ⟨Row.ownF rfl rfl,Row.ownF rfl rfl,Row.ownF rfl rfl⟩ (by omega) (by omega) (by omega));(rintro _ _ ⟨rfl,rfl⟩;refine EvR.nrm ?_))
      rw [hIF]
      repeat' (first | refine ff ?_ | ((first | refine sR ?_ ?_ | refine sC ?_ ?_) <;> (intro hb;(try rw [hb]);(try simp only [bb] at hb);(try (exfalso;first | omega | exact hb trivial)))) | (apply endS trivial;rotate_left;(· exact eva);(· rfl);try refine⟨?_,rfl⟩) | fail)
      exact⟨rfl,_,T.length,now,_,fb,R,by exact tF,(List.append_nil _).symm,I2.ext _,.inl ⟨rfl,rfl⟩⟩
     ·repeat' (first | refine ff ?_ | ((first | refine sR ?_ ?_ | refine sC ?_ ?_) <;> (intro hb;(try rw [hb]);(try simp only [bb] at hb);(try (exfalso;first | omega | exact hb trivial)))) | (apply endS trivial;rotate_left;(· exact eva);(· rfl);try refine⟨?_,rfl⟩) | fail)
      (apply EvR.aCall h4.at_;(· exact eva);(· exact  h4.ok _ _ last s p (r3.ext _) hlw (by omega) h64 hp);(rintro _ _ ⟨rfl,rfl⟩;refine EvR.nrm ?_))
      rw [hfr]
      simp only [frRes,afRows]
      refine EvR.base fun S hS =>?_
      have hSl :S=T++[rowO now] :=by rw [hS]
      have I2 :RcI σ W H wr sp lo (σ.length+0) (σ.length+3) (σ.length+8) (σ.length+1) (σ.length+2) S T.length now (slV fb fs.length) :=by rw [hSl];exact (I.ext _).next (by simp)
      clear hS pv5 pv8
      have pv5 :=PtAt.whole I2.v5
      have pv8 :=PtAt.whole I2.v8
      obtain⟨s1,s2⟩ :=I2.sh
      have s3 :=I2.lr
      refine EvR.nrm ?_
      repeat' (first | refine ff ?_ | ((first | refine sR ?_ ?_ | refine sC ?_ ?_) <;> (intro hb;(try rw [hb]);(try simp only [bb] at hb);(try (exfalso;first | omega | exact hb trivial)))) | (apply endS trivial;rotate_left;(· exact eva);(· rfl);try refine⟨?_,rfl⟩) | fail)
      refine EvR.slF (a :=0) (b :=N) s3 (by rw [nlen];rfl) rfl (by show some ((sp.length :Nat) :Int)=_;rw [n1]) (by omega) (by omega) fun wa ra =>?_
      rw [fa] at ra
      repeat' (first | refine ff ?_ | ((first | refine sR ?_ ?_ | refine sC ?_ ?_) <;> (intro hb;(try rw [hb]);(try simp only [bb] at hb);(try (exfalso;first | omega | exact hb trivial)))) | (apply endS trivial;rotate_left;(· exact eva);(· rfl);try refine⟨?_,rfl⟩) | fail)
      (apply EvR.aCall h5.at_;(· exact eva);(· exact  h5.ok _ wa (fldOf N now).e (by rw [g1];exact ra.ext _) (by omega));(rintro _ _ ⟨rfl,rfl⟩;refine EvR.nrm ?_))
      repeat' (first | refine ff ?_ | ((first | refine sR ?_ ?_ | refine sC ?_ ?_) <;> (intro hb;(try rw [hb]);(try simp only [bb] at hb);(try (exfalso;first | omega | exact hb trivial)))) | (apply endS trivial;rotate_left;(· exact eva);(· rfl);try refine⟨?_,rfl⟩) | fail)
      refine EvR.slF (a :=N) (b :=2 * N) s3 (by rw [nlen];rfl) (by show some ((sp.length :Nat) :Int)=_;rw [n1]) (by show some (2 * (sp.length :Int))=_;rw [n1];rfl) (by omega) (by omega) fun wb rb =>?_
      rw [fb_,show 2 * N - N=N from by omega] at rb
      repeat' (first | refine ff ?_ | ((first | refine sR ?_ ?_ | refine sC ?_ ?_) <;> (intro hb;(try rw [hb]);(try simp only [bb] at hb);(try (exfalso;first | omega | exact hb trivial)))) | (apply endS trivial;rotate_left;(· exact eva);(· rfl);try refine⟨?_,rfl⟩) | fail)
      (apply EvR.aCall h5.at_;(· exact eva);(· exact  h5.ok _ wb (fldOf N now).x (by rw [g2];exact rb.ext _) (by omega));(rintro _ _ ⟨rfl,rfl⟩;refine EvR.nrm ?_))
      repeat' (first | refine ff ?_ | ((first | refine sR ?_ ?_ | refine sC ?_ ?_) <;> (intro hb;(try rw [hb]);(try simp only [bb] at hb);(try (exfalso;first | omega | exact hb trivial)))) | (apply endS trivial;rotate_left;(· exact eva);(· rfl);try refine⟨?_,rfl⟩) | fail)
      refine EvR.slF (a :=2 * N) (b :=3 * N) s3 (by rw [nlen];rfl) (by show some (2 * (sp.length :Int))=_;rw [n1];rfl) (by show some ((now.length :Nat) :Int)=_;rw [nlen]) (by omega) (by omega) fun wc rc =>?_
      rw [fc,show 3 * N - 2 * N=N from by omega] at rc
      repeat' (first | refine ff ?_ | ((first | refine sR ?_ ?_ | refine sC ?_ ?_) <;> (intro hb;(try rw [hb]);(try simp only [bb] at hb);(try (exfalso;first | omega | exact hb trivial)))) | (apply endS trivial;rotate_left;(· exact eva);(· rfl);try refine⟨?_,rfl⟩) | fail)
      (apply EvR.aCall h5.at_;(· exact eva);(· exact  h5.ok _ wc (fldOf N now).y (by rw [g3];exact rc.ext _) (by omega));(rintro _ _ ⟨rfl,rfl⟩;refine EvR.nrm ?_))
      repeat' (first | refine ff ?_ | ((first | refine sR ?_ ?_ | refine sC ?_ ?_) <;> (intro hb;(try rw [hb]);(try simp only [bb] at hb);(try (exfalso;first | omega | exact hb trivial)))) | (apply endS trivial;rotate_left;(· exact eva);(· rfl);try refine⟨?_,rfl⟩) | fail)
      (apply EvR.aCall h6.at_;(· exact eva);(· exact  h6.ok _ W H wr _ _ sp lo _ _ _ (fldOf N now).e (fldOf N now).x (fldOf N now).y ⟨s1.ext _,s2.ext _⟩ (by omega) (by omega) ⟨Row.ownF rfl rfl,Row.ownF rfl rfl,Row.ownF rfl rfl⟩ (by omega) (by omega) (by omega));(rintro _ _ ⟨rfl,rfl⟩;refine EvR.nrm ?_))
      rw [hIF]
      repeat' (first | refine ff ?_ | ((first | refine sR ?_ ?_ | refine sC ?_ ?_) <;> (intro hb;(try rw [hb]);(try simp only [bb] at hb);(try (exfalso;first | omega | exact hb trivial)))) | (apply endS trivial;rotate_left;(· exact eva);(· rfl);try refine⟨?_,rfl⟩) | fail)
      exact⟨rfl,_,T.length,now,_,fb,R,by exact tF,(List.append_nil _).symm,I2.ext _,.inr ⟨hne,rfl,by rw [hSl];exact (ho.ext _).ext _⟩⟩
    ·have hrec2 :=hrec
     rw [recF_step hfr hIF] at hrec2
     rcases hfl with ⟨rfl,rfl⟩ | ⟨hne,rfl,ho⟩
     ·repeat' (first | refine ff ?_ | ((first | refine sR ?_ ?_ | refine sC ?_ ?_) <;> (intro hb;(try rw [hb]);(try simp only [bb] at hb);(try (exfalso;first | omega | exact hb trivial)))) | (apply endS trivial;rotate_left;(· exact eva);(· rfl);try refine⟨?_,rfl⟩) | fail)
      (apply EvR.aCall h4.at_;(· exact eva);(· exact  h4.ok _ _ last s p (r3.ext _) hlw (by omega) h64 hp);(rintro _ _ ⟨rfl,rfl⟩;refine EvR.nrm ?_))
      rw [hfr]
      simp only [frRes,afRows]
      refine EvR.base fun S hS =>?_
      have hSl :S=T++[rowO now] :=by rw [hS]
      have I2 :RcI σ W H wr sp lo (σ.length+0) (σ.length+3) (σ.length+8) (σ.length+1) (σ.length+2) S T.length now (.slice none 0 0) :=by rw [hSl];exact (I.ext _).next (by simp)
      clear hS pv5 pv8
      have pv5 :=PtAt.whole I2.v5
      have pv8 :=PtAt.whole I2.v8
      obtain⟨s1,s2⟩ :=I2.sh
      have s3 :=I2.lr
      refine EvR.nrm ?_
      repeat' (first | refine ff ?_ | ((first | refine sR ?_ ?_ | refine sC ?_ ?_) <;> (intro hb;(try rw [hb]);(try simp only [bb] at hb);(try (exfalso;first | omega | exact hb trivial)))) | (apply endS trivial;rotate_left;(· exact eva);(· rfl);try refine⟨?_,rfl⟩) | fail)
      refine EvR.slF (a :=0) (b :=N) s3 (by rw [nlen];rfl) rfl (by show some ((sp.length :Nat) :Int)=_;rw [n1]) (by omega) (by omega) fun wa ra =>?_
      rw [fa] at ra
      repeat' (first | refine ff ?_ | ((first | refine sR ?_ ?_ | refine sC ?_ ?_) <;> (intro hb;(try rw [hb]);(try simp only [bb] at hb);(try (exfalso;first | omega | exact hb trivial)))) | (apply endS trivial;rotate_left;(· exact eva);(· rfl);try refine⟨?_,rfl⟩) | fail)
      (apply EvR.aCall h5.at_;(· exact eva);(· exact  h5.ok _ wa (fldOf N now).e (by rw [g1];exact ra.ext _) (by omega));(rintro _ _ ⟨rfl,rfl⟩;refine EvR.nrm ?_))
      repeat' (first | refine ff ?_ | ((first | refine sR ?_ ?_ | refine sC ?_ ?_) <;> (intro hb;(try rw [hb]);(try simp only [bb] at hb);(try (exfalso;first | omega | exact hb trivial)))) | (apply endS trivial;rotate_left;(· exact eva);(· rfl);try refine⟨?_,rfl⟩) | fail)
      refine EvR.slF (a :=N) (b :=2 * N) s3 (by rw [nlen];rfl) (by show some ((sp.length :Nat) :Int)=_;rw [n1]) (by show some (2 * (sp.length :Int))=_;rw [n1];rfl) (by omega) (by omega) fun wb rb =>?_
      rw [fb_,show 2 * N - N=N from by omega] at rb
      repeat' (first | refine ff ?_ | ((first | refine sR ?_ ?_ | refine sC ?_ ?_) <;> (intro hb;(try rw [hb]);(try simp only [bb] at hb);(try (exfalso;first | omega | exact hb trivial)))) | (apply endS trivial;rotate_left;(· exact eva);(· rfl);try refine⟨?_,rfl⟩) | fail)
      (apply EvR.aCall h5.at_;(· exact eva);(· exact  h5.ok _ wb (fldOf N now).x (by rw [g2];exact rb.ext _) (by omega));(rintro _ _ ⟨rfl,rfl⟩;refine EvR.nrm ?_))
      repeat' (first | refine ff ?_ | ((first | refine sR ?_ ?_ | refine sC ?_ ?_) <;> (intro hb;(try rw [hb]);(try simp only [bb] at hb);(try (exfalso;first | omega | exact hb trivial)))) | (apply endS trivial;rotate_left;(· exact eva);(· rfl);try refine⟨?_,rfl⟩) | fail)
      refine EvR.slF (a :=2 * N) (b :=3 * N) s3 (by rw [nlen];rfl) (by show some (2 * (sp.length :Int))=_;rw [n1];rfl) (by show some ((now.length :Nat) :Int)=_;rw [nlen]) (by omega) (by omega) fun wc rc =>?_
      rw [fc,show 3 * N - 2 * N=N from by omega] at rc
      repeat' (first | refine ff ?_ | ((first | refine sR ?_ ?_ | refine sC ?_ ?_) <;> (intro hb;(try rw [hb]);(try simp only [bb] at hb);(try (exfalso;first | omega | exact hb trivial)))) | (apply endS trivial;rotate_left;(· exact eva);(· rfl);try refine⟨?_,rfl⟩) | fail)
      (apply EvR.aCall h5.at_;(· exact eva);(· exact  h5.ok _ wc (fldOf N now).y (by rw [g3];exact rc.ext _) (by omega));(rintro _ _ ⟨rfl,rfl⟩;refine EvR.nrm ?_))
      repeat' (first | refine ff ?_ | ((first | refine sR ?_ ?_ | refine sC ?_ ?_) <;> (intro hb;(try rw [hb]);(try simp only [bb] at hb);(try (exfalso;first | omega | exact hb trivial)))) | (apply endS trivial;rotate_left;(· exact eva);(· rfl);try refine⟨?_,rfl⟩) | fail)
      (apply EvR.aCall h6.at_;(· exact eva);(· exact  h6.ok _ W H wr _ _ sp lo _ _ _ (fldOf N now).e (fldOf N now).x (fldOf N now).y ⟨s1.ext _,s2.ext _⟩ (by omega) (by omega) ⟨Row.ownF rfl rfl,Row.ownF rfl rfl,Row.ownF rfl rfl⟩ (by omega) (by omega) (by omega));(rintro _ _ ⟨rfl,rfl⟩;refine EvR.nrm ?_))
      rw [hIF]
      repeat' (first | refine ff ?_ | ((first | refine sR ?_ ?_ | refine sC ?_ ?_) <;> (intro hb;(try rw [hb]);(try simp only [bb] at hb);(try (exfalso;first | omega | exact hb trivial)))) | (apply endS trivial;rotate_left;(· exact eva);(· rfl);try refine⟨?_,rfl⟩) | fail)
      refine EvR.stv5 (b :=σ.length+8) (off :=5) I2.v8 (by simp) rfl rfl rfl rfl rfl ?_
      refine EvR.base fun V hV =>?_
      have I3 :=(I2.set8 (slV (S.length+5) 1)).ext [rowO (fldOf N now).e,rowO (fldOf N now).x,rowO (fldOf N now).y,⟨[slV S.length (fldOf N now).e.length,slV (S.length+1) (fldOf N now).x.length,slV (S.length+2) (fldOf N now).y.length],0,true⟩,⟨[slV S.length (fldOf N now).e.length,slV (S.length+1) (fldOf N now).x.length,slV (S.length+2) (fldOf N now).y.length],3,true⟩,⟨[slV S.length (fldOf N now).e.length,slV (S.length+1) (fldOf N now).x.length,slV (S.length+2) (fldOf N now).y.length],3,true⟩]
      have J :=I2.set8 (slV (S.length+5) 1)
      have hL :(S.set (σ.length+8) ⟨[.int .i64 W,.int .i64 H,.bool wr,slV (σ.length+1) sp.length,slV (σ.length+2) lo.length,slV (S.length+5) 1],0,true⟩).length=S.length :=List.length_set
      have O3 :=filmO_new (lo :=σ.length) J.rs J.rl (by omega) (by omega) (fldOf N now) ⟨[slV S.length (fldOf N now).e.length,slV (S.length+1) (fldOf N now).x.length,slV (S.length+2) (fldOf N now).y.length],0,true⟩ ⟨[slV S.length (fldOf N now).e.length,slV (S.length+1) (fldOf N now).x.length,slV (S.length+2) (fldOf N now).y.length],3,true⟩ []
      rw [hL] at O3
      have hV2 :V=S.set (σ.length+8) ⟨[.int .i64 W,.int .i64 H,.bool wr,slV (σ.length+1) sp.length,slV (σ.length+2) lo.length,slV (S.length+5) 1],0,true⟩++[rowO (fldOf N now).e,rowO (fldOf N now).x,rowO (fldOf N now).y,⟨[slV S.length (fldOf N now).e.length,slV (S.length+1) (fldOf N now).x.length,slV (S.length+2) (fldOf N now).y.length],0,true⟩,⟨[slV S.length (fldOf N now).e.length,slV (S.length+1) (fldOf N now).x.length,slV (S.length+2) (fldOf N now).y.length],3,true⟩,⟨[slV S.length (fldOf N now).e.length,slV (S.length+1) (fldOf N now).x.length,slV (S.length+2) (fldOf N now).y.length],3,true⟩] :=by rw [hV];rfl
      rw [← hV2] at I3 O3
      clear hV hV2 J pv5 pv8
      refine EvR.nrm ?_
      repeat' (first | refine ff ?_ | ((first | refine sR ?_ ?_ | refine sC ?_ ?_) <;> (intro hb;(try rw [hb]);(try simp only [bb] at hb);(try (exfalso;first | omega | exact hb trivial)))) | (apply endS trivial;rotate_left;(· exact eva);(· rfl);try refine⟨?_,rfl⟩) | fail)
      rw [nlen]
      exact⟨(k,V,frEnd s p+2,(T.length,now),slV (S.length+5) 1,S.length+5,[fldOf N now],_),by dsimp only;omega,by exact tF,rfl,by dsimp only;simp at hk ⊢;omega,hrec2,nlen,nw,npE,I3,.inr ⟨by simp,rfl,O3⟩⟩
     ·repeat' (first | refine ff ?_ | ((first | refine sR ?_ ?_ | refine sC ?_ ?_) <;> (intro hb;(try rw [hb]);(try simp only [bb] at hb);(try (exfalso;first | omega | exact hb trivial)))) | (apply endS trivial;rotate_left;(· exact eva);(· rfl);try refine⟨?_,rfl⟩) | fail)
      (apply EvR.aCall h4.at_;(· exact eva);(· exact  h4.ok _ _ last s p (r3.ext _) hlw (by omega) h64 hp);(rintro _ _ ⟨rfl,rfl⟩;refine EvR.nrm ?_))
      rw [hfr]
      simp only [frRes,afRows]
      refine EvR.base fun S hS =>?_
      have hSl :S=T++[rowO now] :=by rw [hS]
      have I2 :RcI σ W H wr sp lo (σ.length+0) (σ.length+3) (σ.length+8) (σ.length+1) (σ.length+2) S T.length now (slV fb fs.length) :=by rw [hSl];exact (I.ext _).next (by simp)
      clear hS pv5 pv8
      have pv5 :=PtAt.whole I2.v5
      have pv8 :=PtAt.whole I2.v8
      obtain⟨s1,s2⟩ :=I2.sh
      have s3 :=I2.lr
      refine EvR.nrm ?_
      repeat' (first | refine ff ?_ | ((first | refine sR ?_ ?_ | refine sC ?_ ?_) <;> (intro hb;(try rw [hb]);(try simp only [bb] at hb);(try (exfalso;first | omega | exact hb trivial)))) | (apply endS trivial;rotate_left;(· exact eva);(· rfl);try refine⟨?_,rfl⟩) | fail)
      refine EvR.slF (a :=0) (b :=N) s3 (by rw [nlen];rfl) rfl (by show some ((sp.length :Nat) :Int)=_;rw [n1]) (by omega) (by omega) fun wa ra =>?_
      rw [fa] at ra
      repeat' (first | refine ff ?_ | ((first | refine sR ?_ ?_ | refine sC ?_ ?_) <;> (intro hb;(try rw [hb]);(try simp only [bb] at hb);(try (exfalso;first | omega | exact hb trivial)))) | (apply endS trivial;rotate_left;(· exact eva);(· rfl);try refine⟨?_,rfl⟩) | fail)
      (apply EvR.aCall h5.at_;(· exact eva);(· exact  h5.ok _ wa (fldOf N now).e (by rw [g1];exact ra.ext _) (by omega));(rintro _ _ ⟨rfl,rfl⟩;refine EvR.nrm ?_))
      repeat' (first | refine ff ?_ | ((first | refine sR ?_ ?_ | refine sC ?_ ?_) <;> (intro hb;(try rw [hb]);(try simp only [bb] at hb);(try (exfalso;first | omega | exact hb trivial)))) | (apply endS trivial;rotate_left;(· exact eva);(· rfl);try refine⟨?_,rfl⟩) | fail)
      refine EvR.slF (a :=N) (b :=2 * N) s3 (by rw [nlen];rfl) (by show some ((sp.length :Nat) :Int)=_;rw [n1]) (by show some (2 * (sp.length :Int))=_;rw [n1];rfl) (by omega) (by omega) fun wb rb =>?_
      rw [fb_,show 2 * N - N=N from by omega] at rb
      repeat' (first | refine ff ?_ | ((first | refine sR ?_ ?_ | refine sC ?_ ?_) <;> (intro hb;(try rw [hb]);(try simp only [bb] at hb);(try (exfalso;first | omega | exact hb trivial)))) | (apply endS trivial;rotate_left;(· exact eva);(· rfl);try refine⟨?_,rfl⟩) | fail)
      (apply EvR.aCall h5.at_;(· exact eva);(· exact  h5.ok _ wb (fldOf N now).x (by rw [g2];exact rb.ext _) (by omega));(rintro _ _ ⟨rfl,rfl⟩;refine EvR.nrm ?_))
      repeat' (first | refine ff ?_ | ((first | refine sR ?_ ?_ | refine sC ?_ ?_) <;> (intro hb;(try rw [hb]);(try simp only [bb] at hb);(try (exfalso;first | omega | exact hb trivial)))) | (apply endS trivial;rotate_left;(· exact eva);(· rfl);try refine⟨?_,rfl⟩) | fail)
      refine EvR.slF (a :=2 * N) (b :=3 * N) s3 (by rw [nlen];rfl) (by show some (2 * (sp.length :Int))=_;rw [n1];rfl) (by show some ((now.length :Nat) :Int)=_;rw [nlen]) (by omega) (by omega) fun wc rc =>?_
      rw [fc,show 3 * N - 2 * N=N from by omega] at rc
      repeat' (first | refine ff ?_ | ((first | refine sR ?_ ?_ | refine sC ?_ ?_) <;> (intro hb;(try rw [hb]);(try simp only [bb] at hb);(try (exfalso;first | omega | exact hb trivial)))) | (apply endS trivial;rotate_left;(· exact eva);(· rfl);try refine⟨?_,rfl⟩) | fail)
      (apply EvR.aCall h5.at_;(· exact eva);(· exact  h5.ok _ wc (fldOf N now).y (by rw [g3];exact rc.ext _) (by omega));(rintro _ _ ⟨rfl,rfl⟩;refine EvR.nrm ?_))
      repeat' (first | refine ff ?_ | ((first | refine sR ?_ ?_ | refine sC ?_ ?_) <;> (intro hb;(try rw [hb]);(try simp only [bb] at hb);(try (exfalso;first | omega | exact hb trivial)))) | (apply endS trivial;rotate_left;(· exact eva);(· rfl);try refine⟨?_,rfl⟩) | fail)
      (apply EvR.aCall h6.at_;(· exact eva);(· exact  h6.ok _ W H wr _ _ sp lo _ _ _ (fldOf N now).e (fldOf N now).x (fldOf N now).y ⟨s1.ext _,s2.ext _⟩ (by omega) (by omega) ⟨Row.ownF rfl rfl,Row.ownF rfl rfl,Row.ownF rfl rfl⟩ (by omega) (by omega) (by omega));(rintro _ _ ⟨rfl,rfl⟩;refine EvR.nrm ?_))
      rw [hIF]
      repeat' (first | refine ff ?_ | ((first | refine sR ?_ ?_ | refine sC ?_ ?_) <;> (intro hb;(try rw [hb]);(try simp only [bb] at hb);(try (exfalso;first | omega | exact hb trivial)))) | (apply endS trivial;rotate_left;(· exact eva);(· rfl);try refine⟨?_,rfl⟩) | fail)
      have oS :FilmO S σ.length (σ.length+1) (σ.length+2) fb R sp lo fs :=by rw [hSl];exact ho.ext _
      have hRl :=oS.flds.len
      refine EvR.ap3o5 (τ :=S) (b :=fb) (j :=4) (m :=fs.length) oS.row (by rw [List.length_map];exact hRl) rfl rfl rfl (by omega) rfl rfl rfl ?_
      repeat' (first | refine ff ?_ | ((first | refine sR ?_ ?_ | refine sC ?_ ?_) <;> (intro hb;(try rw [hb]);(try simp only [bb] at hb);(try (exfalso;first | omega | exact hb trivial)))) | (apply endS trivial;rotate_left;(· exact eva);(· rfl);try refine⟨?_,rfl⟩) | fail)
      have J1 :=I2.setRow oS.row oS.bl ⟨R.map slOf++[slV S.length (fldOf N now).e.length,slV (S.length+1) (fldOf N now).x.length,slV (S.length+2) (fldOf N now).y.length],3,true⟩
      refine EvR.stv5 (b :=σ.length+8) (off :=5) J1.v8 (by simp) rfl rfl rfl rfl rfl ?_
      refine EvR.base fun V hV =>?_
      have I3 :=(J1.set8 (slV fb (fs.length+1))).ext [rowO (fldOf N now).e,rowO (fldOf N now).x,rowO (fldOf N now).y,⟨[slV S.length (fldOf N now).e.length,slV (S.length+1) (fldOf N now).x.length,slV (S.length+2) (fldOf N now).y.length],0,true⟩,⟨[slV S.length (fldOf N now).e.length,slV (S.length+1) (fldOf N now).x.length,slV (S.length+2) (fldOf N now).y.length],3,true⟩]
      have O2 :=oS.snoc I2.len (fldOf N now) [⟨[slV S.length (fldOf N now).e.length,slV (S.length+1) (fldOf N now).x.length,slV (S.length+2) (fldOf N now).y.length],0,true⟩,⟨[slV S.length (fldOf N now).e.length,slV (S.length+1) (fldOf N now).x.length,slV (S.length+2) (fldOf N now).y.length],3,true⟩]
      have O3 :=O2.set0 (t :=σ.length+8) (X :=⟨[.int .i64 W,.int .i64 H,.bool wr,slV (σ.length+1) sp.length,slV (σ.length+2) lo.length,slV fb (fs.length+1)],0,true⟩) (J1.ext _).v8 rfl
      rw [List.set_append_left _ _ (List.getElem?_eq_some_iff.1 J1.v8).1] at O3
      have hV2 :V=(S.set fb ⟨R.map slOf++[slV S.length (fldOf N now).e.length,slV (S.length+1) (fldOf N now).x.length,slV (S.length+2) (fldOf N now).y.length],3,true⟩).set (σ.length+8) ⟨[.int .i64 W,.int .i64 H,.bool wr,slV (σ.length+1) sp.length,slV (σ.length+2) lo.length,slV fb (fs.length+1)],0,true⟩++[rowO (fldOf N now).e,rowO (fldOf N now).x,rowO (fldOf N now).y,⟨[slV S.length (fldOf N now).e.length,slV (S.length+1) (fldOf N now).x.length,slV (S.length+2) (fldOf N now).y.length],0,true⟩,⟨[slV S.length (fldOf N now).e.length,slV (S.length+1) (fldOf N now).x.length,slV (S.length+2) (fldOf N now).y.length],3,true⟩] :=by rw [hV];rfl
      rw [← hV2] at I3 O3
      clear hV hV2 J1 O2 oS pv5 pv8
      refine EvR.nrm ?_
      repeat' (first | refine ff ?_ | ((first | refine sR ?_ ?_ | refine sC ?_ ?_) <;> (intro hb;(try rw [hb]);(try simp only [bb] at hb);(try (exfalso;first | omega | exact hb trivial)))) | (apply endS trivial;rotate_left;(· exact eva);(· rfl);try refine⟨?_,rfl⟩) | fail)
      rw [nlen]
      exact⟨(k,V,frEnd s p+2,(T.length,now),slV fb (fs.length+1),fb,fs++[fldOf N now],_),by dsimp only;omega,by exact tF,rfl,by dsimp only;simp;omega,hrec2,nlen,nw,npE,I3,.inr ⟨by simp,by simp,O3⟩⟩
 ·rintro o F' σ' ⟨rfl,T,q,last,fv,fb,R,hF,rfl,I,hfl⟩
  apply blkQ.e
  apply thenQ.n
  refine Ev.kp hF ?_
  have pv8 :=PtAt.whole I.v8
  repeat' (first | refine ff ?_ | ((first | refine sR ?_ ?_ | refine sC ?_ ?_) <;> (intro hb;(try rw [hb]);(try simp only [bb] at hb);(try (exfalso;first | omega | exact hb trivial)))) | (apply endS trivial;rotate_left;(· exact eva);(· rfl);try refine⟨?_,rfl⟩) | fail)
  refine EvR.stV5 (b :=σ.length+0) (H :=T++[]) (by rw [List.append_nil];exact I.v2) rfl rfl rfl (by simp) (by rcases hfl with ⟨_,rfl⟩ | ⟨_,rfl,_⟩ <;> rfl) ?_
  refine EvR.base fun V hV =>?_
  have hV2 :V=T.set (σ.length+0) ⟨[.int .i64 W,.int .i64 H,.bool wr,slV (σ.length+1) sp.length,slV (σ.length+2) lo.length,fv],0,true⟩ :=by rw [hV,List.append_nil];rfl
  obtain⟨X,hX⟩ :∃ X,V=σ++X :=by
   refine⟨V.drop σ.length,?_⟩
   have h1 :V.take σ.length=σ :=by rw [hV2,List.take_set_of_le (by omega)];exact I.top
   conv =>lhs;rw [← List.take_append_drop σ.length V,h1]
  have pv2 :PtAt V (σ.length+0) 0 [.int .i64 W,.int .i64 H,.bool wr,slV (σ.length+1) sp.length,slV (σ.length+2) lo.length,fv] :=PtAt.whole (r :=true) (by rw [hV2];exact List.getElem?_set_self (List.getElem?_eq_some_iff.1 I.v2).1)
  have gs :V[σ.length+1]? = some (rowO sp) :=by rw [hV2,List.getElem?_set_ne (by omega)];exact I.rs
  have gl :V[σ.length+2]? = some (rowO lo) :=by rw [hV2,List.getElem?_set_ne (by omega)];exact I.rl
  have hfin :FlsA V σ.length (σ.length+1) (σ.length+2) sp lo fv fb R G.1 :=by
   rcases hfl with h | ⟨h1,h2,h3⟩
   ·exact .inl h
   ·refine .inr ⟨h1,h2,?_⟩
    rw [hV2];exact h3.set0 I.v2 rfl
  clear hV hV2 pv8 I hfl
  subst hX
  have hld :=pv2.loadNR (l :=[]) (n :=6) rfl (by omega)
  rw [List.append_nil] at hld
  refine EvR.nrm ?_
  repeat' (first | refine ff ?_ | ((first | refine sR ?_ ?_ | refine sC ?_ ?_) <;> (intro hb;(try rw [hb]);(try simp only [bb] at hb);(try (exfalso;first | omega | exact hb trivial)))) | (apply endS trivial;rotate_left;(· exact eva);(· rfl);try refine⟨?_,rfl⟩) | fail)
  rw [List.append_nil]
  apply endB trivial
  ·show ((aLoadN (σ++X) 6 (.pointer (some ⟨σ.length+0,0,none⟩))).bind fun v =>((some (Value.int .i64 (G.2 :Nat))).bind fun a =>((some (Value.bool true)).bind fun b =>(some []).map fun vs =>b::vs).map fun vs =>a::vs).map fun vs =>v::vs).map (fun vs =>Value.tuple vs.toArray)=some _
   rw [hld];rfl
  ·rw [hrc]
   rcases hfin with ⟨h1,rfl⟩ | ⟨h1,rfl,h3⟩
   ·exact⟨fun _ h =>absurd h1 (by rcases h with h | h;cases h;exact h),fun _ _ _ =>⟨X,_,_,rfl,rfl,filmN_of6 gs gl (by omega) (by omega)⟩,fun h =>by cases h⟩
   ·exact⟨fun _ _ =>⟨X,_,_,fb,R,rfl,rfl,h3⟩,fun _ _ h =>absurd h h1,fun h =>by cases h⟩
def impl_RecoverFilm_ok (c :Contract) :Prop :=∀ (σ :Heap)(s :List UInt8),s.length ≤ 1048576→Ret c [.string (str s)] σ fun v σ' =>FmR3N (rcOk s) σ σ' v (byAt s 4) (byAt s 5) (shWr s) (shSp s) (shLo s) (rcAll s).1 (rcAll s).2
theorem impl_RecoverFilm_law {C :Ctab}{i1 i2 i3 i4 i5 i6 :FuncId}{c1 c2 c3 c4 c5 c6 :Contract}(h1 :Has C i1 c1 impl_sheetAhead_ok)(h2 :Has C i2 c2 impl_zeroField_ok)(h3 :Has C i3 c3 impl_numbersOf_ok)(h4 :Has C i4 c4 impl_frameAt_ok)(h5 :Has C i5 c5 impl_copyOf_ok)(h6 :Has C i6 c6 impl_IsField_ok) :
 impl_RecoverFilm_ok (bodyC C (impl_RecoverFilm i1 i2 i3 i4 i5 i6) true) :=fun σ s hs =>(RecoverI_law h1 h2 h3 h4 h5 h6 σ s hs).mono fun _ _ h =>h.toN
end Go.Abs
