/- Laws of functions: the sheet that bytes begin with, by the reference; sheets that are loaded. Conditions: the laws of what they call. -/
import Derived.Test.YtaacdckenhnocaaFilmsL98
namespace Go.Abs
set_option linter.unusedSimpArgs false
set_option linter.unusedVariables false
set_option maxHeartbeats 8000000
set_option maxRecDepth 20000
def impl_LoadSheet_r0 :List SOper :=[
 ⟨some 2,none,.alloc [(.int .i64 0),(.int .i64 0),(.bool false),(.slice none 0 0),(.slice none 0 0)],0⟩,
 ⟨some 3,none,.mov (.const (.bool false)),0⟩]
def impl_LoadSheet_r1 (i_impl_sheetAhead :FuncId) :List SOper :=[
 ⟨some 8,none,.mov (.tmp 0),0⟩,
 ⟨some 9,none,.call (.func i_impl_sheetAhead) [(.tmp 8)],1⟩,
 ⟨some 7,none,.mov (.tmp 9),3⟩,
 ⟨some 10,none,.extract (.tmp 7) 0,7⟩,
 ⟨some 11,none,.extract (.tmp 7) 1,7⟩,
 ⟨some 12,none,.extract (.tmp 7) 2,7⟩,
 ⟨some 4,none,.alloc [(.int .i64 0),(.int .i64 0),(.bool false),(.slice none 0 0),(.slice none 0 0)],0⟩,
 ⟨none,none,.store 5 (.tmp 4) (.tmp 10),79⟩,
 ⟨some 5,none,.mov (.tmp 11),223⟩,
 ⟨some 6,none,.mov (.tmp 12),511⟩]
def impl_LoadSheet_r2 :List SOper :=[
 ⟨some 13,none,.mov (.tmp 6),0⟩,
 ⟨some 14,none,.un .not (.tmp 13),1⟩,
 ⟨some 15,none,.mov (.tmp 14),3⟩,
  ⟨(some 16),(some (15,false)),.mov (.tmp 5),7⟩,
  ⟨(some 17),(some (15,false)),.mov (.tmp 0),7⟩,
  ⟨(some 18),(some (15,false)),.len true (.tmp 17),23⟩,
  ⟨(some 19),(some (15,false)),.bin .neq .other (.tmp 16) (.tmp 18),63⟩,
 ⟨some 20,none,.pick (.tmp 15) (.const (.bool true)) (.tmp 19),127⟩]
def impl_LoadSheet_r3 :List SOper :=[
 ⟨some 21,none,.build [(.int .i64 0),(.int .i64 0),(.bool false),(.slice none 0 0),(.slice none 0 0)] [],0⟩,
 ⟨none,none,.store 5 (.tmp 2) (.tmp 21),1⟩,
 ⟨some 3,none,.mov (.const (.bool false)),3⟩]
def impl_LoadSheet_r4 :List SOper :=[
 ⟨some 22,none,.loadN 5 (.tmp 4),0⟩,
 ⟨none,none,.store 5 (.tmp 2) (.tmp 22),1⟩,
 ⟨some 3,none,.mov (.const (.bool true)),3⟩]
def impl_LoadSheet (i_impl_sheetAhead :FuncId) :SFunc :=⟨23,[.cellN 2 5,.tmp 3],(.kp [0] (.seq (.region impl_LoadSheet_r0 false) (.kp [0,2] (.seq (.region (impl_LoadSheet_r1 i_impl_sheetAhead) false) (.kp [0,2,4,5,6] (.seq (.seq (.region impl_LoadSheet_r2 false) (.kp [2,4,20] (.cond (.tmp 20) (.seq (.region impl_LoadSheet_r3 false) .ret) .skip))) (.kp [2,4] (.seq (.region impl_LoadSheet_r4 false) .ret))))))))⟩
theorem streq (a b :List UInt8) :((str a).toList == (str b).toList)=decide (a=b) :=by
 rw [str_toList,str_toList,Bool.eq_iff_iff]
 simp
attribute [push_cast] streq
def ldRes (ok :Bool)(s :List UInt8)(σ σ' :Heap)(v :Value) :Prop :=
 bif ok then v = .tuple #[shV (byAt s 4) (byAt s 5) (shWr s) (slV σ.length (shSp s).length) (slV (σ.length+1) (shLo s).length),.bool true]∧σ'=σ++[rowO (shSp s),rowO (shLo s)]
 else v = .tuple #[shV 0 0 false (.slice none 0 0) (.slice none 0 0),.bool false]∧σ'=σ
theorem ldRes_t {ok :Bool}{s :List UInt8}{σ σ' :Heap}{v :Value}{a b :Nat}(h :ok=true)(ha :(shSp s).length=a)(hb :(shLo s).length=b)(h1 :v = .tuple #[shV (byAt s 4) (byAt s 5) (shWr s) (slV σ.length a) (slV (σ.length+1) b),.bool true])(h2 :σ'=σ++[rowO (shSp s),rowO (shLo s)]) :ldRes ok s σ σ' v :=by
 subst h ha hb;exact⟨h1,h2⟩
theorem ldRes_f {ok :Bool}{s :List UInt8}{σ σ' :Heap}{v :Value}(h :ok=false)(h1 :v = .tuple #[shV 0 0 false (.slice none 0 0) (.slice none 0 0),.bool false])(h2 :σ'=σ) :ldRes ok s σ σ' v :=by
 subst h;exact⟨h1,h2⟩
def ldOk (s :List UInt8) :Bool :=ahOk s && decide (shEnd s=s.length)
def LoadSheet_ok (c :Contract) :Prop :=∀ (σ :Heap)(s :List UInt8),s.length ≤ 1048576→Ret c [.string (str s)] σ fun v σ' =>ldRes (ldOk s) s σ σ' v
abbrev impl_LoadSheet_ok :=LoadSheet_ok
theorem impl_LoadSheet_law {C :Ctab}{i1 :FuncId}{c1 :Contract}(h1 :Has C i1 c1 impl_sheetAhead_ok) :impl_LoadSheet_ok (gcC C (impl_LoadSheet i1) true) :=by
 intro σ s hs
 have n1 :(shSp s).length=shN s :=numsAt_length _ _ _
 have n2 :(shLo s).length=shN s :=numsAt_length _ _ _
 unfold ldOk
 cases hok :ahOk s
 ·simp only [ldRes,Bool.false_and,cond_false]
  refine ret_gc rfl rfl ?_
  repeat' (first | refine ff ?_ | ((first | refine sR ?_ ?_ | refine sC ?_ ?_) <;> (intro hb;(try rw [hb]);(try simp only [bb] at hb);(try (exfalso;first | omega | exact hb trivial)))) | (apply endS trivial;rotate_left;(· exact eva);(· rfl);try refine⟨?_,rfl⟩) | fail)
  apply EvR.aCall h1.at_;(· exact eva);(· exact h1.ok _ s hs);intro v σ' hv
  simp only [ahRes,hok,cond_false] at hv
  obtain⟨rfl,rfl⟩ :=hv
  refine EvR.nrm ?_
  repeat' (first | refine ff ?_ | ((first | refine sR ?_ ?_ | refine sC ?_ ?_) <;> (intro hb;(try rw [hb]);(try simp only [bb] at hb);(try (exfalso;first | omega | exact hb trivial)))) | (apply endS trivial;rotate_left;(· exact eva);(· rfl);try refine⟨?_,rfl⟩) | fail)
  all_goals rfl
 ·refine ret_gc rfl rfl ?_
  repeat' (first | refine ff ?_ | ((first | refine sR ?_ ?_ | refine sC ?_ ?_) <;> (intro hb;(try rw [hb]);(try simp only [bb] at hb);(try (exfalso;first | omega | exact hb trivial)))) | (apply endS trivial;rotate_left;(· exact eva);(· rfl);try refine⟨?_,rfl⟩) | fail)
  apply EvR.aCall h1.at_;(· exact eva);(· exact h1.ok _ s hs);intro v σ' hv
  simp only [ahRes,hok,cond_true] at hv
  obtain⟨rfl,rfl⟩ :=hv
  refine EvR.nrm ?_
  repeat' (first | refine ff ?_ | ((first | refine sR ?_ ?_ | refine sC ?_ ?_) <;> (intro hb;(try rw [hb]);(try simp only [bb] at hb);(try (exfalso;first | omega | exact hb trivial)))) | (apply endS trivial;rotate_left;(· exact eva);(· rfl);try refine⟨?_,rfl⟩) | fail)
  ·exact ldRes_f (by rw [decide_eq_false (show ¬ shEnd s=s.length by omega)];rfl) rfl rfl
  ·apply endR [1,2] trivial (ldRes_t (by rw [decide_eq_true (show shEnd s=s.length by omega)];rfl) n1 n2 rfl rfl);(· exact eva);(· simp [gcTop,gcVal,gcLeaf,gcLeaves,gcVals,constOk,gc_lt,gc_lt0]);(· rfl);(· decide);(· simp [allConst,f32s,i64s,b8s,bools,constOk])
end Go.Abs
