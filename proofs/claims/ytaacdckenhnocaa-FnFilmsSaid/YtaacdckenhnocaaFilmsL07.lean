/- Laws of functions, some texts put together. Conditions: the laws of what they call. -/
import Derived.Test.YtaacdckenhnocaaFilmsL04
import Derived.Test.YtaacdckenhnocaaFilmsWvMF
import Derived.Test.YtaacdckenhnocaaFilmsWvH3
import Derived.Test.YtaacdckenhnocaaFilmsL12
import Derived.Test.YtaacdckenhnocaaFilmsWvX2
namespace Go.Abs
set_option linter.unusedSimpArgs false
set_option linter.unusedVariables false
set_option maxHeartbeats 8000000
def impl_copyOf_r0 :List SOper :=[
 ⟨some 2,none,.mov (.const (.slice none 0 0)),0⟩]
def impl_copyOf_r1 :List SOper :=[
 ⟨some 3,none,.buildSlice 1 0 [] [],0⟩,
 ⟨some 4,none,.mov (.tmp 0),0⟩,
 ⟨some 5,none,.append 1 4 (.tmp 3) (.tmp 4),3⟩,
 ⟨some 2,none,.mov (.tmp 5),7⟩]
def impl_copyOf :SFunc :=⟨6,[.tmp 2],(.kp [0] (.seq (.region impl_copyOf_r0 false) (.kp [0] (.seq (.region impl_copyOf_r1 false) .ret))))⟩
def impl_copySheet_r0 :List SOper :=[
 ⟨some 1,none,.box (.tmp 0),0⟩,
 ⟨some 2,none,.alloc [(.int .i64 0),(.int .i64 0),(.bool false),(.slice none 0 0),(.slice none 0 0)],0⟩]
def impl_copySheet_r1 (i_impl_copyOf :FuncId) :List SOper :=[
 ⟨some 3,none,.fieldAddr 3 (.tmp 1),0⟩,
 ⟨some 4,none,.load1 (.tmp 3),1⟩,
 ⟨some 5,none,.call (.func i_impl_copyOf) [(.tmp 4)],3⟩,
 ⟨some 6,none,.fieldAddr 4 (.tmp 1),0⟩,
 ⟨some 7,none,.load1 (.tmp 6),8⟩,
 ⟨some 8,none,.call (.func i_impl_copyOf) [(.tmp 7)],31⟩,
 ⟨some 9,none,.fieldAddr 3 (.tmp 1),31⟩,
 ⟨none,none,.store 1 (.tmp 9) (.tmp 5),127⟩,
 ⟨some 10,none,.fieldAddr 4 (.tmp 1),255⟩,
 ⟨none,none,.store 1 (.tmp 10) (.tmp 8),511⟩]
def impl_copySheet_r2 :List SOper :=[
 ⟨some 11,none,.loadN 5 (.tmp 1),0⟩,
 ⟨none,none,.store 5 (.tmp 2) (.tmp 11),1⟩]
def impl_copySheet (i_impl_copyOf :FuncId) :SFunc :=⟨12,[.cellN 2 5],(.kp [0] (.seq (.region impl_copySheet_r0 false) (.kp [1,2] (.seq (.region (impl_copySheet_r1 i_impl_copyOf) true) (.kp [1,2] (.seq (.region impl_copySheet_r2 false) .ret))))))⟩
theorem impl_copySheet_r1_dr {i_impl_copyOf :FuncId} :drawOkW wStat (impl_copySheet_r1 i_impl_copyOf)=true :=by kernel_rfl
attribute [push_cast] impl_copySheet_r1_dr
def marks (k :Int)(n :Nat) :List Nat :=(List.range n).map fun (i :Nat) =>FloatKind.f32.nearest (k+i)
def impl_copyOf_ok (c :Contract) :Prop :=∀ (σ :Heap)(v :Value)(xs :List Nat),Row σ 1 v xs.length (f32s xs)→xs.length ≤ 1048576→Ret c [v] σ fun v' σ' =>v'=slV σ.length xs.length∧σ'=σ++[rowO xs]
theorem impl_copyOf_law {C :Ctab} :impl_copyOf_ok (gcC C impl_copyOf true) :=by
 intro σ v xs hr hn
 refine ret_gc rfl rfl ?_
 repeat (first | (first | (apply EvR.movT;(· exact tG)) | (apply EvR.opS;(· simp (disch :=omega) only [push_cast,Nat.reduceEqDiff,reduceIte,Nat.reduceAdd,Nat.reduceLeDiff,build0_app] <;> with_reducible rfl)) | (apply EvR.opN;(· simp (disch :=omega) only [push_cast,Nat.reduceEqDiff,reduceIte,Nat.reduceAdd,Nat.reduceLeDiff,build0_app] <;> with_reducible rfl))) | (first | (apply EvR.opSF;(· exact tG);(· first | rfl | (simp only [build0_app] <;> with_reducible rfl))) | (apply EvR.opNF;(· exact tG);(· first | rfl | (simp only [build0_app] <;> with_reducible rfl)))) | (first | (apply EvR.movTT;(· exact tG);(· first | rfl | (simp only [build0_app] <;> with_reducible rfl));(· exact tG)) | (apply EvR.opST;(· exact tG);(· first | rfl | (simp only [build0_app] <;> with_reducible rfl));(· simp (disch :=omega) only [push_cast,Nat.reduceEqDiff,reduceIte,Nat.reduceAdd,Nat.reduceLeDiff,build0_app] <;> with_reducible rfl)) | (apply EvR.opNT;(· exact tG);(· first | rfl | (simp only [build0_app] <;> with_reducible rfl));(· simp (disch :=omega) only [push_cast,Nat.reduceEqDiff,reduceIte,Nat.reduceAdd,Nat.reduceLeDiff,build0_app] <;> with_reducible rfl))) | (apply EvR.opSU;(· exact tG)) | (apply EvR.opNU;(· exact tG)) | (refine EvR.nil ?_;try dsimp only) | (apply Ev.kp;(· simp only [push_cast,Nat.reduceEqDiff,reduceIte,Nat.reduceAdd,Nat.reduceLeDiff] <;> with_reducible rfl)) | (refine Ev.seq ?_) | (refine Ev.region ?_) | (apply Ev.regionQ;(· kernel_rfl);(· exact trivial)) | (apply Ev.condT;(· simp (disch :=omega) only [push_cast,Nat.reduceEqDiff,reduceIte,Nat.reduceAdd,Nat.reduceLeDiff,build0_app] <;> with_reducible rfl)) | (apply Ev.condF;(· simp (disch :=omega) only [push_cast,Nat.reduceEqDiff,reduceIte,Nat.reduceAdd,Nat.reduceLeDiff,build0_app] <;> with_reducible rfl)) | (refine Ev.skip ?_;try dsimp only) | (refine Ev.exit ?_;try dsimp only) | (refine Ev.block ?_) | (refine Ev.ret ?_;try dsimp only))
 (apply EvR.opS;(· simp only [push_cast,Nat.reduceEqDiff,reduceIte];exact append_new _ _ 0 4 _ _ rfl (hr.ext _).app (by omega) (by omega) (f32s_ok _)));simp only [List.set_cons_zero,List.set_cons_succ]
 repeat (first | (first | (apply EvR.movT;(· exact tG)) | (apply EvR.opS;(· exact tP)) | (apply EvR.opN;(· exact tP))) | (first | (apply EvR.opSF;(· exact tG);(· first | rfl | (simp only [] <;> with_reducible rfl))) | (apply EvR.opNF;(· exact tG);(· first | rfl | (simp only [] <;> with_reducible rfl)))) | (first | (apply EvR.movTT;(· exact tG);(· first | rfl | (simp only [] <;> with_reducible rfl));(· exact tG)) | (apply EvR.opST;(· exact tG);(· first | rfl | (simp only [] <;> with_reducible rfl));(· exact tP)) | (apply EvR.opNT;(· exact tG);(· first | rfl | (simp only [] <;> with_reducible rfl));(· exact tP))) | (apply EvR.opSU;(· exact tG)) | (apply EvR.opNU;(· exact tG)) | (refine EvR.nil ?_;try dsimp only) | (apply Ev.kp;(· simp only [push_cast,Nat.reduceEqDiff,reduceIte,Nat.reduceAdd,Nat.reduceLeDiff] <;> with_reducible rfl)) | (refine Ev.seq ?_) | (refine Ev.region ?_) | (apply Ev.regionQ;(· kernel_rfl);(· exact trivial)) | (apply Ev.condT;(· exact tP)) | (apply Ev.condF;(· exact tP)) | (refine Ev.skip ?_;try dsimp only) | (refine Ev.exit ?_;try dsimp only) | (refine Ev.block ?_) | (refine Ev.ret ?_;try dsimp only))
 ((first | apply Ev.retE | apply atEnd_ret | apply atEnd_normal);(· simp only [push_cast,Nat.reduceEqDiff,reduceIte,Nat.reduceAdd,Nat.reduceLeDiff] <;> with_reducible rfl))
 refine end_rows [rowO xs] [0] ?_ rfl (by decide) ?_ ⟨rfl,rfl⟩
 ·simp [gcTop,gcVal,gcLeaf,gcLeaves,gcVals,constOk,gc_lt,gc_lt0]
 ·simp [allConst,f32s,constOk]
def impl_copySheet_ok (c :Contract) :Prop :=∀ (σ :Heap)(w h :Int)(wr :Bool)(sv lv :Value)(sp lo :List Nat),ShR σ sv lv sp lo→sp.length ≤ 1048576→lo.length ≤ 1048576 →
 Ret c [shV w h wr sv lv] σ fun v σ' =>v=shV w h wr (slV σ.length sp.length) (slV (σ.length+1) lo.length)∧σ'=σ++[rowO sp,rowO lo]
theorem impl_copySheet_law {C :Ctab}{i :FuncId}{c :Contract}(h1 :Has C i c impl_copyOf_ok) :impl_copySheet_ok (gcC C (impl_copySheet i) true) :=by
 intro σ w h wr sv lv sp lo hr hn1 hn2
 have k1 :=hr.s.ok
 have k2 :=hr.l.ok
 have o1 :=hr.s.one
 have o2 :=hr.l.one
 refine ret_gc rfl rfl ?_
 repeat (first | (first | (apply EvR.movT;(· exact tG)) | (apply EvR.opS;(· simp (disch :=omega) only [push_cast,Nat.reduceEqDiff,reduceIte,Nat.reduceAdd,Nat.reduceLeDiff,shV,k1,k2,o1,o2] <;> with_reducible rfl)) | (apply EvR.opN;(· simp (disch :=omega) only [push_cast,Nat.reduceEqDiff,reduceIte,Nat.reduceAdd,Nat.reduceLeDiff,shV,k1,k2,o1,o2] <;> with_reducible rfl))) | (first | (apply EvR.opSF;(· exact tG);(· first | rfl | (simp only [shV,k1,k2,o1,o2] <;> with_reducible rfl))) | (apply EvR.opNF;(· exact tG);(· first | rfl | (simp only [shV,k1,k2,o1,o2] <;> with_reducible rfl)))) | (first | (apply EvR.movTT;(· exact tG);(· first | rfl | (simp only [shV,k1,k2,o1,o2] <;> with_reducible rfl));(· exact tG)) | (apply EvR.opST;(· exact tG);(· first | rfl | (simp only [shV,k1,k2,o1,o2] <;> with_reducible rfl));(· simp (disch :=omega) only [push_cast,Nat.reduceEqDiff,reduceIte,Nat.reduceAdd,Nat.reduceLeDiff,shV,k1,k2,o1,o2] <;> with_reducible rfl)) | (apply EvR.opNT;(· exact tG);(· first | rfl | (simp only [shV,k1,k2,o1,o2] <;> with_reducible rfl));(· simp (disch :=omega) only [push_cast,Nat.reduceEqDiff,reduceIte,Nat.reduceAdd,Nat.reduceLeDiff,shV,k1,k2,o1,o2] <;> with_reducible rfl))) | (apply EvR.opSU;(· exact tG)) | (apply EvR.opNU;(· exact tG)) | (refine EvR.nil ?_;try dsimp only) | (apply Ev.kp;(· simp only [push_cast,Nat.reduceEqDiff,reduceIte,Nat.reduceAdd,Nat.reduceLeDiff] <;> with_reducible rfl)) | (refine Ev.seq ?_) | (refine Ev.region ?_) | (apply Ev.regionQ;(· kernel_rfl);(· exact trivial)) | (apply Ev.condT;(· simp (disch :=omega) only [push_cast,Nat.reduceEqDiff,reduceIte,Nat.reduceAdd,Nat.reduceLeDiff,shV,k1,k2,o1,o2] <;> with_reducible rfl)) | (apply Ev.condF;(· simp (disch :=omega) only [push_cast,Nat.reduceEqDiff,reduceIte,Nat.reduceAdd,Nat.reduceLeDiff,shV,k1,k2,o1,o2] <;> with_reducible rfl)) | (refine Ev.skip ?_;try dsimp only) | (refine Ev.exit ?_;try dsimp only) | (refine Ev.block ?_) | (refine Ev.ret ?_;try dsimp only))
 (apply Ev.regionQ;(· kernel_rfl);(· exact⟨⟨_,h1.at_,h1.quiet⟩,⟨_,h1.at_,h1.quiet⟩,trivial⟩))
 repeat (first | (first | (apply EvR.movT;(· exact tG)) | (apply EvR.opS;(· exact tP)) | (apply EvR.opN;(· exact tP))) | (first | (apply EvR.opSF;(· exact tG);(· first | rfl | (simp only [] <;> with_reducible rfl))) | (apply EvR.opNF;(· exact tG);(· first | rfl | (simp only [] <;> with_reducible rfl)))) | (first | (apply EvR.movTT;(· exact tG);(· first | rfl | (simp only [] <;> with_reducible rfl));(· exact tG)) | (apply EvR.opST;(· exact tG);(· first | rfl | (simp only [] <;> with_reducible rfl));(· exact tP)) | (apply EvR.opNT;(· exact tG);(· first | rfl | (simp only [] <;> with_reducible rfl));(· exact tP))) | (apply EvR.opSU;(· exact tG)) | (apply EvR.opNU;(· exact tG)) | (refine EvR.nil ?_;try dsimp only) | (apply Ev.kp;(· simp only [push_cast,Nat.reduceEqDiff,reduceIte,Nat.reduceAdd,Nat.reduceLeDiff] <;> with_reducible rfl)) | (refine Ev.seq ?_) | (refine Ev.region ?_) | (apply Ev.regionQ;(· kernel_rfl);(· exact trivial)) | (apply Ev.condT;(· exact tP)) | (apply Ev.condF;(· exact tP)) | (refine Ev.skip ?_;try dsimp only) | (refine Ev.exit ?_;try dsimp only) | (refine Ev.block ?_) | (refine Ev.ret ?_;try dsimp only))
 (apply EvR.callF h1.at_;(· simp only [push_cast,Nat.reduceEqDiff,reduceIte,Nat.reduceAdd,Nat.reduceLeDiff] <;> with_reducible rfl);(· exact  h1.ok _ _ sp (hr.s.ext _) hn1);(· intro _;simp only [push_cast,Nat.reduceEqDiff,reduceIte,Nat.reduceAdd,Nat.reduceLeDiff] <;> with_reducible rfl);rintro _ _ ⟨rfl,rfl⟩;try dsimp only)
 simp only [List.length_append,List.length_cons,List.length_nil,List.append_assoc,List.cons_append,List.nil_append,Nat.reduceAdd,Nat.zero_add,Nat.add_assoc,List.set_cons_zero,List.set_cons_succ,set_app,slV]
 repeat (first | (first | (apply EvR.movT;(· exact tG)) | (apply EvR.opS;(· exact tP)) | (apply EvR.opN;(· exact tP))) | (first | (apply EvR.opSF;(· exact tG);(· first | rfl | (simp only [] <;> with_reducible rfl))) | (apply EvR.opNF;(· exact tG);(· first | rfl | (simp only [] <;> with_reducible rfl)))) | (first | (apply EvR.movTT;(· exact tG);(· first | rfl | (simp only [] <;> with_reducible rfl));(· exact tG)) | (apply EvR.opST;(· exact tG);(· first | rfl | (simp only [] <;> with_reducible rfl));(· exact tP)) | (apply EvR.opNT;(· exact tG);(· first | rfl | (simp only [] <;> with_reducible rfl));(· exact tP))) | (apply EvR.opSU;(· exact tG)) | (apply EvR.opNU;(· exact tG)) | (refine EvR.nil ?_;try dsimp only) | (apply Ev.kp;(· simp only [push_cast,Nat.reduceEqDiff,reduceIte,Nat.reduceAdd,Nat.reduceLeDiff] <;> with_reducible rfl)) | (refine Ev.seq ?_) | (refine Ev.region ?_) | (apply Ev.regionQ;(· kernel_rfl);(· exact trivial)) | (apply Ev.condT;(· exact tP)) | (apply Ev.condF;(· exact tP)) | (refine Ev.skip ?_;try dsimp only) | (refine Ev.exit ?_;try dsimp only) | (refine Ev.block ?_) | (refine Ev.ret ?_;try dsimp only))
 (apply EvR.callF h1.at_;(· simp only [push_cast,Nat.reduceEqDiff,reduceIte,Nat.reduceAdd,Nat.reduceLeDiff] <;> with_reducible rfl);(· exact  h1.ok _ _ lo (hr.l.ext _) hn2);(· intro _;simp only [push_cast,Nat.reduceEqDiff,reduceIte,Nat.reduceAdd,Nat.reduceLeDiff] <;> with_reducible rfl);rintro _ _ ⟨rfl,rfl⟩;try dsimp only)
 simp only [List.length_append,List.length_cons,List.length_nil,List.append_assoc,List.cons_append,List.nil_append,Nat.reduceAdd,Nat.zero_add,Nat.add_assoc,List.set_cons_zero,List.set_cons_succ,set_app,slV]
 repeat (first | (first | (apply EvR.movT;(· exact tG)) | (apply EvR.opS;(· exact tP)) | (apply EvR.opN;(· exact tP))) | (first | (apply EvR.opSF;(· exact tG);(· first | rfl | (simp only [] <;> with_reducible rfl))) | (apply EvR.opNF;(· exact tG);(· first | rfl | (simp only [] <;> with_reducible rfl)))) | (first | (apply EvR.movTT;(· exact tG);(· first | rfl | (simp only [] <;> with_reducible rfl));(· exact tG)) | (apply EvR.opST;(· exact tG);(· first | rfl | (simp only [] <;> with_reducible rfl));(· exact tP)) | (apply EvR.opNT;(· exact tG);(· first | rfl | (simp only [] <;> with_reducible rfl));(· exact tP))) | (apply EvR.opSU;(· exact tG)) | (apply EvR.opNU;(· exact tG)) | (refine EvR.nil ?_;try dsimp only) | (apply Ev.kp;(· simp only [push_cast,Nat.reduceEqDiff,reduceIte,Nat.reduceAdd,Nat.reduceLeDiff] <;> with_reducible rfl)) | (refine Ev.seq ?_) | (refine Ev.region ?_) | (apply Ev.regionQ;(· kernel_rfl);(· exact trivial)) | (apply Ev.condT;(· exact tP)) | (apply Ev.condF;(· exact tP)) | (refine Ev.skip ?_;try dsimp only) | (refine Ev.exit ?_;try dsimp only) | (refine Ev.block ?_) | (refine Ev.ret ?_;try dsimp only))
 ((first | apply Ev.retE | apply atEnd_ret | apply atEnd_normal);(· simp only [push_cast,Nat.reduceEqDiff,reduceIte,Nat.reduceAdd,Nat.reduceLeDiff] <;> with_reducible rfl))
 refine end_rows [rowO sp,rowO lo] [2,3] (v :=shV w h wr (slV σ.length sp.length) (slV (σ.length+1) lo.length)) ?_ ?_ (by decide) ?_ ?_
 ·simp [gcTop,gcVal,gcLeaf,gcLeaves,gcVals,constOk,gc_lt,gc_lt0]
 ·rfl
 ·simp [allConst,f32s,constOk]
 ·exact⟨rfl,rfl⟩
end Go.Abs
namespace Go.Abs
set_option linter.unusedSimpArgs false
set_option linter.unusedVariables false
set_option maxHeartbeats 8000000
abbrev rowI (xs :List Int) :AObj :=⟨i64s xs,1,true⟩
end Go.Abs
namespace Go.Abs
set_option linter.unusedSimpArgs false
set_option linter.unusedVariables false
set_option maxHeartbeats 8000000
def spec_l00Max_r0 :List SOper :=[
 ⟨some 4,none,.mov (.const (.int .i64 0)),0⟩]
def spec_l00Max_r1 :List SOper :=[
 ⟨some 5,none,.mov (.tmp 0),0⟩,
 ⟨some 6,none,.mov (.tmp 1),0⟩,
 ⟨some 7,none,.bin .gtr .other (.tmp 5) (.tmp 6),3⟩]
def spec_l00Max_r2 :List SOper :=[
 ⟨some 8,none,.mov (.tmp 0),0⟩,
 ⟨some 4,none,.mov (.tmp 8),1⟩]
def spec_l00Max_r3 :List SOper :=[
 ⟨some 9,none,.mov (.tmp 1),0⟩,
 ⟨some 4,none,.mov (.tmp 9),1⟩]
def spec_l00Max :SFunc :=⟨10,[.tmp 4],(.kp [0,1] (.seq (.region spec_l00Max_r0 false) (.kp [0,1] (.seq (.seq (.region spec_l00Max_r1 false) (.kp [0,1,7] (.cond (.tmp 7) (.seq (.region spec_l00Max_r2 false) .ret) .skip))) (.kp [1] (.seq (.region spec_l00Max_r3 false) .ret))))))⟩
def spec_l00Min_r0 :List SOper :=[
 ⟨some 4,none,.mov (.const (.int .i64 0)),0⟩]
def spec_l00Min_r1 :List SOper :=[
 ⟨some 5,none,.mov (.tmp 0),0⟩,
 ⟨some 6,none,.mov (.tmp 1),0⟩,
 ⟨some 7,none,.bin .lss .other (.tmp 5) (.tmp 6),3⟩]
def spec_l00Min_r2 :List SOper :=[
 ⟨some 8,none,.mov (.tmp 0),0⟩,
 ⟨some 4,none,.mov (.tmp 8),1⟩]
def spec_l00Min_r3 :List SOper :=[
 ⟨some 9,none,.mov (.tmp 1),0⟩,
 ⟨some 4,none,.mov (.tmp 9),1⟩]
def spec_l00Min :SFunc :=⟨10,[.tmp 4],(.kp [0,1] (.seq (.region spec_l00Min_r0 false) (.kp [0,1] (.seq (.seq (.region spec_l00Min_r1 false) (.kp [0,1,7] (.cond (.tmp 7) (.seq (.region spec_l00Min_r2 false) .ret) .skip))) (.kp [1] (.seq (.region spec_l00Min_r3 false) .ret))))))⟩
theorem atC_bd {W H :Nat}{u v :Int}(hW :3 ≤ W)(hH :3 ≤ H)(u1 :-1 ≤ u)(u2 :u ≤ W)(v1 :-1 ≤ v)(v2 :v ≤ H) :0 ≤ atC W H u v∧atC W H u v < ((W * H :Nat) :Int) :=by
 unfold atC
 rw [wrapC (by omega) u1 u2,wrapC (by omega) v1 v2]
 obtain⟨x,hx,ex⟩ :∃ x :Nat,x < W∧(if u = -1 then (W :Int) - 1 else if u=W then 0 else u)=x :=by
  refine⟨(if u = -1 then (W :Int) - 1 else if u=W then 0 else u).toNat,?_,?_⟩ <;> split <;> (try split) <;> omega
 obtain⟨y,hy,ey⟩ :∃ y :Nat,y < H∧(if v = -1 then (H :Int) - 1 else if v=H then 0 else v)=y :=by
  refine⟨(if v = -1 then (H :Int) - 1 else if v=H then 0 else v).toNat,?_,?_⟩ <;> split <;> (try split) <;> omega
 rw [ex,ey]
 have :=cell_lt hx hy
 have e :(W :Int) * (y :Int)=((W * y :Nat) :Int) :=(Int.natCast_mul _ _).symm
 omega
def spec_l00Max_ok (c :Contract) :Prop :=∀ (σ :Heap)(a b :Int),Ret c [.int .i64 a,.int .i64 b] σ fun v σ' =>v = .int .i64 (max a b)∧σ'=σ
theorem spec_l00Max_law {C :Ctab} :spec_l00Max_ok (gcC C spec_l00Max true) :=by
 intro σ a b
 refine ret_gc rfl rfl ?_
 repeat' (first | refine ff ?_ | ((first | refine sR ?_ ?_ | refine sC ?_ ?_) <;> (intro hb;(try rw [hb]);(try simp only [bb] at hb);(try (exfalso;first | omega | exact hb trivial)))) | (apply endS trivial;rotate_left;(· exact eva);(· rfl);try refine⟨?_,rfl⟩) | fail)
 all_goals (congr 1;omega)
def spec_l00Min_ok (c :Contract) :Prop :=∀ (σ :Heap)(a b :Int),Ret c [.int .i64 a,.int .i64 b] σ fun v σ' =>v = .int .i64 (min a b)∧σ'=σ
theorem spec_l00Min_law {C :Ctab} :spec_l00Min_ok (gcC C spec_l00Min true) :=by
 intro σ a b
 refine ret_gc rfl rfl ?_
 repeat' (first | refine ff ?_ | ((first | refine sR ?_ ?_ | refine sC ?_ ?_) <;> (intro hb;(try rw [hb]);(try simp only [bb] at hb);(try (exfalso;first | omega | exact hb trivial)))) | (apply endS trivial;rotate_left;(· exact eva);(· rfl);try refine⟨?_,rfl⟩) | fail)
 all_goals (congr 1;omega)
end Go.Abs
