/- Laws of functions: a field that runs, by the reference. Conditions: the laws of what they call. -/
import Derived.Test.YtaacdckenhnocaaFilmsL54
namespace Go.Abs
set_option linter.unusedSimpArgs false
set_option linter.unusedVariables false
set_option maxHeartbeats 8000000
set_option maxRecDepth 20000
def spec_l03Step_r0 :List SOper :=[
 ⟨some 4,none,.alloc [(.slice none 0 0),(.slice none 0 0),(.slice none 0 0)],0⟩]
def spec_l03Step_r1 (i_spec_l03Half :FuncId) :List SOper :=[
 ⟨some 9,none,.mov (.tmp 0),0⟩,
 ⟨some 10,none,.mov (.tmp 1),0⟩,
 ⟨some 11,none,.call (.func i_spec_l03Half) [(.tmp 9),(.tmp 10)],3⟩,
 ⟨some 5,none,.alloc [(.slice none 0 0),(.slice none 0 0),(.slice none 0 0)],0⟩,
 ⟨none,none,.store 3 (.tmp 5) (.tmp 11),15⟩]
def spec_l03Step_r2 (i_spec_l02Own :FuncId) :List SOper :=[
 ⟨some 12,none,.call (.func i_spec_l02Own) [(.tmp 5)],0⟩,
 ⟨some 6,none,.alloc [(.slice none 0 0),(.slice none 0 0),(.slice none 0 0)],0⟩,
 ⟨none,none,.store 3 (.tmp 6) (.tmp 12),3⟩]
def spec_l03Step_r3 :List SOper :=[
 ⟨some 7,none,.mov (.const (.int .i64 0)),0⟩]
def spec_l03Step_r4 :List SOper :=[
 ⟨some 13,none,.mov (.tmp 7),0⟩,
 ⟨some 14,none,.mov (.tmp 0),0⟩,
 ⟨some 15,none,.nilCheck (.tmp 14),2⟩,
 ⟨some 16,none,.fieldAddr 1 (.tmp 15),6⟩,
 ⟨some 17,none,.load1 (.tmp 16),14⟩,
 ⟨some 18,none,.bin .lss .other (.tmp 13) (.tmp 17),31⟩]
def spec_l03Step_r5 :List SOper :=[
 ⟨some 8,none,.mov (.const (.int .i64 0)),0⟩]
def spec_l03Step_r6 :List SOper :=[
 ⟨some 21,none,.mov (.tmp 8),0⟩,
 ⟨some 22,none,.mov (.tmp 0),0⟩,
 ⟨some 23,none,.nilCheck (.tmp 22),2⟩,
 ⟨some 24,none,.fieldAddr 0 (.tmp 23),6⟩,
 ⟨some 25,none,.load1 (.tmp 24),14⟩,
 ⟨some 26,none,.bin .lss .other (.tmp 21) (.tmp 25),31⟩]
def spec_l03Step_r7 (i_spec_l03At i_spec_l03Rest :FuncId) :List SOper :=[
 ⟨some 29,none,.fieldAddr 0 (.tmp 6),0⟩,
 ⟨some 30,none,.load1 (.tmp 29),1⟩,
 ⟨some 31,none,.mov (.tmp 0),0⟩,
 ⟨some 32,none,.mov (.tmp 8),0⟩,
 ⟨some 33,none,.mov (.tmp 7),0⟩,
 ⟨some 34,none,.call (.func i_spec_l03At) [(.tmp 31),(.tmp 32),(.tmp 33)],28⟩,
 ⟨some 35,none,.mov (.tmp 0),0⟩,
 ⟨some 36,none,.mov (.tmp 8),0⟩,
 ⟨some 37,none,.mov (.tmp 7),0⟩,
 ⟨some 38,none,.call (.func i_spec_l03Rest) [(.tmp 35),(.tmp 5),(.tmp 36),(.tmp 37)],508⟩,
 ⟨some 39,none,.indexAddrS 1 (.tmp 30) (.tmp 34),1023⟩,
 ⟨none,none,.store 1 (.tmp 39) (.tmp 38),2047⟩]
def spec_l03Step_r8 :List SOper :=[
 ⟨some 27,none,.mov (.tmp 8),0⟩,
 ⟨some 28,none,.bin .add .other (.tmp 27) (.const (.int .i64 1)),1⟩,
 ⟨some 8,none,.mov (.tmp 28),3⟩]
def spec_l03Step_l9 (i_spec_l03At i_spec_l03Rest :FuncId) :SCode :=(.kp [0,4,5,6,7,8] (.seq (.seq (.region spec_l03Step_r6 false) (.kp [0,4,5,6,7,8,26] (.cond (.tmp 26) .skip (.exit 2)))) (.kp [0,4,5,6,7,8] (.seq (.block 3 (.region (spec_l03Step_r7 i_spec_l03At i_spec_l03Rest) true)) (.kp [0,4,5,6,7,8] (.region spec_l03Step_r8 false))))))
def spec_l03Step_r10 :List SOper :=[
 ⟨some 19,none,.mov (.tmp 7),0⟩,
 ⟨some 20,none,.bin .add .other (.tmp 19) (.const (.int .i64 1)),1⟩,
 ⟨some 7,none,.mov (.tmp 20),3⟩]
def spec_l03Step_l11 (i_spec_l03At i_spec_l03Rest :FuncId) :SCode :=(.kp [0,4,5,6,7] (.seq (.seq (.region spec_l03Step_r4 false) (.kp [0,4,5,6,7,18] (.cond (.tmp 18) .skip (.exit 0)))) (.kp [0,4,5,6,7] (.seq (.block 1 (.seq (.region spec_l03Step_r5 false) (.kp [0,4,5,6,7,8] (.block 2 (.loop (spec_l03Step_l9 i_spec_l03At i_spec_l03Rest)))))) (.kp [0,4,5,6,7] (.region spec_l03Step_r10 false))))))
def spec_l03Step_r12 :List SOper :=[
 ⟨some 40,none,.loadN 3 (.tmp 6),0⟩,
 ⟨none,none,.store 3 (.tmp 4) (.tmp 40),1⟩]
def spec_l03Step (i_spec_l03Half i_spec_l02Own i_spec_l03At i_spec_l03Rest :FuncId) :SFunc :=⟨41,[.cellN 4 3],(.kp [0,1] (.seq (.region spec_l03Step_r0 false) (.kp [0,1,4] (.seq (.region (spec_l03Step_r1 i_spec_l03Half) false) (.kp [0,4,5] (.seq (.region (spec_l03Step_r2 i_spec_l02Own) false) (.kp [0,4,5,6] (.seq (.seq (.region spec_l03Step_r3 false) (.kp [0,4,5,6,7] (.block 0 (.loop (spec_l03Step_l11 i_spec_l03At i_spec_l03Rest))))) (.kp [4,6] (.seq (.region spec_l03Step_r12 false) .ret))))))))))⟩
theorem spec_l03Step_r7_dr {i_spec_l03At i_spec_l03Rest :FuncId} :drawOkW wStat (spec_l03Step_r7 i_spec_l03At i_spec_l03Rest)=true :=by kernel_rfl
attribute [push_cast] spec_l03Step_r7_dr
def spec_l03Step_ok (c :Contract) :Prop :=∀ (σ :Heap)(b o p :Nat)(W H :Nat)(wr :Bool)(sv lv ev xv yv :Value)(N :Nat)(sp lo e x y :List Nat),PtAt σ b o [.int .i64 W,.int .i64 H,.bool wr,sv,lv]→PtAt σ p 0 [ev,xv,yv]→ShR σ sv lv sp lo→FlR σ ev xv yv e x y→3 ≤ W→W ≤ 16→3 ≤ H→H ≤ 16→W * H=N→sp.length=N→lo.length=N→e.length=N→x.length=N→y.length=N →
 Ret c [.pointer (some ⟨b,o,none⟩),.pointer (some ⟨p,0,none⟩)] σ fun v σ' =>v=fV (slV σ.length N) (slV (σ.length+1) N) (slV (σ.length+2) N) ∧
  σ'=σ++[rowO (stepE W H wr sp lo e (halfX W H wr e x) (halfY W H wr e y)),rowO (halfX W H wr e x),rowO (halfY W H wr e y)]
theorem spec_l03Step_law {C :Ctab}{i1 i2 i3 i4 :FuncId}{c1 c2 c3 c4 :Contract}(h1 :Has C i1 c1 spec_l03Half_ok)(h2 :Has C i2 c2 spec_l02Own_ok)(h3 :Has C i3 c3 spec_l03At_ok)(h4 :Has C i4 c4 spec_l03Rest_ok) :spec_l03Step_ok (gcC C (spec_l03Step i1 i2 i3 i4) true) :=by
 intro σ b o p W H wr sv lv ev xv yv N sp lo e x y hs hp ⟨r1,r2⟩ ⟨r3,r4,r5⟩ a1 a2 a3 a4 hN e1 e2 e3 e4 e5
 have hN2 :W * H ≤ 256 :=Nat.mul_le_mul a2 a4
 obtain⟨X,hX⟩ :∃ X,X=halfX W H wr e x :=⟨_,rfl⟩
 obtain⟨Y,hY⟩ :∃ Y,Y=halfY W H wr e y :=⟨_,rfl⟩
 have lX :X.length=N :=by rw [hX,newM_length];exact e4
 have lY :Y.length=N :=by rw [hY,newM_length];exact e5
 obtain⟨g,hg⟩ :∃ g,g=seF W H wr sp lo e X Y :=⟨_,rfl⟩
 show Ret _ _ _ fun v σ' =>v=fV (slV σ.length N) (slV (σ.length+1) N) (slV (σ.length+2) N)∧σ'=σ++[rowO (newM (seF W H wr sp lo e (halfX W H wr e x) (halfY W H wr e y)) e),rowO (halfX W H wr e x),rowO (halfY W H wr e y)]
 rw [← hX,← hY,← hg]
 refine ret_gc rfl rfl ?_
 repeat' (first | refine ff ?_ | ((first | refine sR ?_ ?_ | refine sC ?_ ?_) <;> (intro hb;(try rw [hb]);(try simp only [bb] at hb);(try (exfalso;first | omega | exact hb trivial)))) | (apply endS trivial;rotate_left;(· exact eva);(· rfl);try refine⟨?_,rfl⟩) | fail)
 (apply EvR.aCall h1.at_;(· exact eva);(· exact  h1.ok _ b o p W H wr sv lv ev xv yv N e x y (hs.ext _) (hp.ext _) ⟨r3.ext _,r4.ext _,r5.ext _⟩ a1 a2 a3 a4 hN e3 e4 e5);(rintro _ _ ⟨rfl,rfl⟩;refine EvR.nrm ?_))
 rw [← hX,← hY]
 repeat' (first | refine ff ?_ | ((first | refine sR ?_ ?_ | refine sC ?_ ?_) <;> (intro hb;(try rw [hb]);(try simp only [bb] at hb);(try (exfalso;first | omega | exact hb trivial)))) | (apply endS trivial;rotate_left;(· exact eva);(· rfl);try refine⟨?_,rfl⟩) | fail)
 have q1 :∀ l :Heap,l[1]? = some (rowO e)→Row (σ++l) 1 (slV (σ.length+1) N) e.length (f32s e) :=fun l hl =>by rw [← e3];exact Row.own hl (by omega) (by rw [f32s_length];omega)
 have q2 :∀ l :Heap,l[2]? = some (rowO X)→Row (σ++l) 1 (slV (σ.length+2) N) X.length (f32s X) :=fun l hl =>by rw [← lX];exact Row.own hl (by omega) (by rw [f32s_length];omega)
 have q3 :∀ l :Heap,l[3]? = some (rowO Y)→Row (σ++l) 1 (slV (σ.length+3) N) Y.length (f32s Y) :=fun l hl =>by rw [← lY];exact Row.own hl (by omega) (by rw [f32s_length];omega)
 (apply EvR.aCall h2.at_;(· exact eva);(· exact  h2.ok _ (σ.length+4) (slV (σ.length+1) N) (slV (σ.length+2) N) (slV (σ.length+3) N) e X Y (PtAt.own rfl) ⟨q1 _ rfl,q2 _ rfl,q3 _ rfl⟩ (by omega) (by omega) (by omega));(rintro _ _ ⟨rfl,rfl⟩;refine EvR.nrm ?_))
 rw [e3,lX,lY]
 repeat' (first | refine ff ?_ | ((first | refine sR ?_ ?_ | refine sC ?_ ?_) <;> (intro hb;(try rw [hb]);(try simp only [bb] at hb);(try (exfalso;first | omega | exact hb trivial)))) | (apply endS trivial;rotate_left;(· exact eva);(· rfl);try refine⟨?_,rfl⟩) | fail)
 refine Ev.whlH (S :=Nat) (fun cy =>H - cy) (fun cy =>[(7,.int .i64 cy)]) (fun cy =>σ++[⟨[.slice none 0 0,.slice none 0 0,.slice none 0 0],0,true⟩,rowO e,rowO X,rowO Y,⟨[slV (σ.length+1) N,slV (σ.length+2) N,slV (σ.length+3) N],0,true⟩,rowO (preM g e (W * cy)),rowO X,rowO Y,
  ⟨[slV (σ.length+5) N,slV (σ.length+6) N,slV (σ.length+7) N],0,true⟩]) (fun cy =>cy ≤ H) 0 (by exact tF) (by rw [Nat.mul_zero,preM_zero]) (Nat.zero_le _) ?_
 rintro cy F hF hi
 (simp only [List.cons_append,List.nil_append,↓fget_cons,fkeep_cons,fkeep_nil,Nat.reduceEqDiff,reduceIte] at hF;subst hF)
 by_cases hlt :cy < H
 ·repeat' (first | refine ff ?_ | ((first | refine sR ?_ ?_ | refine sC ?_ ?_) <;> (intro hb;(try rw [hb]);(try simp only [bb] at hb);(try (exfalso;first | omega | exact hb trivial)))) | (apply endS trivial;rotate_left;(· exact eva);(· rfl);try refine⟨?_,rfl⟩) | fail)
  refine Ev.whlH (S :=Nat) (fun cx =>W - cx) (fun cx =>[(8,.int .i64 cx)]) (fun cx =>σ++[⟨[.slice none 0 0,.slice none 0 0,.slice none 0 0],0,true⟩,rowO e,rowO X,rowO Y,⟨[slV (σ.length+1) N,slV (σ.length+2) N,slV (σ.length+3) N],0,true⟩,rowO (preM g e (W * cy+cx)),rowO X,rowO Y,
   ⟨[slV (σ.length+5) N,slV (σ.length+6) N,slV (σ.length+7) N],0,true⟩]) (fun cx =>cx ≤ W) 0 (by exact tF) rfl (Nat.zero_le _) ?_
  rintro cx F hF hi2
  (simp only [List.cons_append,List.nil_append,↓fget_cons,fkeep_cons,fkeep_nil,Nat.reduceEqDiff,reduceIte] at hF;subst hF)
  have hWs :W * cy+W ≤ N :=by rw [← hN,← Nat.mul_succ];exact Nat.mul_le_mul_left W hlt
  by_cases hlt2 :cx < W
  ·obtain⟨j,hj⟩ :∃ j,j=W * cy+cx :=⟨_,rfl⟩
   have at0 :atC W H cx cy=(j :Int) :=by rw [atC_cell hlt2 hlt,hj]
   have vg :seC W H wr sp lo e X Y cx cy (W * cy+cx)=g j :=by rw [hg,hj,seF_at hlt2]
   have lg :=preM_length (g :=g) (xs :=e) (j :=j) (by omega)
   have qg :=preM_set (g :=g) (xs :=e) (j :=j) (by omega)
   rw [← hj]
   repeat' (first | refine ff ?_ | (apply EvR.aCall h3.at_;(· exact eva);(· apply h3.ok <;> exact sid);(rintro _ _ ⟨rfl,rfl⟩;refine EvR.nrm ?_;try simp only [at0])) | ((first | refine sR ?_ ?_ | refine sC ?_ ?_) <;> (intro hb;(try rw [hb]);(try simp only [bb] at hb);(try (exfalso;first | omega | exact hb trivial)))) | (apply endS trivial;rotate_left;(· exact eva);(· rfl);try refine⟨?_,rfl⟩) | fail)
   (apply EvR.aCall h4.at_;(· exact eva);(· exact  h4.ok _ b o (σ.length+4) 0 W H wr sv lv (slV (σ.length+1) N) (slV (σ.length+2) N) (slV (σ.length+3) N) N sp lo e X Y cx cy (hs.ext _) (PtAt.own rfl) ⟨r1.ext _,r2.ext _⟩ ⟨q1 _ rfl,q2 _ rfl,q3 _ rfl⟩ a1 a2 a3 a4 hN e1 e2 e3 lX lY hlt2 hlt);(rintro _ _ ⟨rfl,rfl⟩;refine EvR.nrm ?_))
   rw [vg]
   repeat' (first | refine ff ?_ | ((first | refine sR ?_ ?_ | refine sC ?_ ?_) <;> (intro hb;(try rw [hb]);(try simp only [bb] at hb);(try (exfalso;first | omega | exact hb trivial)))) | (apply endS trivial;rotate_left;(· exact eva);(· rfl);try refine⟨?_,rfl⟩) | fail)
   exact⟨cx+1,by omega,by exact tF,by rw [qg,hj];rfl,by omega⟩
  ·obtain rfl :cx=W :=by omega
   repeat' (first | refine ff ?_ | ((first | refine sR ?_ ?_ | refine sC ?_ ?_) <;> (intro hb;(try rw [hb]);(try simp only [bb] at hb);(try (exfalso;first | omega | exact hb trivial)))) | (apply endS trivial;rotate_left;(· exact eva);(· rfl);try refine⟨?_,rfl⟩) | fail)
   exact⟨cy+1,by omega,by exact tF,by rw [Nat.mul_succ],by omega⟩
 ·obtain rfl :cy=H :=by omega
  repeat' (first | refine ff ?_ | ((first | refine sR ?_ ?_ | refine sC ?_ ?_) <;> (intro hb;(try rw [hb]);(try simp only [bb] at hb);(try (exfalso;first | omega | exact hb trivial)))) | (apply endS trivial;rotate_left;(· exact eva);(· rfl);try refine⟨?_,rfl⟩) | fail)
  rw [hN,show preM g e N=newM g e from by rw [← e3];exact preM_end]
  (apply endR [5,6,7] trivial ⟨rfl,rfl⟩;(· exact eva);(· simp [gcTop,gcVal,gcLeaf,gcLeaves,gcVals,constOk,gc_lt,gc_lt0]);(· rfl);(· decide);(· simp [allConst,f32s,i64s,b8s,bools,constOk]))
end Go.Abs
