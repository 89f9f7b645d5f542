/- Laws of functions: the bytes of a sheet, by the program and by the reference. Conditions: the laws of what they call. -/
import Derived.Test.YtaacdckenhnocaaFilmsL83
import Derived.Test.YtaacdckenhnocaaFilmsL37
namespace Go.Abs
set_option linter.unusedSimpArgs false
set_option linter.unusedVariables false
set_option maxHeartbeats 8000000
set_option maxRecDepth 20000
def impl_sheetBytes_r0 :List SOper :=[
 ⟨some 1,none,.box (.tmp 0),0⟩,
 ⟨some 2,none,.mov (.const (.slice none 0 0)),0⟩]
def impl_sheetBytes_r1 :List SOper :=[
 ⟨some 3,none,.mov (.const (.int .u8 0)),0⟩]
def impl_sheetBytes_r2 :List SOper :=[
 ⟨some 7,none,.fieldAddr 2 (.tmp 1),0⟩,
 ⟨some 8,none,.load1 (.tmp 7),1⟩]
def impl_sheetBytes_r3 :List SOper :=[
 ⟨some 3,none,.mov (.const (.int .u8 1)),0⟩]
def impl_sheetBytes_r4 :List SOper :=[
 ⟨some 9,none,.buildSlice 1 4 [(.int .u8 0),(.int .u8 0),(.int .u8 0),(.int .u8 0)] [(0,1,(.const (.int .u8 87))),(1,1,(.const (.int .u8 65))),(2,1,(.const (.int .u8 86))),(3,1,(.const (.int .u8 49)))],0⟩,
 ⟨some 10,none,.conv .mark (.tmp 9),1⟩,
 ⟨some 11,none,.fieldAddr 0 (.tmp 1),0⟩,
 ⟨some 12,none,.load1 (.tmp 11),4⟩,
 ⟨some 13,none,.conv (.toInt .u8) (.tmp 12),12⟩,
 ⟨some 14,none,.fieldAddr 1 (.tmp 1),0⟩,
 ⟨some 15,none,.load1 (.tmp 14),32⟩,
 ⟨some 16,none,.conv (.toInt .u8) (.tmp 15),96⟩,
 ⟨some 17,none,.mov (.tmp 3),0⟩,
 ⟨some 18,none,.buildSlice 1 3 [(.int .u8 0),(.int .u8 0),(.int .u8 0)] [(0,1,(.tmp 13)),(1,1,(.tmp 16)),(2,1,(.tmp 17))],508⟩,
 ⟨some 19,none,.append 1 1 (.tmp 10) (.tmp 18),1023⟩,
 ⟨some 4,none,.mov (.tmp 19),2047⟩]
def impl_sheetBytes_r5 (i_slices_Concat_float32 :FuncId) :List SOper :=[
 ⟨some 20,none,.fieldAddr 3 (.tmp 1),0⟩,
 ⟨some 21,none,.load1 (.tmp 20),1⟩,
 ⟨some 22,none,.fieldAddr 4 (.tmp 1),0⟩,
 ⟨some 23,none,.load1 (.tmp 22),4⟩,
 ⟨some 24,none,.buildSlice 1 2 [(.slice none 0 0),(.slice none 0 0)] [(0,1,(.tmp 21)),(1,1,(.tmp 23))],15⟩,
 ⟨some 25,none,.call (.func i_slices_Concat_float32) [(.tmp 24)],31⟩,
 ⟨some 26,none,.len false (.tmp 25),63⟩,
 ⟨some 27,none,.mov (.const (.int .i64 0)),0⟩]
def impl_sheetBytes_r6 :List SOper :=[
 ⟨some 28,none,.bin .lss .other (.tmp 27) (.tmp 26),0⟩]
def impl_sheetBytes_r7 :List SOper :=[
 ⟨some 29,none,.indexAddrS 1 (.tmp 25) (.tmp 27),0⟩,
 ⟨some 30,none,.load1 (.tmp 29),1⟩,
 ⟨some 6,none,.mov (.tmp 30),3⟩]
def impl_sheetBytes_r8 (i_impl_BitsOf i_impl_lowBytes :FuncId) :List SOper :=[
 ⟨some 31,none,.mov (.tmp 4),0⟩,
 ⟨some 32,none,.mov (.tmp 6),0⟩,
 ⟨some 33,none,.call (.func i_impl_BitsOf) [(.tmp 32)],2⟩,
 ⟨some 34,none,.call (.func i_impl_lowBytes) [(.tmp 33),(.const (.int .i64 4))],6⟩,
 ⟨some 35,none,.append 1 1 (.tmp 31) (.tmp 34),15⟩,
 ⟨some 4,none,.mov (.tmp 35),31⟩]
def impl_sheetBytes_r9 :List SOper :=[
 ⟨some 36,none,.bin .add .other (.tmp 27) (.const (.int .i64 1)),0⟩,
 ⟨some 27,none,.mov (.tmp 36),1⟩]
def impl_sheetBytes_l10 (i_impl_BitsOf i_impl_lowBytes :FuncId) :SCode :=(.kp [4,25,26,27] (.seq (.region impl_sheetBytes_r6 false) (.kp [4,25,26,27,28] (.seq (.cond (.tmp 28) .skip (.exit 0)) (.kp [4,25,26,27] (.seq (.block 1 (.seq (.region impl_sheetBytes_r7 false) (.kp [4,6,25,26,27] (.region (impl_sheetBytes_r8 i_impl_BitsOf i_impl_lowBytes) false)))) (.kp [4,25,26,27] (.region impl_sheetBytes_r9 false))))))))
def impl_sheetBytes_r11 :List SOper :=[
 ⟨some 37,none,.mov (.tmp 4),0⟩,
 ⟨some 2,none,.mov (.tmp 37),1⟩]
def impl_sheetBytes (i_slices_Concat_float32 i_impl_BitsOf i_impl_lowBytes :FuncId) :SFunc :=⟨38,[.tmp 2],(.kp [0] (.seq (.region impl_sheetBytes_r0 false) (.kp [1] (.seq (.region impl_sheetBytes_r1 false) (.kp [1,3] (.seq (.seq (.region impl_sheetBytes_r2 false) (.kp [1,3,8] (.cond (.tmp 8) (.region impl_sheetBytes_r3 false) .skip))) (.kp [1,3] (.seq (.region impl_sheetBytes_r4 false) (.kp [1,4] (.seq (.seq (.region (impl_sheetBytes_r5 i_slices_Concat_float32) false) (.kp [4,25,26,27] (.block 0 (.loop (impl_sheetBytes_l10 i_impl_BitsOf i_impl_lowBytes))))) (.kp [4] (.seq (.region impl_sheetBytes_r11 false) .ret))))))))))))⟩
theorem EvR.mkC {C :Ctab}{F :Frame}{τ l :Heap} {Q}{d n i k :Nat}{rest :List SOper}{x :Operand}{cells :List Value}(h1 :eval F x = .slice (some ⟨τ.length+i,0,none⟩) k k)(h3 :l[i]? = some ⟨cells,1,true⟩)(h4 :cells.length=k)
 (h :EvR C rest ((d,.slice (some ⟨τ.length+i,0,none⟩) k k)::F) (τ++l) Q) :EvR C (⟨some d,none,.conv .mark x,n⟩::rest) F (τ++l) Q :=by
 refine EvR.opS (σ' :=τ++l) ?_ h
 have hrow :rowAt (τ++l) 1 ⟨τ.length+i,0,none⟩ k=some ⟨cells,1,true⟩ :=rowAt_mk (by rw [hget];exact h3) rfl (by simp [h4]) (by omega)
 simp only [evOp,h1,aConv,hrow]
 rw [if_pos ⟨trivial,trivial⟩]
def shX (sp lo :List Nat)(i :Nat) :Nat :=bitsC ((sp++lo).getD i 0)
def shHd (w h :Nat)(wr :Bool) :List UInt8 :=[87,65,86,49,byteOf (w :Int),byteOf (h :Int),if wr then 1 else 0]
def shB (w h :Nat)(wr :Bool)(sp lo :List Nat) :List UInt8 :=shHd w h wr++words (shX sp lo) 0 (sp.length+lo.length)
theorem shB_length (w h :Nat)(wr :Bool)(sp lo :List Nat) :(shB w h wr sp lo).length=7+4 * (sp.length+lo.length) :=by
 rw [shB,List.length_append,words_length];rfl
def in32L (xs :List Nat) :Prop :=∀ x ∈ xs,x < 4294967296
theorem in32L_get {xs :List Nat}(h :in32L xs)(i :Nat) :xs.getD i 0 < 4294967296 :=by
 rw [List.getD_eq_getElem?_getD]
 cases hx :xs[i]? with
 | none =>simp
 | some x =>exact h x (List.mem_of_getElem? hx)
theorem in32L_app {xs ys :List Nat}(h1 :in32L xs)(h2 :in32L ys) :in32L (xs++ys) :=fun x hx =>by
 rcases List.mem_append.1 hx with hx | hx
 ·exact h1 x hx
 ·exact h2 x hx
def impl_sheetBytes_ok (c :Contract) :Prop :=∀ (σ :Heap)(w h :Nat)(wr :Bool)(sv lv :Value)(sp lo :List Nat),ShR σ sv lv sp lo→0 < sp.length→sp.length+lo.length ≤ 200000→in32L sp→in32L lo →
 Ret c [shV w h wr sv lv] σ fun v σ' =>v=slV σ.length (shB w h wr sp lo).length∧σ'=σ++[⟨b8s (shB w h wr sp lo),1,true⟩]
theorem impl_sheetBytes_law {C :Ctab}{i1 i2 i3 :FuncId}{c1 c2 c3 :Contract}(h1 :Has C i1 c1 slices_Concat_float32_ok)(h2 :Has C i2 c2 impl_BitsOf_ok)(h3 :Has C i3 c3 impl_lowBytes_ok) :impl_sheetBytes_ok (gcC C (impl_sheetBytes i1 i2 i3) true) :=by
 intro σ w h wr sv lv sp lo ⟨r1,r2⟩ n0 nn l1 l2
 have k1 :=r1.ok
 have k2 :=r2.ok
 have hj :joinR [(sv,sp),(lv,lo)]=sp++lo :=by simp [joinR]
 have hl :(sp++lo).length=sp.length+lo.length :=List.length_append
 have h32 :=in32L_get (in32L_app l1 l2)
 rw [shB_length]
 unfold shB
 obtain⟨x,hx⟩ :∃ x,x=shX sp lo :=⟨_,rfl⟩
 obtain⟨N,hN⟩ :∃ N,N=sp.length+lo.length :=⟨_,rfl⟩
 have hxi :∀ i,bitsC ((sp++lo).getD i 0)=x i :=fun i =>by rw [hx];rfl
 have hxl :∀ i,x i < 4294967296 :=fun i =>by rw [← hxi];exact bitsC_lt (h32 i)
 rw [← hx,← hN]
 have hw0 :words x 0 0=[] :=rfl
 cases wr
 ·refine ret_gc rfl rfl ?_
  repeat' (first | refine ff ?_ | ((first | refine sR ?_ ?_ | refine sC ?_ ?_) <;> (intro hb;(try rw [hb]);(try simp only [bb] at hb);(try (exfalso;first | omega | exact hb trivial)))) | (apply endS trivial;rotate_left;(· exact eva);(· rfl);try refine⟨?_,rfl⟩) | fail)
  refine EvR.mkC (i :=1) rfl rfl rfl ?_
  repeat' (first | refine ff ?_ | ((first | refine sR ?_ ?_ | refine sC ?_ ?_) <;> (intro hb;(try rw [hb]);(try simp only [bb] at hb);(try (exfalso;first | omega | exact hb trivial)))) | (apply endS trivial;rotate_left;(· exact eva);(· rfl);try refine⟨?_,rfl⟩) | fail)
  (apply EvR.aCall h1.at_;(· exact eva);(· exact  h1.ok _ (slV (σ.length+3) 2) [(sv,sp),(lv,lo)] (Row.own rfl (by omega) rfl) (by intro r hr;simp only [List.mem_cons,List.not_mem_nil,or_false] at hr;rcases hr with rfl | rfl;exact r1.ext _;exact r2.ext _) (by simp) (by rw [hj,hl];omega) (by rw [hj,hl];omega));(rintro _ _ ⟨rfl,rfl⟩;refine EvR.nrm ?_))
  rw [hj,hl,← hN]
  rw [show [Value.int .u8 87,.int .u8 65,.int .u8 86,.int .u8 49,.int .u8 (IntKind.u8.wrap (w :Int)),.int .u8 (IntKind.u8.wrap (h :Int)),.int .u8 0]=b8s (shHd w h false++words x 0 0) from by rw [u8_wrap,u8_wrap];rfl]
  repeat' (first | refine ff ?_ | ((first | refine sR ?_ ?_ | refine sC ?_ ?_) <;> (intro hb;(try rw [hb]);(try simp only [bb] at hb);(try (exfalso;first | omega | exact hb trivial)))) | (apply endS trivial;rotate_left;(· exact eva);(· rfl);try refine⟨?_,rfl⟩) | fail)
  refine Ev.whlH (S :=Nat × Heap) (fun st =>N - st.1) (fun st =>[(4,.slice (some ⟨σ.length+1,0,none⟩) (7+4 * st.1) (7+4 * st.1)),(27,.int .i64 st.1)])
   (fun st =>σ++(⟨[.int .i64 w,.int .i64 h,.bool false,sv,lv],0,true⟩::⟨b8s (shHd w h false++words x 0 st.1),1,true⟩::⟨[.int .u8 (IntKind.u8.wrap (w :Int)),.int .u8 (IntKind.u8.wrap (h :Int)),.int .u8 0],1,true⟩::⟨[sv,lv],1,true⟩::rowO (sp++lo)::st.2))
   (fun st =>st.1 ≤ N) (0,[]) (by exact tF) rfl (Nat.zero_le _) ?_
  rintro⟨i,rub⟩ F hF hi
  dsimp only at hi hF ⊢
  (simp only [List.cons_append,List.nil_append,↓fget_cons,fkeep_cons,fkeep_nil,Nat.reduceEqDiff,reduceIte] at hF;subst hF)
  have hlen :(shHd w h false++words x 0 i).length=7+4 * i :=by rw [List.length_append,words_length];rfl
  by_cases hlt :i < N
  ·have hst :shHd w h false++words x 0 (i+1)=(shHd w h false++words x 0 i)++lowB (x i) 4 :=by rw [words_succ,Nat.zero_add,List.append_assoc]
   have hl4 :=lowB_length (x i) 4
   generalize shHd w h false++words x 0 i=outi at *
   repeat' (first | refine ff ?_ | ((first | refine sR ?_ ?_ | refine sC ?_ ?_) <;> (intro hb;(try rw [hb]);(try simp only [bb] at hb);(try (exfalso;first | omega | exact hb trivial)))) | (apply endS trivial;rotate_left;(· exact eva);(· rfl);try refine⟨?_,rfl⟩) | fail)
   (apply EvR.aCall h2.at_;(· exact eva);(· exact  h2.ok _ _ (h32 i));(rintro _ _ ⟨rfl,rfl⟩;refine EvR.nrm ?_))
   rw [hxi i]
   repeat' (first | refine ff ?_ | ((first | refine sR ?_ ?_ | refine sC ?_ ?_) <;> (intro hb;(try rw [hb]);(try simp only [bb] at hb);(try (exfalso;first | omega | exact hb trivial)))) | (apply endS trivial;rotate_left;(· exact eva);(· rfl);try refine⟨?_,rfl⟩) | fail)
   (apply EvR.aCall h3.at_;(· exact eva);(· exact  h3.ok _ (x i) 4 (hxl i) (by omega));(rintro _ _ ⟨rfl,rfl⟩;refine EvR.nrm ?_))
   simp only [slV]
   repeat' (first | refine ff ?_ | ((first | refine sR ?_ ?_ | refine sC ?_ ?_) <;> (intro hb;(try rw [hb]);(try simp only [bb] at hb);(try (exfalso;first | omega | exact hb trivial)))) | (apply endS trivial;rotate_left;(· exact eva);(· rfl);try refine⟨?_,rfl⟩) | fail)
   exact⟨(i+1,rub++[⟨b8s (lowB (x i) 4),1,true⟩]),by dsimp only;omega,by rw [show 7+4 * (i+1)=7+4 * i+4 from by omega];exact tF,by dsimp only;rw [hst,← b8s_append],by dsimp only;omega⟩
  ·obtain rfl :i=N :=by omega
   repeat' (first | refine ff ?_ | ((first | refine sR ?_ ?_ | refine sC ?_ ?_) <;> (intro hb;(try rw [hb]);(try simp only [bb] at hb);(try (exfalso;first | omega | exact hb trivial)))) | (apply endS trivial;rotate_left;(· exact eva);(· rfl);try refine⟨?_,rfl⟩) | fail)
   (apply endR [1] trivial ⟨rfl,rfl⟩;(· exact eva);(· simp [gcTop,gcVal,gcLeaf,gcLeaves,gcVals,constOk,gc_lt,gc_lt0]);(· rfl);(· decide);(· simp [allConst,f32s,i64s,b8s,bools,constOk]))
 ·refine ret_gc rfl rfl ?_
  repeat' (first | refine ff ?_ | ((first | refine sR ?_ ?_ | refine sC ?_ ?_) <;> (intro hb;(try rw [hb]);(try simp only [bb] at hb);(try (exfalso;first | omega | exact hb trivial)))) | (apply endS trivial;rotate_left;(· exact eva);(· rfl);try refine⟨?_,rfl⟩) | fail)
  refine EvR.mkC (i :=1) rfl rfl rfl ?_
  repeat' (first | refine ff ?_ | ((first | refine sR ?_ ?_ | refine sC ?_ ?_) <;> (intro hb;(try rw [hb]);(try simp only [bb] at hb);(try (exfalso;first | omega | exact hb trivial)))) | (apply endS trivial;rotate_left;(· exact eva);(· rfl);try refine⟨?_,rfl⟩) | fail)
  (apply EvR.aCall h1.at_;(· exact eva);(· exact  h1.ok _ (slV (σ.length+3) 2) [(sv,sp),(lv,lo)] (Row.own rfl (by omega) rfl) (by intro r hr;simp only [List.mem_cons,List.not_mem_nil,or_false] at hr;rcases hr with rfl | rfl;exact r1.ext _;exact r2.ext _) (by simp) (by rw [hj,hl];omega) (by rw [hj,hl];omega));(rintro _ _ ⟨rfl,rfl⟩;refine EvR.nrm ?_))
  rw [hj,hl,← hN]
  rw [show [Value.int .u8 87,.int .u8 65,.int .u8 86,.int .u8 49,.int .u8 (IntKind.u8.wrap (w :Int)),.int .u8 (IntKind.u8.wrap (h :Int)),.int .u8 1]=b8s (shHd w h true++words x 0 0) from by rw [u8_wrap,u8_wrap];rfl]
  repeat' (first | refine ff ?_ | ((first | refine sR ?_ ?_ | refine sC ?_ ?_) <;> (intro hb;(try rw [hb]);(try simp only [bb] at hb);(try (exfalso;first | omega | exact hb trivial)))) | (apply endS trivial;rotate_left;(· exact eva);(· rfl);try refine⟨?_,rfl⟩) | fail)
  refine Ev.whlH (S :=Nat × Heap) (fun st =>N - st.1) (fun st =>[(4,.slice (some ⟨σ.length+1,0,none⟩) (7+4 * st.1) (7+4 * st.1)),(27,.int .i64 st.1)])
   (fun st =>σ++(⟨[.int .i64 w,.int .i64 h,.bool true,sv,lv],0,true⟩::⟨b8s (shHd w h true++words x 0 st.1),1,true⟩::⟨[.int .u8 (IntKind.u8.wrap (w :Int)),.int .u8 (IntKind.u8.wrap (h :Int)),.int .u8 1],1,true⟩::⟨[sv,lv],1,true⟩::rowO (sp++lo)::st.2))
   (fun st =>st.1 ≤ N) (0,[]) (by exact tF) rfl (Nat.zero_le _) ?_
  rintro⟨i,rub⟩ F hF hi
  dsimp only at hi hF ⊢
  (simp only [List.cons_append,List.nil_append,↓fget_cons,fkeep_cons,fkeep_nil,Nat.reduceEqDiff,reduceIte] at hF;subst hF)
  have hlen :(shHd w h true++words x 0 i).length=7+4 * i :=by rw [List.length_append,words_length];rfl
  by_cases hlt :i < N
  ·have hst :shHd w h true++words x 0 (i+1)=(shHd w h true++words x 0 i)++lowB (x i) 4 :=by rw [words_succ,Nat.zero_add,List.append_assoc]
   have hl4 :=lowB_length (x i) 4
   generalize shHd w h true++words x 0 i=outi at *
   repeat' (first | refine ff ?_ | ((first | refine sR ?_ ?_ | refine sC ?_ ?_) <;> (intro hb;(try rw [hb]);(try simp only [bb] at hb);(try (exfalso;first | omega | exact hb trivial)))) | (apply endS trivial;rotate_left;(· exact eva);(· rfl);try refine⟨?_,rfl⟩) | fail)
   (apply EvR.aCall h2.at_;(· exact eva);(· exact  h2.ok _ _ (h32 i));(rintro _ _ ⟨rfl,rfl⟩;refine EvR.nrm ?_))
   rw [hxi i]
   repeat' (first | refine ff ?_ | ((first | refine sR ?_ ?_ | refine sC ?_ ?_) <;> (intro hb;(try rw [hb]);(try simp only [bb] at hb);(try (exfalso;first | omega | exact hb trivial)))) | (apply endS trivial;rotate_left;(· exact eva);(· rfl);try refine⟨?_,rfl⟩) | fail)
   (apply EvR.aCall h3.at_;(· exact eva);(· exact  h3.ok _ (x i) 4 (hxl i) (by omega));(rintro _ _ ⟨rfl,rfl⟩;refine EvR.nrm ?_))
   simp only [slV]
   repeat' (first | refine ff ?_ | ((first | refine sR ?_ ?_ | refine sC ?_ ?_) <;> (intro hb;(try rw [hb]);(try simp only [bb] at hb);(try (exfalso;first | omega | exact hb trivial)))) | (apply endS trivial;rotate_left;(· exact eva);(· rfl);try refine⟨?_,rfl⟩) | fail)
   exact⟨(i+1,rub++[⟨b8s (lowB (x i) 4),1,true⟩]),by dsimp only;omega,by rw [show 7+4 * (i+1)=7+4 * i+4 from by omega];exact tF,by dsimp only;rw [hst,← b8s_append],by dsimp only;omega⟩
  ·obtain rfl :i=N :=by omega
   repeat' (first | refine ff ?_ | ((first | refine sR ?_ ?_ | refine sC ?_ ?_) <;> (intro hb;(try rw [hb]);(try simp only [bb] at hb);(try (exfalso;first | omega | exact hb trivial)))) | (apply endS trivial;rotate_left;(· exact eva);(· rfl);try refine⟨?_,rfl⟩) | fail)
   (apply endR [1] trivial ⟨rfl,rfl⟩;(· exact eva);(· simp [gcTop,gcVal,gcLeaf,gcLeaves,gcVals,constOk,gc_lt,gc_lt0]);(· rfl);(· decide);(· simp [allConst,f32s,i64s,b8s,bools,constOk]))
end Go.Abs
