/- Laws of functions, some texts put together. Conditions: the laws of what they call. -/
import Derived.Test.YtaacdckenhnocaaFilmsL88
import Derived.Test.YtaacdckenhnocaaFilmsL69
namespace Go.Abs
set_option linter.unusedSimpArgs false
set_option linter.unusedVariables false
set_option maxHeartbeats 8000000
set_option maxRecDepth 20000
def slices_EqualFunc_Field_r0 :List SOper :=[
 ⟨some 6,none,.mov (.const (.bool false)),0⟩]
def slices_EqualFunc_Field_r1 :List SOper :=[
 ⟨some 10,none,.mov (.tmp 0),0⟩,
 ⟨some 11,none,.len false (.tmp 10),1⟩,
 ⟨some 12,none,.mov (.tmp 1),0⟩,
 ⟨some 13,none,.len false (.tmp 12),4⟩,
 ⟨some 14,none,.bin .neq .other (.tmp 11) (.tmp 13),15⟩]
def slices_EqualFunc_Field_r2 :List SOper :=[
 ⟨some 6,none,.mov (.const (.bool false)),0⟩]
def slices_EqualFunc_Field_r3 :List SOper :=[
 ⟨some 15,none,.mov (.tmp 0),0⟩,
 ⟨some 16,none,.len false (.tmp 15),1⟩,
 ⟨some 17,none,.mov (.const (.int .i64 0)),0⟩]
def slices_EqualFunc_Field_r4 :List SOper :=[
 ⟨some 18,none,.bin .lss .other (.tmp 17) (.tmp 16),0⟩]
def slices_EqualFunc_Field_r5 :List SOper :=[
 ⟨some 19,none,.mov (.tmp 17),0⟩,
 ⟨some 20,none,.indexAddrS 3 (.tmp 15) (.tmp 17),0⟩,
 ⟨some 21,none,.loadN 3 (.tmp 20),2⟩,
 ⟨some 8,none,.alloc [(.slice none 0 0),(.slice none 0 0),(.slice none 0 0)],0⟩,
 ⟨some 7,none,.mov (.tmp 19),15⟩,
 ⟨none,none,.store 3 (.tmp 8) (.tmp 21),31⟩]
def slices_EqualFunc_Field_r6 :List SOper :=[
 ⟨some 22,none,.mov (.tmp 1),0⟩,
 ⟨some 23,none,.mov (.tmp 7),0⟩,
 ⟨some 24,none,.indexAddrS 3 (.tmp 22) (.tmp 23),3⟩,
 ⟨some 25,none,.loadN 3 (.tmp 24),7⟩,
 ⟨some 9,none,.alloc [(.slice none 0 0),(.slice none 0 0),(.slice none 0 0)],0⟩,
 ⟨none,none,.store 3 (.tmp 9) (.tmp 25),31⟩]
def slices_EqualFunc_Field_r7 :List SOper :=[
 ⟨some 26,none,.mov (.tmp 2),0⟩,
 ⟨some 27,none,.loadN 3 (.tmp 8),0⟩,
 ⟨some 28,none,.loadN 3 (.tmp 9),0⟩,
 ⟨some 29,none,.call (.tmp 26) [(.tmp 27),(.tmp 28)],7⟩,
 ⟨some 30,none,.un .not (.tmp 29),15⟩]
def slices_EqualFunc_Field_r8 :List SOper :=[
 ⟨some 6,none,.mov (.const (.bool false)),0⟩]
def slices_EqualFunc_Field_r9 :List SOper :=[
 ⟨some 31,none,.bin .add .other (.tmp 17) (.const (.int .i64 1)),0⟩,
 ⟨some 17,none,.mov (.tmp 31),1⟩]
def slices_EqualFunc_Field_l10 :SCode :=(.kp [1,2,15,16,17] (.seq (.region slices_EqualFunc_Field_r4 false) (.kp [1,2,15,16,17,18] (.seq (.cond (.tmp 18) .skip (.exit 0)) (.kp [1,2,15,16,17] (.seq (.block 1 (.seq (.region slices_EqualFunc_Field_r5 false) (.kp [1,2,7,8,15,16,17] (.seq (.region slices_EqualFunc_Field_r6 false) (.kp [1,2,8,9,15,16,17] (.seq (.region slices_EqualFunc_Field_r7 false) (.kp [1,2,15,16,17,30] (.cond (.tmp 30) (.seq (.region slices_EqualFunc_Field_r8 false) .ret) .skip)))))))) (.kp [1,2,15,16,17] (.region slices_EqualFunc_Field_r9 false))))))))
def slices_EqualFunc_Field_r11 :List SOper :=[
 ⟨some 6,none,.mov (.const (.bool true)),0⟩]
def slices_EqualFunc_Field :SFunc :=⟨32,[.tmp 6],(.kp [0,1,2] (.seq (.region slices_EqualFunc_Field_r0 false) (.kp [0,1,2] (.seq (.seq (.region slices_EqualFunc_Field_r1 false) (.kp [0,1,2,14] (.cond (.tmp 14) (.seq (.region slices_EqualFunc_Field_r2 false) .ret) .skip))) (.kp [0,1,2] (.seq (.seq (.region slices_EqualFunc_Field_r3 false) (.kp [1,2,15,16,17] (.block 0 (.loop slices_EqualFunc_Field_l10)))) (.kp [] (.seq (.region slices_EqualFunc_Field_r11 false) .ret))))))))⟩
def sameFls :List Fld→List Fld→Bool
 | [],[] =>true
 | f::fs,g::gs =>sameFl f g && sameFls fs gs
 | _,_ =>false
theorem sameFls_len :∀ {fs gs :List Fld},fs.length ≠ gs.length→sameFls fs gs=false
 | [],[],h =>absurd rfl h
 | f::fs,g::gs,h =>by rw [sameFls,sameFls_len (fs :=fs) (gs :=gs) (by simpa using h),Bool.and_false]
 | [],_::_,_ =>rfl
 | _::_,[],_ =>rfl
theorem sameFls_step {fs gs :List Fld}{i :Nat}{f g :Fld}(hf :fs[i]? = some f)(hg :gs[i]? = some g) :sameFls (fs.drop i) (gs.drop i)=(sameFl f g && sameFls (fs.drop (i+1)) (gs.drop (i+1))) :=by
 obtain⟨h1,e1⟩ :=List.getElem?_eq_some_iff.1 hf
 obtain⟨h2,e2⟩ :=List.getElem?_eq_some_iff.1 hg
 rw [List.drop_eq_getElem_cons h1,List.drop_eq_getElem_cons h2,e1,e2,sameFls]
def lowF (fs :List Fld) :Prop :=∀ f ∈ fs,lowF1 f
theorem Ev.base {C :Ctab}{F :Frame} {Q}{code :SCode}{H :Heap}(h :∀ S,S=H→Ev C code F (S++[]) Q) :Ev C code F H Q :=by
 have :=h H rfl
 rwa [List.append_nil] at this
theorem EvR.st3 {C :Ctab}{F :Frame}{τ l :Heap} {Q}{n i :Nat}{rest :List SOper}{x y :Operand}{p q r a b c :Value}(h1 :eval F x = .pointer (some ⟨τ.length+i,0,none⟩))(h2 :l[i]? = some ⟨[p,q,r],0,true⟩)(h3 :eval F y=fV a b c)(ha :cellOk a=true)(hb :cellOk b=true)(hc :cellOk c=true)
 (h :EvR C rest F (τ++l.set i ⟨[a,b,c],0,true⟩) Q) :EvR C (⟨none,none,.store 3 x y,n⟩::rest) F (τ++l) Q :=by
 refine EvR.opN (v :=undef) (σ' :=τ++l.set i ⟨[a,b,c],0,true⟩) ?_ h
 have e :(τ++l)[τ.length+i]? = some ⟨[p,q,r],0,true⟩ :=by rw [hget];exact h2
 have hcs :(fV a b c).cells.toList=[a,b,c] :=rfl
 simp only [evOp,h1,h3,aStore,e,hcs]
 rw [if_pos (by simp [ptrOk,ha,hb,hc]),set_app]
 rfl
def slices_EqualFunc_Field_ok (k :FuncId)(ck :Contract)(c :Contract) :Prop :=∀ (σ :Heap)(v u :Value)(fs gs :List Fld),FlsR σ v fs→FlsR σ u gs→fitsF fs→fitsF gs→lowF fs→lowF gs →
 Ret c [v,u,.func (.func k) #[] #[]] σ fun v' σ' =>v' = .bool (sameFls fs gs)∧σ'=σ
theorem slices_EqualFunc_Field_law {C :Ctab}{k :FuncId}{ck :Contract}(hk :C k=some ck)(h2 :impl_SameField_ok ck) :slices_EqualFunc_Field_ok k ck (gcC C slices_EqualFunc_Field true) :=by
 intro σ v u fs gs hr hr' ⟨hn,hfit⟩ ⟨hn',hfit'⟩ hl hl'
 obtain⟨cs,hrow,hcs⟩ :=hr.ex
 obtain⟨ds,hrow',hds⟩ :=hr'.ex
 have k1 :=hrow.ok
 have k2 :=hrow'.ok
 by_cases hlen :fs.length=gs.length
 ·obtain⟨T,hT⟩ :∃ T,sameFls fs gs=T :=⟨_,rfl⟩
  rw [hT]
  refine ret_gc rfl rfl ?_
  repeat' (first | refine ff ?_ | ((first | refine sR ?_ ?_ | refine sC ?_ ?_) <;> (intro hb;(try rw [hb]);(try simp only [bb] at hb);(try (exfalso;first | omega | exact hb trivial)))) | (apply endS trivial;rotate_left;(· exact eva);(· rfl);try refine⟨?_,rfl⟩) | fail)
  refine Ev.whlH (S :=Nat × Heap) (fun st =>fs.length - st.1) (fun st =>[(17,.int .i64 st.1)]) (fun st =>σ++st.2) (fun st =>st.1 ≤ fs.length∧sameFls (fs.drop st.1) (gs.drop st.1)=T) (0,[]) (by exact tF) rfl ⟨Nat.zero_le _,hT⟩ ?_
  rintro⟨i,rub⟩ F hF ⟨hi,hg⟩
  dsimp only at hi hF hg ⊢
  (simp only [List.cons_append,List.nil_append,↓fget_cons,fkeep_cons,fkeep_nil,Nat.reduceEqDiff,reduceIte] at hF;subst hF)
  by_cases hlt :i < fs.length
  ·obtain⟨f,hf⟩ :∃ f,fs[i]? = some f :=⟨_,List.getElem?_eq_getElem hlt⟩
   obtain⟨g,hgi⟩ :∃ g,gs[i]? = some g :=⟨_,List.getElem?_eq_getElem (by omega)⟩
   obtain⟨a,b,c,hc,hfl⟩ :=hcs.get hf
   obtain⟨a',b',c',hc',hfl'⟩ :=hds.get hgi
   rw [sameFls_step hf hgi] at hg
   have k3 :=hfl.e.ok
   have k4 :=hfl.x.ok
   have k5 :=hfl.y.ok
   have k6 :=hfl'.e.ok
   have k7 :=hfl'.x.ok
   have k8 :=hfl'.y.ok
   have hst :=fun t =>h2 (σ++(rub++t)) a b c a' b' c' f g (by exact hfl.ext _) (by exact hfl'.ext _) (hfit f (List.mem_of_getElem? hf)) (hfit' g (List.mem_of_getElem? hgi)) (hl f (List.mem_of_getElem? hf)) (hl' g (List.mem_of_getElem? hgi))
   refine Ev.base fun τ hτ =>?_
   have hrow2 :Row τ 3 v fs.length cs :=by rw [hτ];exact hrow.ext _
   have hrow3 :Row τ 3 u gs.length ds :=by rw [hτ];exact hrow'.ext _
   repeat' (first | refine ff ?_ | ((first | refine sR ?_ ?_ | refine sC ?_ ?_) <;> (intro hb;(try rw [hb]);(try simp only [bb] at hb);(try (exfalso;first | omega | exact hb trivial)))) | (apply endS trivial;rotate_left;(· exact eva);(· rfl);try refine⟨?_,rfl⟩) | fail)
   refine EvR.ld3 hrow2 hlt hc rfl ?_
   repeat' (first | refine ff ?_ | ((first | refine sR ?_ ?_ | refine sC ?_ ?_) <;> (intro hb;(try rw [hb]);(try simp only [bb] at hb);(try (exfalso;first | omega | exact hb trivial)))) | (apply endS trivial;rotate_left;(· exact eva);(· rfl);try refine⟨?_,rfl⟩) | fail)
   refine EvR.st3 (i :=0) rfl rfl rfl k3 k4 k5 ?_
   repeat' (first | refine ff ?_ | ((first | refine sR ?_ ?_ | refine sC ?_ ?_) <;> (intro hb;(try rw [hb]);(try simp only [bb] at hb);(try (exfalso;first | omega | exact hb trivial)))) | (apply endS trivial;rotate_left;(· exact eva);(· rfl);try refine⟨?_,rfl⟩) | fail)
   refine EvR.ld3 hrow3 (show i < gs.length by omega) hc' rfl ?_
   repeat' (first | refine ff ?_ | ((first | refine sR ?_ ?_ | refine sC ?_ ?_) <;> (intro hb;(try rw [hb]);(try simp only [bb] at hb);(try (exfalso;first | omega | exact hb trivial)))) | (apply endS trivial;rotate_left;(· exact eva);(· rfl);try refine⟨?_,rfl⟩) | fail)
   refine EvR.st3 (i :=1) rfl rfl rfl k6 k7 k8 ?_
   repeat' (first | refine ff ?_ | ((first | refine sR ?_ ?_ | refine sC ?_ ?_) <;> (intro hb;(try rw [hb]);(try simp only [bb] at hb);(try (exfalso;first | omega | exact hb trivial)))) | (apply endS trivial;rotate_left;(· exact eva);(· rfl);try refine⟨?_,rfl⟩) | fail)
   apply EvR.aDyn hk;(· exact rfl);(· exact eva);(· rw [hτ,List.append_assoc];exact hst _);(rintro _ _ ⟨rfl,rfl⟩;refine EvR.nrm ?_)
   cases hs :sameFl f g
   ·rw [hs,Bool.false_and] at hg
    repeat' (first | refine ff ?_ | ((first | refine sR ?_ ?_ | refine sC ?_ ?_) <;> (intro hb;(try rw [hb]);(try simp only [bb] at hb);(try (exfalso;first | omega | exact hb trivial)))) | (apply endS trivial;rotate_left;(· exact eva);(· rfl);try refine⟨?_,rfl⟩) | fail)
    all_goals (try (rw [← hg]))
   ·rw [hs,Bool.true_and] at hg
    repeat' (first | refine ff ?_ | ((first | refine sR ?_ ?_ | refine sC ?_ ?_) <;> (intro hb;(try rw [hb]);(try simp only [bb] at hb);(try (exfalso;first | omega | exact hb trivial)))) | (apply endS trivial;rotate_left;(· exact eva);(· rfl);try refine⟨?_,rfl⟩) | fail)
    exact⟨(i+1,_),by dsimp only;omega,by exact tF,rfl,by dsimp only;omega,hg⟩
  ·obtain rfl :i=fs.length :=by omega
   rw [List.drop_length,hlen,List.drop_length] at hg
   rw [← hg]
   repeat' (first | refine ff ?_ | ((first | refine sR ?_ ?_ | refine sC ?_ ?_) <;> (intro hb;(try rw [hb]);(try simp only [bb] at hb);(try (exfalso;first | omega | exact hb trivial)))) | (apply endS trivial;rotate_left;(· exact eva);(· rfl);try refine⟨?_,rfl⟩) | fail)
   all_goals (try rfl)
 ·rw [sameFls_len hlen]
  refine ret_gc rfl rfl ?_
  repeat' (first | refine ff ?_ | ((first | refine sR ?_ ?_ | refine sC ?_ ?_) <;> (intro hb;(try rw [hb]);(try simp only [bb] at hb);(try (exfalso;first | omega | exact hb trivial)))) | (apply endS trivial;rotate_left;(· exact eva);(· rfl);try refine⟨?_,rfl⟩) | fail)
  all_goals (try rfl)
end Go.Abs
namespace Go.Abs
set_option linter.unusedSimpArgs false
set_option linter.unusedVariables false
set_option maxHeartbeats 8000000
set_option maxRecDepth 20000
def impl_SameFilm_r0 :List SOper :=[
 ⟨some 2,none,.box (.tmp 0),0⟩,
 ⟨some 3,none,.box (.tmp 1),0⟩,
 ⟨some 4,none,.mov (.const (.bool false)),0⟩]
def impl_SameFilm_r1 (i_impl_ValidFilm i_impl_SameSheet i_slices_EqualFunc_Field i_impl_SameField :FuncId) :List SOper :=[
 ⟨some 5,none,.loadN 6 (.tmp 2),0⟩,
 ⟨some 6,none,.call (.func i_impl_ValidFilm) [(.tmp 5)],1⟩,
 ⟨some 7,none,.mov (.tmp 6),3⟩,
  ⟨(some 8),(some (7,true)),.loadN 6 (.tmp 3),7⟩,
  ⟨(some 9),(some (7,true)),.call (.func i_impl_ValidFilm) [(.tmp 8)],15⟩,
 ⟨some 10,none,.pick (.tmp 7) (.tmp 9) (.const (.bool false)),31⟩,
 ⟨some 11,none,.mov (.tmp 10),63⟩,
  ⟨(some 12),(some (11,true)),.fieldAddr 0 (.tmp 2),127⟩,
  ⟨(some 13),(some (11,true)),.loadN 5 (.tmp 12),255⟩,
  ⟨(some 14),(some (11,true)),.fieldAddr 0 (.tmp 3),127⟩,
  ⟨(some 15),(some (11,true)),.loadN 5 (.tmp 14),639⟩,
  ⟨(some 16),(some (11,true)),.call (.func i_impl_SameSheet) [(.tmp 13),(.tmp 15)],2047⟩,
 ⟨some 17,none,.pick (.tmp 11) (.tmp 16) (.const (.bool false)),4095⟩,
 ⟨some 18,none,.mov (.tmp 17),8191⟩,
  ⟨(some 19),(some (18,true)),.fieldAddr 5 (.tmp 2),16383⟩,
  ⟨(some 20),(some (18,true)),.load1 (.tmp 19),32767⟩,
  ⟨(some 21),(some (18,true)),.fieldAddr 5 (.tmp 3),16383⟩,
  ⟨(some 22),(some (18,true)),.load1 (.tmp 21),81919⟩,
  ⟨(some 23),(some (18,true)),.call (.func i_slices_EqualFunc_Field) [(.tmp 20),(.tmp 22),(.func i_impl_SameField)],262143⟩,
 ⟨some 24,none,.pick (.tmp 18) (.tmp 23) (.const (.bool false)),524287⟩,
 ⟨some 4,none,.mov (.tmp 24),1048575⟩]
def impl_SameFilm (i_impl_ValidFilm i_impl_SameSheet i_slices_EqualFunc_Field i_impl_SameField :FuncId) :SFunc :=⟨25,[.tmp 4],(.kp [0,1] (.seq (.region impl_SameFilm_r0 false) (.kp [2,3] (.seq (.region (impl_SameFilm_r1 i_impl_ValidFilm i_impl_SameSheet i_slices_EqualFunc_Field i_impl_SameField) false) .ret))))⟩
def sameFm (w h :Int)(wr :Bool)(sp lo :List Nat)(fs :List Fld)(w' h' :Int)(wr' :Bool)(sp' lo' :List Nat)(fs' :List Fld) :Bool :=
 isFilm w h wr sp lo fs && (isFilm w' h' wr' sp' lo' fs' && (sameSN w h wr sp lo w' h' wr' sp' lo' && sameFls fs fs'))
def SameFilm_ok (c :Contract) :Prop :=∀ (σ :Heap)(w h :Int)(wr :Bool)(sv lv fv :Value)(sp lo :List Nat)(fs :List Fld)(w' h' :Int)(wr' :Bool)(sv' lv' fv' :Value)(sp' lo' :List Nat)(fs' :List Fld),ShR σ sv lv sp lo→FlsR σ fv fs→ShR σ sv' lv' sp' lo'→FlsR σ fv' fs' →
 sp.length ≤ 1048576→lo.length ≤ 1048576→fitsF fs→sp'.length ≤ 1048576→lo'.length ≤ 1048576→fitsF fs'→in32 sp→in32 lo→in32 sp'→in32 lo'→lowF fs→lowF fs' →
 Ret c [fmV w h wr sv lv fv,fmV w' h' wr' sv' lv' fv'] σ fun v σ' =>v = .bool (sameFm w h wr sp lo fs w' h' wr' sp' lo' fs')∧σ'=σ
abbrev impl_SameFilm_ok :=SameFilm_ok
theorem impl_SameFilm_law {C :Ctab}{i1 i2 i3 i4 :FuncId}{c1 c2 c3 c4 :Contract}(h1 :Has C i1 c1 impl_ValidFilm_ok)(h2 :Has C i2 c2 impl_SameSheetN_ok)(h3 :Has C i3 c3 (slices_EqualFunc_Field_ok i4 c4))(h4 :Has C i4 c4 impl_SameField_ok) :impl_SameFilm_ok (gcC C (impl_SameFilm i1 i2 i3 i4) true) :=by
 intro σ w h wr sv lv fv sp lo fs w' h' wr' sv' lv' fv' sp' lo' fs' ⟨r1,r2⟩ hf ⟨r3,r4⟩ hf' n1 n2 hfit n3 n4 hfit' b1_ b2_ b3_ b4_ hlo hlo'
 have k1 :=r1.ok
 have k2 :=r2.ok
 have k3 :=hf.ok
 have k4 :=r3.ok
 have k5 :=r4.ok
 have k6 :=hf'.ok
 have hV :=fun τ =>h1.ok (σ++τ) w h wr sv lv fv sp lo fs ⟨r1.ext _,r2.ext _⟩ (hf.ext _) n1 n2 hfit
 have hV' :=fun τ =>h1.ok (σ++τ) w' h' wr' sv' lv' fv' sp' lo' fs' ⟨r3.ext _,r4.ext _⟩ (hf'.ext _) n3 n4 hfit'
 have hS :=fun τ =>h2.ok (σ++τ) w h wr sv lv sp lo w' h' wr' sv' lv' sp' lo' ⟨r1.ext _,r2.ext _⟩ ⟨r3.ext _,r4.ext _⟩ n1 n2 n3 n4 (in32N_of b1_) (in32N_of b2_) (in32N_of b3_) (in32N_of b4_)
 have hE :=fun τ =>h3.ok (σ++τ) fv fv' fs fs' (hf.ext _) (hf'.ext _) hfit hfit' hlo hlo'
 unfold sameFm
 cases hI :isFilm w h wr sp lo fs
 ·rw [Bool.false_and]
  refine ret_gc rfl rfl ?_
  repeat' (first | refine ff ?_ | ((first | refine sR ?_ ?_ | refine sC ?_ ?_) <;> (intro hb;(try rw [hb]);(try simp only [bb] at hb);(try (exfalso;first | omega | exact hb trivial)))) | (apply endS trivial;rotate_left;(· exact eva);(· rfl);try refine⟨?_,rfl⟩) | fail)
  (apply EvR.aCall h1.at_;(· exact eva);(· exact  hV _);(rintro _ _ ⟨rfl,rfl⟩;refine EvR.nrm ?_))
  rw [hI]
  repeat' (first | refine ff ?_ | ((first | refine sR ?_ ?_ | refine sC ?_ ?_) <;> (intro hb;(try rw [hb]);(try simp only [bb] at hb);(try (exfalso;first | omega | exact hb trivial)))) | (apply endS trivial;rotate_left;(· exact eva);(· rfl);try refine⟨?_,rfl⟩) | fail)
  all_goals (try rfl)
 cases hI' :isFilm w' h' wr' sp' lo' fs'
 ·rw [Bool.false_and,Bool.and_false]
  refine ret_gc rfl rfl ?_
  repeat' (first | refine ff ?_ | ((first | refine sR ?_ ?_ | refine sC ?_ ?_) <;> (intro hb;(try rw [hb]);(try simp only [bb] at hb);(try (exfalso;first | omega | exact hb trivial)))) | (apply endS trivial;rotate_left;(· exact eva);(· rfl);try refine⟨?_,rfl⟩) | fail)
  (apply EvR.aCall h1.at_;(· exact eva);(· exact  hV _);(rintro _ _ ⟨rfl,rfl⟩;refine EvR.nrm ?_))
  rw [hI]
  repeat' (first | refine ff ?_ | ((first | refine sR ?_ ?_ | refine sC ?_ ?_) <;> (intro hb;(try rw [hb]);(try simp only [bb] at hb);(try (exfalso;first | omega | exact hb trivial)))) | (apply endS trivial;rotate_left;(· exact eva);(· rfl);try refine⟨?_,rfl⟩) | fail)
  (apply EvR.aCall h1.at_;(· exact eva);(· exact  hV' _);(rintro _ _ ⟨rfl,rfl⟩;refine EvR.nrm ?_))
  rw [hI']
  repeat' (first | refine ff ?_ | ((first | refine sR ?_ ?_ | refine sC ?_ ?_) <;> (intro hb;(try rw [hb]);(try simp only [bb] at hb);(try (exfalso;first | omega | exact hb trivial)))) | (apply endS trivial;rotate_left;(· exact eva);(· rfl);try refine⟨?_,rfl⟩) | fail)
  all_goals (try rfl)
 cases hJ :sameSN w h wr sp lo w' h' wr' sp' lo'
 ·rw [Bool.false_and,Bool.and_false,Bool.and_false]
  refine ret_gc rfl rfl ?_
  repeat' (first | refine ff ?_ | ((first | refine sR ?_ ?_ | refine sC ?_ ?_) <;> (intro hb;(try rw [hb]);(try simp only [bb] at hb);(try (exfalso;first | omega | exact hb trivial)))) | (apply endS trivial;rotate_left;(· exact eva);(· rfl);try refine⟨?_,rfl⟩) | fail)
  (apply EvR.aCall h1.at_;(· exact eva);(· exact  hV _);(rintro _ _ ⟨rfl,rfl⟩;refine EvR.nrm ?_))
  rw [hI]
  repeat' (first | refine ff ?_ | ((first | refine sR ?_ ?_ | refine sC ?_ ?_) <;> (intro hb;(try rw [hb]);(try simp only [bb] at hb);(try (exfalso;first | omega | exact hb trivial)))) | (apply endS trivial;rotate_left;(· exact eva);(· rfl);try refine⟨?_,rfl⟩) | fail)
  (apply EvR.aCall h1.at_;(· exact eva);(· exact  hV' _);(rintro _ _ ⟨rfl,rfl⟩;refine EvR.nrm ?_))
  rw [hI']
  repeat' (first | refine ff ?_ | ((first | refine sR ?_ ?_ | refine sC ?_ ?_) <;> (intro hb;(try rw [hb]);(try simp only [bb] at hb);(try (exfalso;first | omega | exact hb trivial)))) | (apply endS trivial;rotate_left;(· exact eva);(· rfl);try refine⟨?_,rfl⟩) | fail)
  (apply EvR.aCall h2.at_;(· exact eva);(· exact  hS _);(rintro _ _ ⟨rfl,rfl⟩;refine EvR.nrm ?_))
  rw [hJ]
  repeat' (first | refine ff ?_ | ((first | refine sR ?_ ?_ | refine sC ?_ ?_) <;> (intro hb;(try rw [hb]);(try simp only [bb] at hb);(try (exfalso;first | omega | exact hb trivial)))) | (apply endS trivial;rotate_left;(· exact eva);(· rfl);try refine⟨?_,rfl⟩) | fail)
  all_goals (try rfl)
 rw [Bool.true_and,Bool.true_and,Bool.true_and]
 refine ret_gc rfl rfl ?_
 repeat' (first | refine ff ?_ | ((first | refine sR ?_ ?_ | refine sC ?_ ?_) <;> (intro hb;(try rw [hb]);(try simp only [bb] at hb);(try (exfalso;first | omega | exact hb trivial)))) | (apply endS trivial;rotate_left;(· exact eva);(· rfl);try refine⟨?_,rfl⟩) | fail)
 (apply EvR.aCall h1.at_;(· exact eva);(· exact  hV _);(rintro _ _ ⟨rfl,rfl⟩;refine EvR.nrm ?_))
 rw [hI]
 repeat' (first | refine ff ?_ | ((first | refine sR ?_ ?_ | refine sC ?_ ?_) <;> (intro hb;(try rw [hb]);(try simp only [bb] at hb);(try (exfalso;first | omega | exact hb trivial)))) | (apply endS trivial;rotate_left;(· exact eva);(· rfl);try refine⟨?_,rfl⟩) | fail)
 (apply EvR.aCall h1.at_;(· exact eva);(· exact  hV' _);(rintro _ _ ⟨rfl,rfl⟩;refine EvR.nrm ?_))
 rw [hI']
 repeat' (first | refine ff ?_ | ((first | refine sR ?_ ?_ | refine sC ?_ ?_) <;> (intro hb;(try rw [hb]);(try simp only [bb] at hb);(try (exfalso;first | omega | exact hb trivial)))) | (apply endS trivial;rotate_left;(· exact eva);(· rfl);try refine⟨?_,rfl⟩) | fail)
 (apply EvR.aCall h2.at_;(· exact eva);(· exact  hS _);(rintro _ _ ⟨rfl,rfl⟩;refine EvR.nrm ?_))
 rw [hJ]
 repeat' (first | refine ff ?_ | ((first | refine sR ?_ ?_ | refine sC ?_ ?_) <;> (intro hb;(try rw [hb]);(try simp only [bb] at hb);(try (exfalso;first | omega | exact hb trivial)))) | (apply endS trivial;rotate_left;(· exact eva);(· rfl);try refine⟨?_,rfl⟩) | fail)
 (apply EvR.aCall h3.at_;(· exact eva);(· exact  hE _);(rintro _ _ ⟨rfl,rfl⟩;refine EvR.nrm ?_))
 repeat' (first | refine ff ?_ | ((first | refine sR ?_ ?_ | refine sC ?_ ?_) <;> (intro hb;(try rw [hb]);(try simp only [bb] at hb);(try (exfalso;first | omega | exact hb trivial)))) | (apply endS trivial;rotate_left;(· exact eva);(· rfl);try refine⟨?_,rfl⟩) | fail)
 all_goals (try rfl)
end Go.Abs
