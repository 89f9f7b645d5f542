/- Laws of functions: whether a film is one, by the program. Conditions: the laws of what they call. -/
import Derived.Test.YtaacdckenhnocaaFilmsL63
namespace Go.Abs
set_option linter.unusedSimpArgs false
set_option linter.unusedVariables false
set_option maxHeartbeats 8000000
set_option maxRecDepth 20000
def impl_ValidFilm_r0 :List SOper :=[
 ⟨some 1,none,.box (.tmp 0),0⟩,
 ⟨some 2,none,.mov (.const (.bool false)),0⟩]
def impl_ValidFilm_r1 (i_impl_ValidSheet :FuncId) :List SOper :=[
 ⟨some 3,none,.fieldAddr 0 (.tmp 1),0⟩,
 ⟨some 4,none,.loadN 5 (.tmp 3),1⟩,
 ⟨some 5,none,.call (.func i_impl_ValidSheet) [(.tmp 4)],3⟩,
 ⟨some 6,none,.un .not (.tmp 5),7⟩,
 ⟨some 7,none,.mov (.tmp 6),15⟩,
  ⟨(some 8),(some (7,false)),.fieldAddr 5 (.tmp 1),31⟩,
  ⟨(some 9),(some (7,false)),.load1 (.tmp 8),63⟩,
  ⟨(some 10),(some (7,false)),.len false (.tmp 9),127⟩,
  ⟨(some 11),(some (7,false)),.bin .gtr .other (.tmp 10) (.const (.int .i64 16)),255⟩,
 ⟨some 12,none,.pick (.tmp 7) (.const (.bool true)) (.tmp 11),511⟩]
def impl_ValidFilm_r2 :List SOper :=[
 ⟨some 2,none,.mov (.const (.bool false)),0⟩]
def impl_ValidFilm_r3 (i_impl_ValidFilmC1 i_slices_ContainsFunc_Field :FuncId) :List SOper :=[
 ⟨some 13,none,.fieldAddr 5 (.tmp 1),0⟩,
 ⟨some 14,none,.load1 (.tmp 13),1⟩,
 ⟨some 15,none,.makeFunc i_impl_ValidFilmC1 [] [(.tmp 1)],0⟩,
 ⟨some 16,none,.call (.func i_slices_ContainsFunc_Field) [(.tmp 14),(.tmp 15)],7⟩,
 ⟨some 17,none,.un .not (.tmp 16),15⟩,
 ⟨some 2,none,.mov (.tmp 17),31⟩]
def impl_ValidFilm (i_impl_ValidSheet i_impl_ValidFilmC1 i_slices_ContainsFunc_Field :FuncId) :SFunc :=⟨18,[.tmp 2],(.kp [0] (.seq (.region impl_ValidFilm_r0 false) (.kp [1] (.seq (.seq (.region (impl_ValidFilm_r1 i_impl_ValidSheet) false) (.kp [1,12] (.cond (.tmp 12) (.seq (.region impl_ValidFilm_r2 false) .ret) .skip))) (.kp [1] (.seq (.region (impl_ValidFilm_r3 i_impl_ValidFilmC1 i_slices_ContainsFunc_Field) false) .ret))))))⟩
def impl_ValidFilmC1_r0 :List SOper :=[
 ⟨some 2,none,.box (.tmp 0),0⟩,
 ⟨some 3,none,.mov (.const (.bool false)),0⟩]
def impl_ValidFilmC1_r1 (i_impl_IsField :FuncId) :List SOper :=[
 ⟨some 4,none,.fieldAddr 0 (.tmp 1),0⟩,
 ⟨some 5,none,.loadN 5 (.tmp 4),1⟩,
 ⟨some 6,none,.loadN 3 (.tmp 2),0⟩,
 ⟨some 7,none,.call (.func i_impl_IsField) [(.tmp 5),(.tmp 6)],7⟩,
 ⟨some 8,none,.un .not (.tmp 7),15⟩,
 ⟨some 3,none,.mov (.tmp 8),31⟩]
def impl_ValidFilmC1 (i_impl_IsField :FuncId) :SFunc :=⟨9,[.tmp 3],(.kp [0,1] (.seq (.region impl_ValidFilmC1_r0 false) (.kp [1,2] (.seq (.region (impl_ValidFilmC1_r1 i_impl_IsField) false) .ret))))⟩
def slices_ContainsFunc_Field_r0 :List SOper :=[
 ⟨some 4,none,.mov (.const (.bool false)),0⟩]
def slices_ContainsFunc_Field_r1 (i_slices_IndexFunc_Field :FuncId) :List SOper :=[
 ⟨some 5,none,.mov (.tmp 0),0⟩,
 ⟨some 6,none,.mov (.tmp 1),0⟩,
 ⟨some 7,none,.call (.func i_slices_IndexFunc_Field) [(.tmp 5),(.tmp 6)],3⟩,
 ⟨some 8,none,.bin .geq .other (.tmp 7) (.const (.int .i64 0)),7⟩,
 ⟨some 4,none,.mov (.tmp 8),15⟩]
def slices_ContainsFunc_Field (i_slices_IndexFunc_Field :FuncId) :SFunc :=⟨9,[.tmp 4],(.kp [0,1] (.seq (.region slices_ContainsFunc_Field_r0 false) (.kp [0,1] (.seq (.region (slices_ContainsFunc_Field_r1 i_slices_IndexFunc_Field) false) .ret))))⟩
def slices_IndexFunc_Field_r0 :List SOper :=[
 ⟨some 4,none,.mov (.const (.int .i64 0)),0⟩]
def slices_IndexFunc_Field_r1 :List SOper :=[
 ⟨some 6,none,.mov (.tmp 0),0⟩,
 ⟨some 7,none,.len false (.tmp 6),1⟩,
 ⟨some 8,none,.mov (.const (.int .i64 0)),0⟩]
def slices_IndexFunc_Field_r2 :List SOper :=[
 ⟨some 9,none,.bin .lss .other (.tmp 8) (.tmp 7),0⟩]
def slices_IndexFunc_Field_r3 :List SOper :=[
 ⟨some 10,none,.mov (.tmp 8),0⟩,
 ⟨some 5,none,.mov (.tmp 10),1⟩]
def slices_IndexFunc_Field_r4 :List SOper :=[
 ⟨some 11,none,.mov (.tmp 1),0⟩,
 ⟨some 12,none,.mov (.tmp 0),0⟩,
 ⟨some 13,none,.mov (.tmp 5),0⟩,
 ⟨some 14,none,.indexAddrS 3 (.tmp 12) (.tmp 13),6⟩,
 ⟨some 15,none,.loadN 3 (.tmp 14),14⟩,
 ⟨some 16,none,.call (.tmp 11) [(.tmp 15)],31⟩]
def slices_IndexFunc_Field_r5 :List SOper :=[
 ⟨some 17,none,.mov (.tmp 5),0⟩,
 ⟨some 4,none,.mov (.tmp 17),1⟩]
def slices_IndexFunc_Field_r6 :List SOper :=[
 ⟨some 18,none,.bin .add .other (.tmp 8) (.const (.int .i64 1)),0⟩,
 ⟨some 8,none,.mov (.tmp 18),1⟩]
def slices_IndexFunc_Field_l7 :SCode :=(.kp [0,1,7,8] (.seq (.region slices_IndexFunc_Field_r2 false) (.kp [0,1,7,8,9] (.seq (.cond (.tmp 9) .skip (.exit 0)) (.kp [0,1,7,8] (.seq (.block 1 (.seq (.region slices_IndexFunc_Field_r3 false) (.kp [0,1,5,7,8] (.seq (.region slices_IndexFunc_Field_r4 false) (.kp [0,1,5,7,8,16] (.cond (.tmp 16) (.seq (.region slices_IndexFunc_Field_r5 false) .ret) .skip)))))) (.kp [0,1,7,8] (.region slices_IndexFunc_Field_r6 false))))))))
def slices_IndexFunc_Field_r8 :List SOper :=[
 ⟨some 4,none,.mov (.const (.int .i64 (-1))),0⟩]
def slices_IndexFunc_Field :SFunc :=⟨19,[.tmp 4],(.kp [0,1] (.seq (.region slices_IndexFunc_Field_r0 false) (.kp [0,1] (.seq (.seq (.region slices_IndexFunc_Field_r1 false) (.kp [0,1,7,8] (.block 0 (.loop slices_IndexFunc_Field_l7)))) (.kp [] (.seq (.region slices_IndexFunc_Field_r8 false) .ret))))))⟩
def idxP (P :Fld→Bool) :List Fld→Nat→Int
 | [],_ =>-1
 | f::fs,n =>if P f=true then n else idxP P fs (n+1)
theorem idxP_any (P :Fld→Bool) :∀ (fs :List Fld)(n :Nat),decide (0 ≤ idxP P fs n)=fs.any P
 | [],n =>rfl
 | f::fs,n =>by
  unfold idxP
  rw [List.any_cons]
  cases h :P f
  ·rw [if_neg (by simp),Bool.false_or,idxP_any P fs]
  ·rw [if_pos rfl,Bool.true_or];simp
theorem idxP_bd (P :Fld→Bool) :∀ (fs :List Fld)(n :Nat),-1 ≤ idxP P fs n∧idxP P fs n ≤ n+fs.length
 | [],n =>by unfold idxP;simp only [List.length_nil];omega
 | f::fs,n =>by
  unfold idxP
  have :=idxP_bd P fs (n+1)
  simp only [List.length_cons]
  split <;> omega
def stepP (ck :Contract)(capt :Array Value)(σ :Heap)(P :Fld→Bool)(fs :List Fld) :Prop :=
 ∀ f ∈ fs,∀ a b c,FlR σ a b c f.e f.x f.y → ∀ τ,Ret ck ([fV a b c]++capt.toList) (σ++τ) fun v σ' =>v = .bool (P f)∧σ'=σ++τ
def slices_IndexFunc_Field_ok (k :FuncId)(ck :Contract)(c :Contract) :Prop :=∀ (σ :Heap)(v :Value)(fs :List Fld)(capt :Array Value)(P :Fld→Bool),FlsR σ v fs→fs.length ≤ 1048576→stepP ck capt σ P fs →
 Ret c [v,.func (.func k) #[] capt] σ fun v' σ' =>v' = .int .i64 (idxP P fs 0)∧σ'=σ
theorem slices_IndexFunc_Field_law {C :Ctab}{k :FuncId}{ck :Contract}(hk :C k=some ck) :slices_IndexFunc_Field_ok k ck (gcC C slices_IndexFunc_Field true) :=by
 intro σ v fs capt P hr hn hstep
 obtain⟨cs,hrow,hcs⟩ :=hr.ex
 have k1 :=hrow.ok
 obtain⟨T,hT⟩ :∃ T,idxP P fs 0=T :=⟨_,rfl⟩
 rw [hT]
 refine ret_gc rfl rfl ?_
 repeat' (first | refine ff ?_ | ((first | refine sR ?_ ?_ | refine sC ?_ ?_) <;> (intro hb;(try rw [hb]);(try simp only [bb] at hb);(try (exfalso;first | omega | exact hb trivial)))) | (apply endS trivial;rotate_left;(· exact eva);(· rfl);try refine⟨?_,rfl⟩) | fail)
 refine Ev.whlC (S :=Nat) (fun i =>fs.length - i) (fun i =>[(8,.int .i64 i)]) (fun i =>i ≤ fs.length∧idxP P (fs.drop i) i=T) 0 (by exact tF) ⟨Nat.zero_le _,hT⟩ ?_
 rintro i F hF ⟨hi,hg⟩
 (simp only [List.cons_append,List.nil_append,↓fget_cons,fkeep_cons,fkeep_nil,Nat.reduceEqDiff,reduceIte] at hF;subst hF)
 by_cases hlt :i < fs.length
 ·obtain⟨f,hf⟩ :∃ f,fs[i]? = some f :=⟨_,List.getElem?_eq_getElem hlt⟩
  obtain⟨a,b,c,hc,hfl⟩ :=hcs.get hf
  have hd :fs.drop i=f::fs.drop (i+1) :=by rw [List.drop_eq_getElem_cons hlt];congr 1;exact (List.getElem?_eq_some_iff.1 hf).2
  rw [hd,idxP] at hg
  have hst :=hstep f (List.mem_of_getElem? hf) a b c hfl
  cases hP :P f
  ·rw [if_neg (by rw [hP];simp)] at hg
   rw [hP] at hst
   repeat' (first | refine ff ?_ | ((first | refine sR ?_ ?_ | refine sC ?_ ?_) <;> (intro hb;(try rw [hb]);(try simp only [bb] at hb);(try (exfalso;first | omega | exact hb trivial)))) | (apply endS trivial;rotate_left;(· exact eva);(· rfl);try refine⟨?_,rfl⟩) | fail)
   refine EvR.ld3 hrow hlt hc rfl ?_
   (apply EvR.aDyn hk;(· exact rfl);(· exact eva);(· exact  hst _);(rintro _ _ ⟨rfl,rfl⟩;refine EvR.nrm ?_))
   repeat' (first | refine ff ?_ | ((first | refine sR ?_ ?_ | refine sC ?_ ?_) <;> (intro hb;(try rw [hb]);(try simp only [bb] at hb);(try (exfalso;first | omega | exact hb trivial)))) | (apply endS trivial;rotate_left;(· exact eva);(· rfl);try refine⟨?_,rfl⟩) | fail)
   exact⟨i+1,by omega,by exact tF,rfl,by omega,hg⟩
  ·rw [if_pos hP] at hg
   rw [hP] at hst
   repeat' (first | refine ff ?_ | ((first | refine sR ?_ ?_ | refine sC ?_ ?_) <;> (intro hb;(try rw [hb]);(try simp only [bb] at hb);(try (exfalso;first | omega | exact hb trivial)))) | (apply endS trivial;rotate_left;(· exact eva);(· rfl);try refine⟨?_,rfl⟩) | fail)
   refine EvR.ld3 hrow hlt hc rfl ?_
   (apply EvR.aDyn hk;(· exact rfl);(· exact eva);(· exact  hst _);(rintro _ _ ⟨rfl,rfl⟩;refine EvR.nrm ?_))
   repeat' (first | refine ff ?_ | ((first | refine sR ?_ ?_ | refine sC ?_ ?_) <;> (intro hb;(try rw [hb]);(try simp only [bb] at hb);(try (exfalso;first | omega | exact hb trivial)))) | (apply endS trivial;rotate_left;(· exact eva);(· rfl);try refine⟨?_,rfl⟩) | fail)
   rw [← hg]
 ·obtain rfl :i=fs.length :=by omega
  rw [List.drop_length,idxP] at hg
  subst hg
  repeat' (first | refine ff ?_ | ((first | refine sR ?_ ?_ | refine sC ?_ ?_) <;> (intro hb;(try rw [hb]);(try simp only [bb] at hb);(try (exfalso;first | omega | exact hb trivial)))) | (apply endS trivial;rotate_left;(· exact eva);(· rfl);try refine⟨?_,rfl⟩) | fail)
  all_goals (try rfl)
def slices_ContainsFunc_Field_ok (k :FuncId)(ck :Contract)(c :Contract) :Prop :=∀ (σ :Heap)(v :Value)(fs :List Fld)(capt :Array Value)(P :Fld→Bool),FlsR σ v fs→fs.length ≤ 1048576→stepP ck capt σ P fs →
 Ret c [v,.func (.func k) #[] capt] σ fun v' σ' =>v' = .bool (fs.any P)∧σ'=σ
theorem slices_ContainsFunc_Field_law {C :Ctab}{i1 k :FuncId}{c1 ck :Contract}(h1 :Has C i1 c1 (slices_IndexFunc_Field_ok k ck)) :slices_ContainsFunc_Field_ok k ck (gcC C (slices_ContainsFunc_Field i1) true) :=by
 intro σ v fs capt P hr hn hstep
 have k1 :=hr.ok
 have hbd :=idxP_bd P fs 0
 rw [← idxP_any P fs 0]
 refine ret_gc rfl rfl ?_
 repeat' (first | refine ff ?_ | ((first | refine sR ?_ ?_ | refine sC ?_ ?_) <;> (intro hb;(try rw [hb]);(try simp only [bb] at hb);(try (exfalso;first | omega | exact hb trivial)))) | (apply endS trivial;rotate_left;(· exact eva);(· rfl);try refine⟨?_,rfl⟩) | fail)
 (apply EvR.aCall h1.at_;(· exact eva);(· exact  h1.ok _ v fs capt P (hr.ext _) hn (fun f hf a b c hfl τ =>by rw [List.append_nil] at hfl ⊢;exact hstep f hf a b c hfl τ));(rintro _ _ ⟨rfl,rfl⟩;refine EvR.nrm ?_))
 repeat' (first | refine ff ?_ | ((first | refine sR ?_ ?_ | refine sC ?_ ?_) <;> (intro hb;(try rw [hb]);(try simp only [bb] at hb);(try (exfalso;first | omega | exact hb trivial)))) | (apply endS trivial;rotate_left;(· exact eva);(· rfl);try refine⟨?_,rfl⟩) | fail)
 all_goals (try rfl)
def isFilm (w h :Int)(wr :Bool)(sp lo :List Nat)(fs :List Fld) :Bool :=isSheet w h sp lo && decide (fs.length ≤ 16) && fs.all fun f =>isField w h wr sp lo f.e f.x f.y
theorem not_any (P :Fld→Bool)(fs :List Fld) :(!fs.any fun f =>!P f)=fs.all P :=by
 induction fs with
 | nil =>rfl
 | cons f fs ih =>rw [List.any_cons,List.all_cons,Bool.not_or,Bool.not_not,ih]
def impl_ValidFilmC1_ok (c :Contract) :Prop :=∀ (σ :Heap)(p :Nat)(w h :Int)(wr :Bool)(sv lv fv ev xv yv :Value)(sp lo e x y :List Nat)(r :Bool),σ[p]? = some ⟨[.int .i64 w,.int .i64 h,.bool wr,sv,lv,fv],0,r⟩→ShR σ sv lv sp lo→sp.length ≤ 1048576→lo.length ≤ 1048576→FlR σ ev xv yv e x y→e.length ≤ 1048576→x.length ≤ 1048576→y.length ≤ 1048576 →
 Ret c [fV ev xv yv,.pointer (some ⟨p,0,none⟩)] σ fun v σ' =>v = .bool (!isField w h wr sp lo e x y)∧σ'=σ
theorem impl_ValidFilmC1_law {C :Ctab}{i1 :FuncId}{c1 :Contract}(h1 :Has C i1 c1 impl_IsField_ok) :impl_ValidFilmC1_ok (gcC C (impl_ValidFilmC1 i1) true) :=by
 intro σ p w h wr sv lv fv ev xv yv sp lo e x y r hp ⟨r1,r2⟩ n1 n2 ⟨r3,r4,r5⟩ m1 m2 m3
 have p1 :=PtAt.whole hp
 have p2 :PtAt σ p 0 [.int .i64 w,.int .i64 h,.bool wr,sv,lv] :=PtAt.part hp 0 _ rfl
 have k1 :=r3.ok
 have k2 :=r4.ok
 have k3 :=r5.ok
 refine ret_gc rfl rfl ?_
 repeat' (first | refine ff ?_ | (apply EvR.aCall h1.at_;(· exact eva);(· apply h1.ok <;> exact sid);(rintro _ _ ⟨rfl,rfl⟩;refine EvR.nrm ?_)) | ((first | refine sR ?_ ?_ | refine sC ?_ ?_) <;> (intro hb;(try rw [hb]);(try simp only [bb] at hb);(try (exfalso;first | omega | exact hb trivial)))) | (apply endS trivial;rotate_left;(· exact eva);(· rfl);try refine⟨?_,rfl⟩) | fail)
 all_goals (try rfl)
def impl_ValidFilm_ok (c :Contract) :Prop :=∀ (σ :Heap)(w h :Int)(wr :Bool)(sv lv fv :Value)(sp lo :List Nat)(fs :List Fld),ShR σ sv lv sp lo→FlsR σ fv fs→sp.length ≤ 1048576→lo.length ≤ 1048576→fitsF fs →
 Ret c [fmV w h wr sv lv fv] σ fun v σ' =>v = .bool (isFilm w h wr sp lo fs)∧σ'=σ
theorem impl_ValidFilm_law {C :Ctab}{i1 i2 i3 :FuncId}{c1 c2 c3 :Contract}(h1 :Has C i1 c1 impl_ValidSheet_ok)(h2 :impl_ValidFilmC1_ok c2)(h3 :Has C i3 c3 (slices_ContainsFunc_Field_ok i2 c2)) :impl_ValidFilm_ok (gcC C (impl_ValidFilm i1 i2 i3) true) :=by
 intro σ w h wr sv lv fv sp lo fs ⟨r1,r2⟩ hf n1 n2 ⟨hn,hfit⟩
 have k1 :=r1.ok
 have k2 :=r2.ok
 have k3 :=hf.ok
 obtain⟨cs,hrow,_⟩ :=hf.ex
 unfold isFilm
 cases hs :isSheet w h sp lo
 ·rw [Bool.false_and,Bool.false_and]
  refine ret_gc rfl rfl ?_
  repeat' (first | refine ff ?_ | (apply EvR.aCall h1.at_;(· exact eva);(· apply h1.ok <;> exact sid);(rintro _ _ ⟨rfl,rfl⟩;refine EvR.nrm ?_;try simp only [hs])) | ((first | refine sR ?_ ?_ | refine sC ?_ ?_) <;> (intro hb;(try rw [hb]);(try simp only [bb] at hb);(try (exfalso;first | omega | exact hb trivial)))) | (apply endS trivial;rotate_left;(· exact eva);(· rfl);try refine⟨?_,rfl⟩) | fail)
  all_goals (try rfl)
 rw [Bool.true_and]
 by_cases h16 :fs.length ≤ 16
 ·rw [decide_eq_true h16,Bool.true_and,← not_any]
  refine ret_gc rfl rfl ?_
  repeat' (first | refine ff ?_ | (apply EvR.aCall h1.at_;(· exact eva);(· apply h1.ok <;> exact sid);(rintro _ _ ⟨rfl,rfl⟩;refine EvR.nrm ?_;try simp only [hs])) | ((first | refine sR ?_ ?_ | refine sC ?_ ?_) <;> (intro hb;(try rw [hb]);(try simp only [bb] at hb);(try (exfalso;first | omega | exact hb trivial)))) | (apply endS trivial;rotate_left;(· exact eva);(· rfl);try refine⟨?_,rfl⟩) | fail)
  (apply EvR.aCall h3.at_;(· exact eva);(· exact  h3.ok _ fv fs _ (fun f =>!isField w h wr sp lo f.e f.x f.y) (hf.ext _) hn (fun f hm a b c hfl τ =>h2 _ (σ.length+0) w h wr sv lv fv a b c sp lo f.e f.x f.y true (by rw [List.append_assoc,hget];rfl) ⟨(r1.ext _).ext _,(r2.ext _).ext _⟩ n1 n2 (hfl.ext _) (hfit f hm).1 (hfit f hm).2.1 (hfit f hm).2.2));(rintro _ _ ⟨rfl,rfl⟩;refine EvR.nrm ?_))
  repeat' (first | refine ff ?_ | ((first | refine sR ?_ ?_ | refine sC ?_ ?_) <;> (intro hb;(try rw [hb]);(try simp only [bb] at hb);(try (exfalso;first | omega | exact hb trivial)))) | (apply endS trivial;rotate_left;(· exact eva);(· rfl);try refine⟨?_,rfl⟩) | fail)
  all_goals (try rfl)
 ·rw [decide_eq_false h16,Bool.false_and]
  refine ret_gc rfl rfl ?_
  repeat' (first | refine ff ?_ | (apply EvR.aCall h1.at_;(· exact eva);(· apply h1.ok <;> exact sid);(rintro _ _ ⟨rfl,rfl⟩;refine EvR.nrm ?_;try simp only [hs])) | ((first | refine sR ?_ ?_ | refine sC ?_ ?_) <;> (intro hb;(try rw [hb]);(try simp only [bb] at hb);(try (exfalso;first | omega | exact hb trivial)))) | (apply endS trivial;rotate_left;(· exact eva);(· rfl);try refine⟨?_,rfl⟩) | fail)
  all_goals (try rfl)
end Go.Abs
