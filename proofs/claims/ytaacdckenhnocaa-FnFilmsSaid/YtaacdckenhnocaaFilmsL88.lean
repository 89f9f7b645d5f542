/- Laws of functions: whether numbers are the same, NaN among them; fields and films that are the same. Conditions: the laws of what they call. -/
import Derived.Test.YtaacdckenhnocaaFilmsL36
import Derived.Test.YtaacdckenhnocaaFilmsL27
import Derived.Test.YtaacdckenhnocaaFilmsL69
import Derived.Test.YtaacdckenhnocaaFilmsL08
namespace Go.Abs
set_option linter.unusedSimpArgs false
set_option linter.unusedVariables false
set_option maxHeartbeats 8000000
set_option maxRecDepth 20000
def impl_SameField_r0 :List SOper :=[
 ⟨some 2,none,.box (.tmp 0),0⟩,
 ⟨some 3,none,.box (.tmp 1),0⟩,
 ⟨some 4,none,.mov (.const (.bool false)),0⟩]
def impl_SameField_r1 (i_impl_sameNumbers :FuncId) :List SOper :=[
 ⟨some 5,none,.fieldAddr 0 (.tmp 2),0⟩,
 ⟨some 6,none,.load1 (.tmp 5),1⟩,
 ⟨some 7,none,.fieldAddr 0 (.tmp 3),0⟩,
 ⟨some 8,none,.load1 (.tmp 7),4⟩,
 ⟨some 9,none,.call (.func i_impl_sameNumbers) [(.tmp 6),(.tmp 8)],15⟩,
 ⟨some 10,none,.mov (.tmp 9),31⟩,
  ⟨(some 11),(some (10,true)),.fieldAddr 1 (.tmp 2),63⟩,
  ⟨(some 12),(some (10,true)),.load1 (.tmp 11),127⟩,
  ⟨(some 13),(some (10,true)),.fieldAddr 1 (.tmp 3),63⟩,
  ⟨(some 14),(some (10,true)),.load1 (.tmp 13),319⟩,
  ⟨(some 15),(some (10,true)),.call (.func i_impl_sameNumbers) [(.tmp 12),(.tmp 14)],1023⟩,
 ⟨some 16,none,.pick (.tmp 10) (.tmp 15) (.const (.bool false)),2047⟩,
 ⟨some 17,none,.mov (.tmp 16),4095⟩,
  ⟨(some 18),(some (17,true)),.fieldAddr 2 (.tmp 2),8191⟩,
  ⟨(some 19),(some (17,true)),.load1 (.tmp 18),16383⟩,
  ⟨(some 20),(some (17,true)),.fieldAddr 2 (.tmp 3),8191⟩,
  ⟨(some 21),(some (17,true)),.load1 (.tmp 20),40959⟩,
  ⟨(some 22),(some (17,true)),.call (.func i_impl_sameNumbers) [(.tmp 19),(.tmp 21)],131071⟩,
 ⟨some 23,none,.pick (.tmp 17) (.tmp 22) (.const (.bool false)),262143⟩,
 ⟨some 4,none,.mov (.tmp 23),524287⟩]
def impl_SameField (i_impl_sameNumbers :FuncId) :SFunc :=⟨24,[.tmp 4],(.kp [0,1] (.seq (.region impl_SameField_r0 false) (.kp [2,3] (.seq (.region (impl_SameField_r1 i_impl_sameNumbers) false) .ret))))⟩
theorem nanC :isNaN .f32 2143289344=true :=by decide +kernel
def SameNumberN_ok (c :Contract) :Prop :=∀ (σ :Heap)(a b :Nat),a < 4294967296→b < 4294967296→Ret c [.float .f32 a,.float .f32 b] σ fun v σ' =>v = .bool (decide (bitsC a=bitsC b))∧σ'=σ
abbrev impl_SameNumberN_ok :=SameNumberN_ok
theorem bitsC_n {a :Nat}(h :isNaN .f32 a=true) :bitsC a=2143289344 :=by unfold bitsC;rw [if_pos h]
theorem bitsC_f {a :Nat}(h :isNaN .f32 a=false) :bitsC a=a :=by unfold bitsC;rw [if_neg (by rw [h];simp)]
theorem bitsC_ne {a :Nat}(h :isNaN .f32 a=false) :a ≠ 2143289344 :=by rintro rfl;rw [nanC] at h;cases h
theorem impl_SameNumberN_law {C :Ctab}{i :FuncId}{c :Contract}(h1 :Has C i c math_Signbit_ok) :impl_SameNumberN_ok (gcC C (impl_SameNumber i) true) :=by
 intro σ a b ha hb
 cases hna :isNaN .f32 a
 ·have sa :feq .f32 a a=true :=by rw [feq_self,hna];rfl
  rw [bitsC_f hna]
  cases hnb :isNaN .f32 b
  ·have sb :feq .f32 b b=true :=by rw [feq_self,hnb];rfl
   rw [bitsC_f hnb]
   obtain⟨wa1,wa2,wa3⟩ :=wide_sign ha hna
   obtain⟨wb1,wb2,wb3⟩ :=wide_sign hb hnb
   have hs :=same_bits ha hb hna hnb
   rw [← wa2,← wb2] at hs
   rw [← hs]
   refine ret_gc rfl rfl ?_
   repeat' (first | refine ff ?_ | (apply EvR.aCall h1.at_;(· exact eva);(· apply h1.ok <;> exact sid);(rintro _ _ ⟨rfl,rfl⟩;refine EvR.nrm ?_)) | ((first | refine sR ?_ ?_ | refine sC ?_ ?_) <;> (intro hb;(try rw [hb]);(try simp only [bb] at hb);(try (exfalso;first | omega | exact hb trivial)))) | (apply endS trivial;rotate_left;(· exact eva);(· rfl);try refine⟨?_,rfl⟩) | fail)
   all_goals simp_all
  ·have sb :feq .f32 b b=false :=by rw [feq_self,hnb];rfl
   rw [bitsC_n hnb,decide_eq_false (bitsC_ne hna)]
   refine ret_gc rfl rfl ?_
   repeat' (first | refine ff ?_ | ((first | refine sR ?_ ?_ | refine sC ?_ ?_) <;> (intro hb;(try rw [hb]);(try simp only [bb] at hb);(try (exfalso;first | omega | exact hb trivial)))) | (apply endS trivial;rotate_left;(· exact eva);(· rfl);try refine⟨?_,rfl⟩) | fail)
   all_goals simp_all
 ·have sa :feq .f32 a a=false :=by rw [feq_self,hna];rfl
  rw [bitsC_n hna]
  cases hnb :isNaN .f32 b
  ·have sb :feq .f32 b b=true :=by rw [feq_self,hnb];rfl
   rw [bitsC_f hnb,decide_eq_false (Ne.symm (bitsC_ne hnb))]
   refine ret_gc rfl rfl ?_
   repeat' (first | refine ff ?_ | ((first | refine sR ?_ ?_ | refine sC ?_ ?_) <;> (intro hb;(try rw [hb]);(try simp only [bb] at hb);(try (exfalso;first | omega | exact hb trivial)))) | (apply endS trivial;rotate_left;(· exact eva);(· rfl);try refine⟨?_,rfl⟩) | fail)
   all_goals simp_all
  ·have sb :feq .f32 b b=false :=by rw [feq_self,hnb];rfl
   rw [bitsC_n hnb,decide_eq_true rfl]
   refine ret_gc rfl rfl ?_
   repeat' (first | refine ff ?_ | ((first | refine sR ?_ ?_ | refine sC ?_ ?_) <;> (intro hb;(try rw [hb]);(try simp only [bb] at hb);(try (exfalso;first | omega | exact hb trivial)))) | (apply endS trivial;rotate_left;(· exact eva);(· rfl);try refine⟨?_,rfl⟩) | fail)
   all_goals simp_all
def sameL (xs ys :List Nat) :Bool :=decide (xs.map bitsC=ys.map bitsC)
def in32N (xs :List Nat) :Prop :=∀ i,xs.getD i 0 < 4294967296
theorem in32N_of {xs :List Nat}(h :∀ x ∈ xs,x < 4294967296) :in32N xs :=fun i =>by
 rw [List.getD_eq_getElem?_getD]
 cases hx :xs[i]? with
 | none =>simp
 | some x =>exact h x (List.mem_of_getElem? hx)
theorem bits_getD (xs :List Nat)(i :Nat) :bitsC (xs.getD i 0)=(xs.map bitsC).getD i 0 :=by
 rw [List.getD_eq_getElem?_getD,List.getD_eq_getElem?_getD,List.getElem?_map]
 cases xs[i]? with
 | none =>simp [bitsC];decide +kernel
 | some x =>rfl
theorem sameL_ne {xs ys :List Nat}{i :Nat}(h :bitsC (xs.getD i 0) ≠ bitsC (ys.getD i 0)) :sameL xs ys=false :=by
 rw [bits_getD,bits_getD] at h
 exact list_ne h
theorem sameL_eq {xs ys :List Nat}(hl :xs.length=ys.length)(h :∀ j,j < xs.length→bitsC (xs.getD j 0)=bitsC (ys.getD j 0)) :sameL xs ys=true :=
 list_eq (by rw [List.length_map,List.length_map];exact hl) fun j hj =>by rw [← bits_getD,← bits_getD];exact h j (by rw [List.length_map] at hj;exact hj)
theorem sameL_len {xs ys :List Nat}(hl :xs.length ≠ ys.length) :sameL xs ys=false :=decide_eq_false fun e =>hl (by have :=congrArg List.length e;rwa [List.length_map,List.length_map] at this)
def sameAllN_ok (c :Contract) :Prop :=∀ (σ :Heap)(v u :Value)(xs ys :List Nat),Row σ 1 v xs.length (f32s xs)→Row σ 1 u ys.length (f32s ys)→xs.length ≤ 1048576→ys.length ≤ 1048576→in32N xs→in32N ys →
 Ret c [v,u] σ fun v' σ' =>v' = .bool (sameL xs ys)∧σ'=σ
abbrev impl_sameNumbersN_ok :=sameAllN_ok
theorem impl_sameNumbersN_law {C :Ctab}{i1 :FuncId}{c1 :Contract}(h1 :Has C i1 c1 impl_SameNumberN_ok) :impl_sameNumbersN_ok (gcC C (impl_sameNumbers i1) true) :=by
 intro σ v u xs ys r1 r2 hl1 hl2 n1 n2
 have k1 :=r1.ok
 have k2 :=r2.ok
 by_cases hl :xs.length=ys.length
 ·refine ret_gc rfl rfl ?_
  repeat' (first | refine ff ?_ | ((first | refine sR ?_ ?_ | refine sC ?_ ?_) <;> (intro hb;(try rw [hb]);(try simp only [bb] at hb);(try (exfalso;first | omega | exact hb trivial)))) | (apply endS trivial;rotate_left;(· exact eva);(· rfl);try refine⟨?_,rfl⟩) | fail)
  refine Ev.whlC (S :=Nat) (fun i =>xs.length - i) (fun i =>[(13,.int .i64 i)]) (fun i =>i ≤ xs.length ∧ ∀ j,j < i→bitsC (xs.getD j 0)=bitsC (ys.getD j 0)) 0 (by exact tF) ⟨Nat.zero_le _,fun j hj =>by omega⟩ ?_
  rintro i F hF ⟨hi,hg⟩
  (simp only [List.cons_append,List.nil_append,↓fget_cons,fkeep_cons,fkeep_nil,Nat.reduceEqDiff,reduceIte] at hF;subst hF)
  by_cases hlt :i < xs.length
  ·have a1 :=n1 i
   have b1 :=n2 i
   repeat' (first | refine ff ?_ | ((first | refine sR ?_ ?_ | refine sC ?_ ?_) <;> (intro hb;(try rw [hb]);(try simp only [bb] at hb);(try (exfalso;first | omega | exact hb trivial)))) | (apply endS trivial;rotate_left;(· exact eva);(· rfl);try refine⟨?_,rfl⟩) | fail)
   (apply EvR.aCall h1.at_;(· exact eva);(· exact  h1.ok _ (xs.getD i 0) (ys.getD i 0) a1 b1);(rintro _ _ ⟨rfl,rfl⟩;refine EvR.nrm ?_))
   by_cases he :bitsC (xs.getD i 0)=bitsC (ys.getD i 0)
   ·rw [decide_eq_true he]
    repeat' (first | refine ff ?_ | ((first | refine sR ?_ ?_ | refine sC ?_ ?_) <;> (intro hb;(try rw [hb]);(try simp only [bb] at hb);(try (exfalso;first | omega | exact hb trivial)))) | (apply endS trivial;rotate_left;(· exact eva);(· rfl);try refine⟨?_,rfl⟩) | fail)
    refine⟨i+1,by omega,by exact tF,rfl,by omega,fun j hj =>?_⟩
    rcases Nat.lt_or_ge j i with hji | hji
    ·exact hg j hji
    ·obtain rfl :j=i :=by omega
     exact he
   ·rw [decide_eq_false he,sameL_ne he]
    repeat' (first | refine ff ?_ | ((first | refine sR ?_ ?_ | refine sC ?_ ?_) <;> (intro hb;(try rw [hb]);(try simp only [bb] at hb);(try (exfalso;first | omega | exact hb trivial)))) | (apply endS trivial;rotate_left;(· exact eva);(· rfl);try refine⟨?_,rfl⟩) | fail)
    all_goals (try rfl)
  ·obtain rfl :i=xs.length :=by omega
   rw [sameL_eq hl hg]
   repeat' (first | refine ff ?_ | ((first | refine sR ?_ ?_ | refine sC ?_ ?_) <;> (intro hb;(try rw [hb]);(try simp only [bb] at hb);(try (exfalso;first | omega | exact hb trivial)))) | (apply endS trivial;rotate_left;(· exact eva);(· rfl);try refine⟨?_,rfl⟩) | fail)
   all_goals (try rfl)
 ·rw [sameL_len hl]
  refine ret_gc rfl rfl ?_
  repeat' (first | refine ff ?_ | ((first | refine sR ?_ ?_ | refine sC ?_ ?_) <;> (intro hb;(try rw [hb]);(try simp only [bb] at hb);(try (exfalso;first | omega | exact hb trivial)))) | (apply endS trivial;rotate_left;(· exact eva);(· rfl);try refine⟨?_,rfl⟩) | fail)
  all_goals (try rfl)
def sameSN (w h :Int)(wr :Bool)(sp lo :List Nat)(w' h' :Int)(wr' :Bool)(sp' lo' :List Nat) :Bool :=(((decide (w=w') && decide (h=h')) && decide (wr=wr')) && sameL sp sp') && sameL lo lo'
def SameSheetNN_ok (c :Contract) :Prop :=∀ (σ :Heap)(w h :Int)(wr :Bool)(sv lv :Value)(sp lo :List Nat)(w' h' :Int)(wr' :Bool)(sv' lv' :Value)(sp' lo' :List Nat),ShR σ sv lv sp lo→ShR σ sv' lv' sp' lo'→sp.length ≤ 1048576→lo.length ≤ 1048576→sp'.length ≤ 1048576→lo'.length ≤ 1048576→in32N sp→in32N lo→in32N sp'→in32N lo' →
 Ret c [shV w h wr sv lv,shV w' h' wr' sv' lv'] σ fun v σ' =>v = .bool (sameSN w h wr sp lo w' h' wr' sp' lo')∧σ'=σ
abbrev impl_SameSheetN_ok :=SameSheetNN_ok
theorem impl_SameSheetN_law {C :Ctab}{i1 :FuncId}{c1 :Contract}(h1 :Has C i1 c1 impl_sameNumbersN_ok) :impl_SameSheetN_ok (gcC C (impl_SameSheet i1) true) :=by
 intro σ w h wr sv lv sp lo w' h' wr' sv' lv' sp' lo' ⟨r1,r2⟩ ⟨r3,r4⟩ m1 m2 m3 m4 n1 n2 n3 n4
 have k1 :=r1.ok
 have k2 :=r2.ok
 have k3 :=r3.ok
 have k4 :=r4.ok
 refine ret_gc rfl rfl ?_
 repeat' (first | refine ff ?_ | (apply EvR.aCall h1.at_;(· exact eva);(· apply h1.ok <;> exact sid);(rintro _ _ ⟨rfl,rfl⟩;refine EvR.nrm ?_)) | ((first | refine sR ?_ ?_ | refine sC ?_ ?_) <;> (intro hb;(try rw [hb]);(try simp only [bb] at hb);(try (exfalso;first | omega | exact hb trivial)))) | (apply endS trivial;rotate_left;(· exact eva);(· rfl);try refine⟨?_,rfl⟩) | fail)
 all_goals (unfold sameSN;grind)
def sameFl (f g :Fld) :Bool :=(sameL f.e g.e && sameL f.x g.x) && sameL f.y g.y
def lowF1 (f :Fld) :Prop :=in32N f.e∧in32N f.x∧in32N f.y
def SameFieldN_ok (c :Contract) :Prop :=∀ (σ :Heap)(a b d a' b' d' :Value)(f g :Fld),FlR σ a b d f.e f.x f.y→FlR σ a' b' d' g.e g.x g.y→fitF f→fitF g→lowF1 f→lowF1 g →
 Ret c [fV a b d,fV a' b' d'] σ fun v σ' =>v = .bool (sameFl f g)∧σ'=σ
abbrev impl_SameField_ok :=SameFieldN_ok
theorem impl_SameField_law {C :Ctab}{i1 :FuncId}{c1 :Contract}(h1 :Has C i1 c1 impl_sameNumbersN_ok) :impl_SameField_ok (gcC C (impl_SameField i1) true) :=by
 intro σ a b d a' b' d' f g ⟨r1,r2,r3⟩ ⟨s1,s2,s3⟩ ⟨m1,m2,m3⟩ ⟨l1,l2,l3⟩ ⟨p1,p2,p3⟩ ⟨q1,q2,q3⟩
 have k1 :=r1.ok
 have k2 :=r2.ok
 have k3 :=r3.ok
 have k4 :=s1.ok
 have k5 :=s2.ok
 have k6 :=s3.ok
 unfold sameFl
 refine ret_gc rfl rfl ?_
 repeat' (first | refine ff ?_ | (apply EvR.aCall h1.at_;(· exact eva);(· apply h1.ok <;> exact sid);(rintro _ _ ⟨rfl,rfl⟩;refine EvR.nrm ?_)) | ((first | refine sR ?_ ?_ | refine sC ?_ ?_) <;> (intro hb;(try rw [hb]);(try simp only [bb] at hb);(try (exfalso;first | omega | exact hb trivial)))) | (apply endS trivial;rotate_left;(· exact eva);(· rfl);try refine⟨?_,rfl⟩) | fail)
 all_goals grind
end Go.Abs
