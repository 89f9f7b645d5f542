/- Laws of functions: one frame of a film's bytes. Conditions: the laws of what they call. -/
import Derived.Test.YtaacdckenhnocaaFilmsL69
import Derived.Test.YtaacdckenhnocaaFilmsL38
import Derived.Test.YtaacdckenhnocaaFilmsL42
namespace Go.Abs
set_option linter.unusedSimpArgs false
set_option linter.unusedVariables false
set_option maxHeartbeats 8000000
set_option maxRecDepth 20000
def impl_frameAt_r0 :List SOper :=[
 ⟨some 6,none,.mov (.const (.slice none 0 0)),0⟩,
 ⟨some 7,none,.mov (.const (.int .i64 0)),1⟩,
 ⟨some 8,none,.mov (.const (.bool false)),3⟩]
def impl_frameAt_r1 :List SOper :=[
 ⟨some 12,none,.mov (.tmp 1),0⟩,
 ⟨some 13,none,.len true (.tmp 12),1⟩,
 ⟨some 14,none,.mov (.tmp 2),0⟩,
 ⟨some 15,none,.bin .add .other (.tmp 14) (.const (.int .i64 4)),4⟩,
 ⟨some 16,none,.bin .lss .other (.tmp 13) (.tmp 15),15⟩]
def impl_frameAt_r2 :List SOper :=[
 ⟨some 6,none,.mov (.const (.slice none 0 0)),0⟩,
 ⟨some 7,none,.mov (.const (.int .i64 0)),1⟩,
 ⟨some 8,none,.mov (.const (.bool false)),3⟩]
def impl_frameAt_r3 (i_impl_lowNumber :FuncId) :List SOper :=[
 ⟨some 17,none,.mov (.tmp 2),0⟩,
 ⟨some 18,none,.bin .add .other (.tmp 17) (.const (.int .i64 2)),1⟩,
 ⟨some 19,none,.mov (.tmp 1),0⟩,
 ⟨some 20,none,.mov (.tmp 2),0⟩,
 ⟨some 21,none,.mov (.tmp 2),0⟩,
 ⟨some 22,none,.bin .add .other (.tmp 21) (.const (.int .i64 2)),16⟩,
 ⟨some 23,none,.sliceStr (.tmp 19) (some (.tmp 20)) (some (.tmp 22)),60⟩,
 ⟨some 24,none,.call (.func i_impl_lowNumber) [(.tmp 23)],124⟩,
 ⟨some 25,none,.bin .add .other (.tmp 18) (.tmp 24),255⟩,
 ⟨some 9,none,.mov (.tmp 25),511⟩]
def impl_frameAt_r4 :List SOper :=[
 ⟨some 26,none,.mov (.tmp 1),0⟩,
 ⟨some 27,none,.len true (.tmp 26),1⟩,
 ⟨some 28,none,.mov (.tmp 9),0⟩,
 ⟨some 29,none,.bin .add .other (.tmp 28) (.const (.int .i64 2)),4⟩,
 ⟨some 30,none,.bin .lss .other (.tmp 27) (.tmp 29),15⟩]
def impl_frameAt_r5 :List SOper :=[
 ⟨some 6,none,.mov (.const (.slice none 0 0)),0⟩,
 ⟨some 7,none,.mov (.const (.int .i64 0)),1⟩,
 ⟨some 8,none,.mov (.const (.bool false)),3⟩]
def impl_frameAt_r6 (i_impl_ApplyChange :FuncId) :List SOper :=[
 ⟨some 32,none,.mov (.tmp 0),0⟩,
 ⟨some 33,none,.mov (.tmp 1),0⟩,
 ⟨some 34,none,.mov (.tmp 2),0⟩,
 ⟨some 35,none,.bin .add .other (.tmp 34) (.const (.int .i64 2)),4⟩,
 ⟨some 36,none,.mov (.tmp 9),0⟩,
 ⟨some 37,none,.sliceStr (.tmp 33) (some (.tmp 35)) (some (.tmp 36)),30⟩,
 ⟨some 38,none,.call (.func i_impl_ApplyChange) [(.tmp 32),(.tmp 37)],63⟩,
 ⟨some 31,none,.mov (.tmp 38),127⟩,
 ⟨some 39,none,.extract (.tmp 31) 0,255⟩,
 ⟨some 40,none,.extract (.tmp 31) 1,255⟩,
 ⟨some 10,none,.mov (.tmp 39),511⟩,
 ⟨some 11,none,.mov (.tmp 40),2047⟩]
def impl_frameAt_r7 (i_impl_withFrame :FuncId) :List SOper :=[
 ⟨some 41,none,.mov (.tmp 11),0⟩,
 ⟨some 42,none,.un .not (.tmp 41),1⟩,
 ⟨some 43,none,.mov (.tmp 42),3⟩,
  ⟨(some 44),(some (43,false)),.mov (.tmp 1),7⟩,
  ⟨(some 45),(some (43,false)),.mov (.tmp 2),7⟩,
  ⟨(some 46),(some (43,false)),.sliceStr (.tmp 44) none (some (.tmp 45)),31⟩,
  ⟨(some 47),(some (43,false)),.conv .toBytes (.tmp 46),63⟩,
  ⟨(some 48),(some (43,false)),.mov (.tmp 0),7⟩,
  ⟨(some 49),(some (43,false)),.mov (.tmp 10),7⟩,
  ⟨(some 50),(some (43,false)),.call (.func i_impl_withFrame) [(.tmp 47),(.tmp 48),(.tmp 49)],511⟩,
  ⟨(some 51),(some (43,false)),.conv .toStr (.tmp 50),1023⟩,
  ⟨(some 52),(some (43,false)),.mov (.tmp 1),7⟩,
  ⟨(some 53),(some (43,false)),.mov (.tmp 9),7⟩,
  ⟨(some 54),(some (43,false)),.bin .add .other (.tmp 53) (.const (.int .i64 2)),4103⟩,
  ⟨(some 55),(some (43,false)),.sliceStr (.tmp 52) none (some (.tmp 54)),14343⟩,
  ⟨(some 56),(some (43,false)),.bin .neq .other (.tmp 51) (.tmp 55),32767⟩,
 ⟨some 57,none,.pick (.tmp 43) (.const (.bool true)) (.tmp 56),65535⟩]
def impl_frameAt_r8 :List SOper :=[
 ⟨some 6,none,.mov (.const (.slice none 0 0)),0⟩,
 ⟨some 7,none,.mov (.const (.int .i64 0)),1⟩,
 ⟨some 8,none,.mov (.const (.bool false)),3⟩]
def impl_frameAt_r9 :List SOper :=[
 ⟨some 58,none,.mov (.tmp 10),0⟩,
 ⟨some 59,none,.mov (.tmp 9),0⟩,
 ⟨some 60,none,.bin .add .other (.tmp 59) (.const (.int .i64 2)),2⟩,
 ⟨some 6,none,.mov (.tmp 58),1⟩,
 ⟨some 7,none,.mov (.tmp 60),15⟩,
 ⟨some 8,none,.mov (.const (.bool true)),31⟩]
def impl_frameAt (i_impl_lowNumber i_impl_ApplyChange i_impl_withFrame :FuncId) :SFunc :=⟨61,[.tmp 6,.tmp 7,.tmp 8],(.kp [0,1,2] (.seq (.region impl_frameAt_r0 false) (.kp [0,1,2] (.seq (.seq (.region impl_frameAt_r1 false) (.kp [0,1,2,16] (.cond (.tmp 16) (.seq (.region impl_frameAt_r2 false) .ret) .skip))) (.kp [0,1,2] (.seq (.region (impl_frameAt_r3 i_impl_lowNumber) false) (.kp [0,1,2,9] (.seq (.seq (.region impl_frameAt_r4 false) (.kp [0,1,2,9,30] (.cond (.tmp 30) (.seq (.region impl_frameAt_r5 false) .ret) .skip))) (.kp [0,1,2,9] (.seq (.region (impl_frameAt_r6 i_impl_ApplyChange) false) (.kp [0,1,2,9,10,11] (.seq (.seq (.region (impl_frameAt_r7 i_impl_withFrame) true) (.kp [9,10,57] (.cond (.tmp 57) (.seq (.region impl_frameAt_r8 false) .ret) .skip))) (.kp [9,10] (.seq (.region impl_frameAt_r9 false) .ret))))))))))))))⟩
theorem streq4 (a b :List UInt8) :((str a).toList == (str b).toList)=decide (a=b) :=by
 rw [str_toList,str_toList,Bool.eq_iff_iff]
 simp
attribute [push_cast] Option.map_none streq4
def impl_lowNumber2_ok (c :Contract) :Prop :=∀ (σ :Heap)(l :List UInt8),l.length=2→Ret c [.string (str l)] σ fun v σ' =>v = .int .i64 (numB l :Nat)∧σ'=σ
theorem impl_lowNumber2_law {C :Ctab} :impl_lowNumber2_ok (gcC C impl_lowNumber true) :=by
 intro σ l hl
 refine ret_gc rfl rfl ?_
 repeat' (first | refine ff ?_ | ((first | refine sR ?_ ?_ | refine sC ?_ ?_) <;> (intro hb;(try rw [hb]);(try simp only [bb] at hb);(try (exfalso;first | omega | exact hb trivial)))) | (apply endS trivial;rotate_left;(· exact eva);(· rfl);try refine⟨?_,rfl⟩) | fail)
 refine Ev.whlC (S :=Nat × Nat) (fun st =>2 - st.1) (fun st =>[(3,.int .i64 (st.2 :Nat)),(4,.int .i64 (1 - (st.1 :Int)))]) (fun st =>st.1 ≤ 2∧st.2=numB (l.drop (2 - st.1))∧st.2 < 256 ^ st.1) (0,0) (by rw [hl];exact tF) ⟨Nat.zero_le _,by rw [← hl,Nat.sub_zero,List.drop_length];rfl,by simp⟩ ?_
 rintro⟨j,q⟩ F hF ⟨hj,hq,hb⟩
 dsimp only at hF hj hq hb
 (simp only [List.cons_append,List.nil_append,↓fget_cons,fkeep_cons,fkeep_nil,Nat.reduceEqDiff,reduceIte] at hF;subst hF)
 by_cases hlt :j < 2
 ·have hd :=numB_drop (l :=l) (i :=1 - j) (by omega)
  rw [show 1 - j+1=2 - j from by omega,← hq] at hd
  have hb2 :q < 4294967296 :=Nat.lt_of_lt_of_le hb (Nat.le_trans (Nat.pow_le_pow_right (by omega) hj) (by omega))
  have hb3 :q < 16777216 :=Nat.lt_of_lt_of_le hb (Nat.le_trans (Nat.pow_le_pow_right (by omega) (show j ≤ 1 by omega)) (by omega))
  have hbt :=UInt8.toNat_lt (l.getD (1 - j) 0)
  have ho :=or_val hb2 hbt
  have hs :=shl8_val hb2
  have hidx :(1 - (j :Int)).toNat=1 - j :=by omega
  repeat' (first | refine ff ?_ | ((first | refine sR ?_ ?_ | refine sC ?_ ?_) <;> (intro hb;(try rw [hb]);(try simp only [bb] at hb);(try (exfalso;first | omega | exact hb trivial)))) | (apply endS trivial;rotate_left;(· exact eva);(· rfl);try refine⟨?_,rfl⟩) | fail)
  rw [hidx,hs,ho]
  exact⟨(j+1,q * 256+(l.getD (1 - j) 0).toNat),by dsimp only;omega,by dsimp only;rw [show 1 - ((j+1 :Nat) :Int)=1 - (j :Int) - 1 from by omega];simp only [List.cons_append,List.nil_append,↓fget_cons,fkeep_cons,fkeep_nil,Nat.reduceEqDiff,reduceIte],rfl,by dsimp only;omega,by dsimp only;rw [show 2 - (j+1)=1 - j from by omega];exact hd.symm,by dsimp only;rw [Nat.pow_succ];omega⟩
 ·obtain rfl :j=2 :=by omega
  repeat' (first | refine ff ?_ | ((first | refine sR ?_ ?_ | refine sC ?_ ?_) <;> (intro hb;(try rw [hb]);(try simp only [bb] at hb);(try (exfalso;first | omega | exact hb trivial)))) | (apply endS trivial;rotate_left;(· exact eva);(· rfl);try refine⟨?_,rfl⟩) | fail)
  rw [hq];rfl
def wAll :SOp→Bool
 | .store _ _ _ | .append _ _ _ _ | .appendZ _ _ _ _ _ | .copy _ _ _ =>true
 | .call _ _ =>true
 | _ =>false
theorem Ev.regionW {C :Ctab}{F :Frame}{σ :Heap} {Q}{ops :List SOper}(hd :drawOkW wAll ops=true)(h :EvR C ops F σ fun F' σ' =>Q .normal F' σ') :Ev C (.region ops true) F σ Q :=
 Ev.regionD (drawOk_of (w :=wAll) (fun o _ hw =>by cases ho :o.op <;> rw [ho] at hw <;> first | rfl | (simp [SOp.writes] at hw)) hd) h
theorem aSl_eq {σ :Heap}{p :Option Addr}{n cap :Nat}{lo hi :Option Value}{a b :Nat}(h1 :idx lo 0=some (a :Int))(h2 :idx hi n=some (b :Int)) :aSliceSl σ 1 (.slice p n cap) lo hi=aSliceSl σ 1 (.slice p n cap) (some (.int .i64 a)) (some (.int .i64 b)) :=by
 have e1 :idx (some (.int .i64 (a :Int))) 0=some (a :Int) :=rfl
 have e2 :idx (some (.int .i64 (b :Int))) n=some (b :Int) :=rfl
 cases p <;> simp only [aSliceSl,h1,h2,e1,e2]
theorem EvR.slF {C :Ctab}{F :Frame}{τ l :Heap} {Q}{d k n a b :Nat}{rest :List SOper}{x :Operand}{lo hi :Option Operand}{v :Value}{xs :List Nat}(hr :Row τ 1 v n (f32s xs))(hx :eval F x=v)(hl :idx (lo.map (eval F)) 0=some (a :Int))(hh :idx (hi.map (eval F)) n=some (b :Int))(h1 :a ≤ b)(h2 :b ≤ n)
 (h :∀ w,Row τ 1 w (b - a) (f32s ((xs.drop a).take (b - a)))→EvR C rest ((d,w)::F) (τ++l) Q) :EvR C (⟨some d,none,.sliceSl 1 x lo hi,k⟩::rest) F (τ++l) Q :=by
 obtain⟨w,hw,hrow⟩ :=row_subF hr h1 h2
 refine EvR.opS (v :=w) (σ' :=τ++l) ?_ (h w hrow)
 have hv :∃ p cap,v = .slice p n cap :=by
  unfold Row at hr
  split at hr
  ·obtain⟨rfl,_⟩ :=hr;exact⟨_,_,rfl⟩
  ·obtain⟨rfl,_⟩ :=hr;exact⟨_,_,rfl⟩
  ·exact hr.elim
 obtain⟨p,cap,rfl⟩ :=hv
 simp only [evOp,hx]
 rw [aSl_eq hl hh,hw l]
 rfl
def frEnd (s :List UInt8)(p :Nat) :Nat :=p+2+numB ((s.drop p).take 2)
def frCh (s :List UInt8)(p :Nat) :List UInt8 :=(s.take (frEnd s p)).drop (p+2)
def frOf (last :List Nat)(s :List UInt8)(p :Nat) :Option (List Nat)→Option (List Nat)
 | none =>none
 | some now =>if s.take p++frameB (s.take p) last now=s.take (frEnd s p+2) then some now else none
def frAt (last :List Nat)(s :List UInt8)(p :Nat) :Option (List Nat) :=
 if p+4 ≤ s.length∧frEnd s p+2 ≤ s.length then frOf last s p (acOk last (frCh s p)) else none
def frRes (b e :Nat) :Option (List Nat)→Value
 | none =>.tuple #[.slice none 0 0,.int .i64 0,.bool false]
 | some u =>.tuple #[slV b u.length,.int .i64 (e :Nat),.bool true]
theorem frAt_f1 {last :List Nat}{s :List UInt8}{p :Nat}(h :¬ (p+4 ≤ s.length∧frEnd s p+2 ≤ s.length)) :frAt last s p=none :=if_neg h
theorem frAt_f2 {last :List Nat}{s :List UInt8}{p :Nat}(h :acOk last (frCh s p)=none) :frAt last s p=none :=by
 unfold frAt;rw [h];split <;> rfl
theorem frAt_f3 {last now :List Nat}{s :List UInt8}{p :Nat}(h :acOk last (frCh s p)=some now)(h2 :¬ (s.take p++frameB (s.take p) last now=s.take (frEnd s p+2))) :frAt last s p=none :=by
 unfold frAt;rw [h];split
 ·exact if_neg h2
 ·rfl
theorem frAt_t {last now :List Nat}{s :List UInt8}{p :Nat}(h1 :p+4 ≤ s.length)(h3 :frEnd s p+2 ≤ s.length)(h :acOk last (frCh s p)=some now)(h2 :s.take p++frameB (s.take p) last now=s.take (frEnd s p+2)) :frAt last s p=some now :=by
 unfold frAt;rw [h,if_pos ⟨h1,h3⟩];exact if_pos h2
theorem appl_lows {a :List Nat}{s :List UInt8}(la :lows a) :∀ (f p :Nat)(u w :List Nat),lows u→appl a s f p u=some w→lows w
 | 0,p,u,w,h,h4 =>by rw [appl] at h4;cases h4
 | f+1,p,u,w,h,h4 =>by
  by_cases hp :p < s.length
  ·by_cases hn :s.length < p+2
   ·rw [appl_n1 hp hn] at h4;cases h4
   by_cases hn2 :a.length < u.length+zAt s p+zAt s (p+1)∨s.length < p+2+4 * zAt s (p+1)
   ·rw [appl_n2 hp hn hn2] at h4;cases h4
   rw [appl_go hp hn hn2] at h4
   exact appl_lows la f _ _ w (lows_step la h _ _ _ _) h4
  ·rw [appl_end hp] at h4;cases h4;exact h
theorem acOk_lows {a u :List Nat}{s :List UInt8}(la :lows a)(h :acOk a s=some u) :lows u :=by
 unfold acOk at h
 split at h
 ·cases hR :appl a s (s.length+1) 0 [] with
  | none =>rw [hR] at h;cases h
  | some w =>
   rw [hR] at h
   simp only [acOf] at h
   split at h
   ·simp only [Option.some.injEq] at h;subst h;exact appl_lows la _ _ _ _ (fun i hi =>by simp at hi) hR
   ·cases h
 ·cases h
theorem acOk_len4 {a u :List Nat}{s :List UInt8}(h :acOk a s=some u) :u.length=a.length :=by
 unfold acOk at h
 split at h
 ·cases hR :appl a s (s.length+1) 0 [] with
  | none =>rw [hR] at h;cases h
  | some w =>
   rw [hR] at h
   simp only [acOf] at h
   split at h
   ·rename_i hc;simp only [Option.some.injEq] at h;subst h;exact hc.1
   ·cases h
 ·cases h
def impl_frameAt_ok (c :Contract) :Prop :=∀ (σ :Heap)(va :Value)(last :List Nat)(s :List UInt8)(p :Nat),Row σ 1 va last.length (f32s last)→lows last→last.length ≤ 768→s.length ≤ 65536→p ≤ s.length →
 Ret c [va,.string (str s),.int .i64 p] σ fun v σ' =>v=frRes σ.length (frEnd s p+2) (frAt last s p)∧σ'=σ++afRows (frAt last s p)
theorem impl_frameAt_law {C :Ctab}{i1 i2 i3 :FuncId}{c1 c2 c3 :Contract}(h1 :Has C i1 c1 impl_lowNumber2_ok)(h2 :Has C i2 c2 impl_ApplyChange_ok)(h3 :HasW C i3 c3 impl_withFrame_ok) :impl_frameAt_ok (gcC C (impl_frameAt i1 i2 i3) true) :=by
 intro σ va last s p r1 la hl hs hp
 have k1 :=r1.ok
 by_cases h4 :p+4 ≤ s.length
 rotate_left
 ·rw [frAt_f1 (by omega)]
  refine ret_gc rfl rfl ?_
  repeat' (first | refine ff ?_ | ((first | refine sR ?_ ?_ | refine sC ?_ ?_) <;> (intro hb;(try rw [hb]);(try simp only [bb] at hb);(try (exfalso;first | omega | exact hb trivial)))) | (apply endS trivial;rotate_left;(· exact eva);(· rfl);try refine⟨?_,rfl⟩) | fail)
  all_goals simp [frRes,afRows]
 obtain⟨w,hw⟩ :∃ w,w=(s.drop p).take 2 :=⟨_,rfl⟩
 have hwl :w.length=2 :=by rw [hw,List.length_take,List.length_drop];omega
 have hws :(s.take (p+2)).drop p=w :=by rw [hw,List.drop_take];congr 1;omega
 have hb :=numB_lt w
 rw [hwl] at hb
 have hE :frEnd s p=p+2+numB w :=by rw [hw];rfl
 obtain⟨z,hz⟩ :∃ z,z=numB w :=⟨_,rfl⟩
 rw [← hz] at hb hE
 have hpt :((p :Int)+2).toNat=p+2 :=by omega
 by_cases h5 :frEnd s p+2 ≤ s.length
 rotate_left
 ·rw [frAt_f1 (by omega)]
  refine ret_gc rfl rfl ?_
  repeat' (first | refine ff ?_ | ((first | refine sR ?_ ?_ | refine sC ?_ ?_) <;> (intro hb;(try rw [hb]);(try simp only [bb] at hb);(try (exfalso;first | omega | exact hb trivial)))) | (apply endS trivial;rotate_left;(· exact eva);(· rfl);try refine⟨?_,rfl⟩) | fail)
  rw [hpt,hws]
  (apply EvR.aCall h1.at_;(· exact eva);(· exact  h1.ok _ w hwl);(rintro _ _ ⟨rfl,rfl⟩;refine EvR.nrm ?_))
  rw [← hz]
  repeat' (first | refine ff ?_ | ((first | refine sR ?_ ?_ | refine sC ?_ ?_) <;> (intro hb;(try rw [hb]);(try simp only [bb] at hb);(try (exfalso;first | omega | exact hb trivial)))) | (apply endS trivial;rotate_left;(· exact eva);(· rfl);try refine⟨?_,rfl⟩) | fail)
  all_goals simp [frRes,afRows]
 have hch :(s.take ((p :Int)+2+(z :Int)).toNat).drop ((p :Int)+2).toNat=frCh s p :=by
  unfold frCh
  rw [hE,show ((p :Int)+2+(z :Int)).toNat=p+2+z from by omega,hpt]
 have hcl :(frCh s p).length ≤ 1048576 :=by
  unfold frCh;rw [List.length_drop,List.length_take];omega
 cases hA :acOk last (frCh s p) with
 | none =>
  rw [frAt_f2 hA]
  refine ret_gc rfl rfl ?_
  repeat' (first | refine ff ?_ | ((first | refine sR ?_ ?_ | refine sC ?_ ?_) <;> (intro hb;(try rw [hb]);(try simp only [bb] at hb);(try (exfalso;first | omega | exact hb trivial)))) | (apply endS trivial;rotate_left;(· exact eva);(· rfl);try refine⟨?_,rfl⟩) | fail)
  rw [hpt,hws]
  (apply EvR.aCall h1.at_;(· exact eva);(· exact  h1.ok _ w hwl);(rintro _ _ ⟨rfl,rfl⟩;refine EvR.nrm ?_))
  rw [← hz]
  repeat' (first | refine ff ?_ | ((first | refine sR ?_ ?_ | refine sC ?_ ?_) <;> (intro hb;(try rw [hb]);(try simp only [bb] at hb);(try (exfalso;first | omega | exact hb trivial)))) | (apply endS trivial;rotate_left;(· exact eva);(· rfl);try refine⟨?_,rfl⟩) | fail)
  rw [hch]
  (apply EvR.aCall h2.at_;(· exact eva);(· exact  h2.ok _ va last (frCh s p) (r1.ext _) la (by omega) hcl);(rintro _ _ ⟨rfl,rfl⟩;refine EvR.nrm ?_))
  rw [hA]
  simp only [afRes,afRows,List.append_nil]
  refine EvR.base fun S hS =>?_
  subst hS
  refine EvR.nrm ?_
  repeat' (first | refine ff ?_ | ((first | refine sR ?_ ?_ | refine sC ?_ ?_) <;> (intro hb;(try rw [hb]);(try simp only [bb] at hb);(try (exfalso;first | omega | exact hb trivial)))) | (apply endS trivial;rotate_left;(· exact eva);(· rfl);try refine⟨?_,rfl⟩) | fail)
  refine Ev.regionW (by kernel_rfl) ?_
  repeat' (first | refine ff ?_ | ((first | refine sR ?_ ?_ | refine sC ?_ ?_) <;> (intro hb;(try rw [hb]);(try simp only [bb] at hb);(try (exfalso;first | omega | exact hb trivial)))) | (apply endS trivial;rotate_left;(· exact eva);(· rfl);try refine⟨?_,rfl⟩) | fail)
  all_goals simp [frRes,afRows]
 | some now =>
  have hnl :=acOk_len4 hA
  have hnw :=acOk_lows la hA
  have htk :(s.take p).length=p :=by rw [List.length_take];omega
  have hfb :=frameB_len (s.take p) last now
  refine ret_gc rfl rfl ?_
  repeat' (first | refine ff ?_ | ((first | refine sR ?_ ?_ | refine sC ?_ ?_) <;> (intro hb;(try rw [hb]);(try simp only [bb] at hb);(try (exfalso;first | omega | exact hb trivial)))) | (apply endS trivial;rotate_left;(· exact eva);(· rfl);try refine⟨?_,rfl⟩) | fail)
  rw [hpt,hws]
  (apply EvR.aCall h1.at_;(· exact eva);(· exact  h1.ok _ w hwl);(rintro _ _ ⟨rfl,rfl⟩;refine EvR.nrm ?_))
  rw [← hz]
  repeat' (first | refine ff ?_ | ((first | refine sR ?_ ?_ | refine sC ?_ ?_) <;> (intro hb;(try rw [hb]);(try simp only [bb] at hb);(try (exfalso;first | omega | exact hb trivial)))) | (apply endS trivial;rotate_left;(· exact eva);(· rfl);try refine⟨?_,rfl⟩) | fail)
  rw [hch]
  (apply EvR.aCall h2.at_;(· exact eva);(· exact  h2.ok _ va last (frCh s p) (r1.ext _) la (by omega) hcl);(rintro _ _ ⟨rfl,rfl⟩;refine EvR.nrm ?_))
  rw [hA]
  simp only [afRes,afRows]
  refine EvR.nrm ?_
  repeat' (first | refine ff ?_ | ((first | refine sR ?_ ?_ | refine sC ?_ ?_) <;> (intro hb;(try rw [hb]);(try simp only [bb] at hb);(try (exfalso;first | omega | exact hb trivial)))) | (apply endS trivial;rotate_left;(· exact eva);(· rfl);try refine⟨?_,rfl⟩) | fail)
  refine Ev.regionW (by kernel_rfl) ?_
  repeat' (first | refine ff ?_ | ((first | refine sR ?_ ?_ | refine sC ?_ ?_) <;> (intro hb;(try rw [hb]);(try simp only [bb] at hb);(try (exfalso;first | omega | exact hb trivial)))) | (apply endS trivial;rotate_left;(· exact eva);(· rfl);try refine⟨?_,rfl⟩) | fail)
  have hmn :min p s.length=(s.take p).length :=(List.length_take ..).symm
  have hX :(s.take ((p :Int)+2+(z :Int)+2).toNat)=s.take (frEnd s p+2) :=by rw [hE];congr 1
  have hrn :Row (σ++[rowO now,⟨b8s (s.take p),1,true⟩]) 1 (slV (σ.length+0) now.length) now.length (f32s now) :=Row.whole (hget _ _ 0) (by omega) (by rw [f32s_length];omega)
  have H3 :=h3.ok (σ++[rowO now,⟨b8s (s.take p),1,true⟩]) (σ.length+1) (s.take p) va (slV (σ.length+0) now.length) last now (hget _ _ 1) (r1.ext _) hrn hnl (by omega) la hnw (by omega)
  rw [← hmn] at H3
  apply EvR.aCall h3.at_;(· exact eva);(· exact H3);rintro _ _ ⟨rfl,t,rfl⟩
  rw [set_app]
  simp only [List.set_cons_succ,List.set_cons_zero,List.append_assoc,List.cons_append,List.nil_append]
  have hq1 :¬ (s.take p++frameB (s.take p) last now=s.take (frEnd s p+2))→frAt last s p=none :=fun h =>frAt_f3 hA h
  have hq2 :s.take p++frameB (s.take p) last now=s.take (frEnd s p+2)→frAt last s p=some now :=fun h =>frAt_t h4 h5 hA h
  have hol :(s.take p++frameB (s.take p) last now).length ≤ 1000000 :=by rw [List.length_append];omega
  generalize s.take p++frameB (s.take p) last now=o2 at *
  refine EvR.nrm ?_
  repeat' (first | refine ff ?_ | ((first | refine sR ?_ ?_ | refine sC ?_ ?_) <;> (intro hb;(try rw [hb]);(try simp only [bb] at hb);(try (exfalso;first | omega | exact hb trivial)))) | (apply endS trivial;rotate_left;(· exact eva);(· rfl);try refine⟨?_,rfl⟩) | fail)
  ·rw [hq1 (by rw [← hX];exact hb)]
   exact⟨rfl,(List.append_nil _).symm⟩
  ·rw [hq2 (by rw [← hX];exact hb)]
   rw [show (p :Int)+2+(z :Int)+2=((frEnd s p+2 :Nat) :Int) from by omega]
   generalize frEnd s p+2=e2
   apply endR [0] trivial ⟨(rfl :(Value.tuple #[slV σ.length now.length,.int .i64 (e2 :Int),.bool true])=frRes σ.length e2 (some now)),rfl⟩;(· exact eva);(· simp [gcTop,gcVal,gcLeaf,gcLeaves,gcVals,constOk,gc_lt,gc_lt0]);(· rfl);(· decide);(· simp [allConst,f32s,i64s,b8s,bools,constOk])
end Go.Abs
