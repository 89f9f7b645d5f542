/- Laws of functions: the bytes of a film, by the program and by the reference. Conditions: the laws of what they call. -/
import Derived.Test.YtaacdckenhnocaaFilmsL69
import Derived.Test.YtaacdckenhnocaaFilmsL89
import Derived.Test.YtaacdckenhnocaaFilmsL39
namespace Go.Abs
set_option linter.unusedSimpArgs false
set_option linter.unusedVariables false
set_option maxHeartbeats 8000000
set_option maxRecDepth 20000
def impl_StoreFilm_r0 :List SOper :=[
 ⟨some 1,none,.box (.tmp 0),0⟩,
 ⟨some 2,none,.mov (.const (.string ⟨#[]⟩)),0⟩,
 ⟨some 3,none,.mov (.const (.bool false)),2⟩]
def impl_StoreFilm_r1 (i_impl_ValidFilm :FuncId) :List SOper :=[
 ⟨some 9,none,.loadN 6 (.tmp 1),0⟩,
 ⟨some 10,none,.call (.func i_impl_ValidFilm) [(.tmp 9)],1⟩,
 ⟨some 11,none,.un .not (.tmp 10),3⟩]
def impl_StoreFilm_r2 :List SOper :=[
 ⟨some 2,none,.mov (.const (.string ⟨#[]⟩)),0⟩,
 ⟨some 3,none,.mov (.const (.bool false)),1⟩]
def impl_StoreFilm_r3 (i_impl_sheetBytes i_impl_zeroField i_impl_numbersOf :FuncId) :List SOper :=[
 ⟨some 12,none,.fieldAddr 0 (.tmp 1),0⟩,
 ⟨some 13,none,.loadN 5 (.tmp 12),1⟩,
 ⟨some 14,none,.call (.func i_impl_sheetBytes) [(.tmp 13)],3⟩,
 ⟨some 15,none,.fieldAddr 0 (.tmp 1),0⟩,
 ⟨some 16,none,.loadN 5 (.tmp 15),8⟩,
 ⟨some 17,none,.call (.func i_impl_zeroField) [(.tmp 16)],31⟩,
 ⟨some 18,none,.call (.func i_impl_numbersOf) [(.tmp 17)],63⟩,
 ⟨some 4,none,.mov (.tmp 14),127⟩,
 ⟨some 5,none,.mov (.tmp 18),255⟩]
def impl_StoreFilm_r4 :List SOper :=[
 ⟨some 19,none,.fieldAddr 5 (.tmp 1),0⟩,
 ⟨some 20,none,.load1 (.tmp 19),1⟩,
 ⟨some 21,none,.len false (.tmp 20),3⟩,
 ⟨some 22,none,.mov (.const (.int .i64 0)),0⟩]
def impl_StoreFilm_r5 :List SOper :=[
 ⟨some 23,none,.bin .lss .other (.tmp 22) (.tmp 21),0⟩]
def impl_StoreFilm_r6 :List SOper :=[
 ⟨some 24,none,.indexAddrS 3 (.tmp 20) (.tmp 22),0⟩,
 ⟨some 25,none,.loadN 3 (.tmp 24),1⟩,
 ⟨some 7,none,.alloc [(.slice none 0 0),(.slice none 0 0),(.slice none 0 0)],0⟩,
 ⟨none,none,.store 3 (.tmp 7) (.tmp 25),7⟩]
def impl_StoreFilm_r7 (i_impl_numbersOf :FuncId) :List SOper :=[
 ⟨some 26,none,.loadN 3 (.tmp 7),0⟩,
 ⟨some 27,none,.call (.func i_impl_numbersOf) [(.tmp 26)],1⟩,
 ⟨some 8,none,.mov (.tmp 27),3⟩]
def impl_StoreFilm_r8 (i_impl_withFrame :FuncId) :List SOper :=[
 ⟨some 28,none,.mov (.tmp 4),0⟩,
 ⟨some 29,none,.mov (.tmp 5),0⟩,
 ⟨some 30,none,.mov (.tmp 8),0⟩,
 ⟨some 31,none,.call (.func i_impl_withFrame) [(.tmp 28),(.tmp 29),(.tmp 30)],7⟩,
 ⟨some 4,none,.mov (.tmp 31),15⟩]
def impl_StoreFilm_r9 :List SOper :=[
 ⟨some 32,none,.mov (.tmp 8),0⟩,
 ⟨some 5,none,.mov (.tmp 32),1⟩]
def impl_StoreFilm_r10 :List SOper :=[
 ⟨some 33,none,.bin .add .other (.tmp 22) (.const (.int .i64 1)),0⟩,
 ⟨some 22,none,.mov (.tmp 33),1⟩]
def impl_StoreFilm_l11 (i_impl_numbersOf i_impl_withFrame :FuncId) :SCode :=(.kp [4,5,20,21,22] (.seq (.region impl_StoreFilm_r5 false) (.kp [4,5,20,21,22,23] (.seq (.cond (.tmp 23) .skip (.exit 0)) (.kp [4,5,20,21,22] (.seq (.block 1 (.seq (.region impl_StoreFilm_r6 false) (.kp [4,5,7,20,21,22] (.seq (.region (impl_StoreFilm_r7 i_impl_numbersOf) false) (.kp [4,5,8,20,21,22] (.seq (.region (impl_StoreFilm_r8 i_impl_withFrame) false) (.kp [4,8,20,21,22] (.region impl_StoreFilm_r9 false)))))))) (.kp [4,5,20,21,22] (.region impl_StoreFilm_r10 false))))))))
def impl_StoreFilm_r12 :List SOper :=[
 ⟨some 34,none,.mov (.tmp 4),0⟩,
 ⟨some 35,none,.len false (.tmp 34),1⟩,
 ⟨some 36,none,.bin .gtr .other (.tmp 35) (.const (.int .i64 65536)),3⟩]
def impl_StoreFilm_r13 :List SOper :=[
 ⟨some 2,none,.mov (.const (.string ⟨#[]⟩)),0⟩,
 ⟨some 3,none,.mov (.const (.bool false)),1⟩]
def impl_StoreFilm_r14 :List SOper :=[
 ⟨some 37,none,.mov (.tmp 4),0⟩,
 ⟨some 38,none,.conv .toStr (.tmp 37),1⟩,
 ⟨some 2,none,.mov (.tmp 38),3⟩,
 ⟨some 3,none,.mov (.const (.bool true)),7⟩]
def impl_StoreFilm (i_impl_ValidFilm i_impl_sheetBytes i_impl_zeroField i_impl_numbersOf i_impl_withFrame :FuncId) :SFunc :=⟨39,[.tmp 2,.tmp 3],(.kp [0] (.seq (.region impl_StoreFilm_r0 false) (.kp [1] (.seq (.seq (.region (impl_StoreFilm_r1 i_impl_ValidFilm) false) (.kp [1,11] (.cond (.tmp 11) (.seq (.region impl_StoreFilm_r2 false) .ret) .skip))) (.kp [1] (.seq (.region (impl_StoreFilm_r3 i_impl_sheetBytes i_impl_zeroField i_impl_numbersOf) true) (.kp [1,4,5] (.seq (.seq (.region impl_StoreFilm_r4 false) (.kp [4,5,20,21,22] (.block 0 (.loop (impl_StoreFilm_l11 i_impl_numbersOf i_impl_withFrame))))) (.kp [4] (.seq (.seq (.region impl_StoreFilm_r12 false) (.kp [4,36] (.cond (.tmp 36) (.seq (.region impl_StoreFilm_r13 false) .ret) .skip))) (.kp [4] (.seq (.region impl_StoreFilm_r14 false) .ret))))))))))))⟩
theorem impl_StoreFilm_r3_dr {i_impl_sheetBytes i_impl_zeroField i_impl_numbersOf :FuncId} :drawOkW wStat (impl_StoreFilm_r3 i_impl_sheetBytes i_impl_zeroField i_impl_numbersOf)=true :=by kernel_rfl
attribute [push_cast] impl_StoreFilm_r3_dr
theorem in32N_mem {xs :List Nat}(h :in32N xs) :∀ x ∈ xs,x < 4294967296 :=fun x hx =>by
 obtain⟨i,hi,rfl⟩ :=List.getElem_of_mem hx
 have :=h i
 rwa [List.getD_eq_getElem?_getD,List.getElem?_eq_getElem hi] at this
theorem lows_flat {f :Fld}(h :lowF1 f) :lows (flat f) :=lows_of fun x hx =>by
 unfold flat at hx
 rw [List.mem_append,List.mem_append] at hx
 rcases hx with hx | hx | hx
 ·exact in32N_mem h.1 x hx
 ·exact in32N_mem h.2.1 x hx
 ·exact in32N_mem h.2.2 x hx
theorem lows_zero (n :Nat) :lows (List.replicate n 0) :=lows_of fun x hx =>by
 have :=(List.mem_replicate.1 hx).2
 omega
def stGo :List UInt8→List Nat→List Fld→List UInt8
 | out,_,[] =>out
 | out,last,f::fs =>stGo (out++frameB out last (flat f)) (flat f) fs
theorem stGo_step {out :List UInt8}{last :List Nat}{fs :List Fld}{i :Nat}{f :Fld}(hf :fs[i]? = some f) :stGo out last (fs.drop i)=stGo (out++frameB out last (flat f)) (flat f) (fs.drop (i+1)) :=by
 obtain⟨h1,e1⟩ :=List.getElem?_eq_some_iff.1 hf
 rw [List.drop_eq_getElem_cons h1,e1,stGo]
def sfB (w h :Int)(wr :Bool)(sp lo :List Nat)(fs :List Fld) :List UInt8 :=stGo (shB w.toNat h.toNat wr sp lo) (List.replicate (3 * (w.toNat * h.toNat)) 0) fs
def sfOk (w h :Int)(wr :Bool)(sp lo :List Nat)(fs :List Fld) :Bool :=isFilm w h wr sp lo fs && decide ((sfB w h wr sp lo fs).length ≤ 65536)
def StoreFilm_ok (c :Contract) :Prop :=∀ (σ :Heap)(w h :Int)(wr :Bool)(sv lv fv :Value)(sp lo :List Nat)(fs :List Fld),ShR σ sv lv sp lo→FlsR σ fv fs→sp.length ≤ 1048576→lo.length ≤ 1048576→fitsF fs→in32 sp→in32 lo→lowF fs →
 Ret c [fmV w h wr sv lv fv] σ fun v σ' =>v=chRes (sfOk w h wr sp lo fs) (sfB w h wr sp lo fs)∧σ'=σ
abbrev impl_StoreFilm_ok :=StoreFilm_ok
theorem isFilm_field {w h :Int}{wr :Bool}{sp lo :List Nat}{fs :List Fld}{f :Fld}(hI :isFilm w h wr sp lo fs=true)(hf :f ∈ fs) :isField w h wr sp lo f.e f.x f.y=true :=by
 unfold isFilm at hI
 simp only [Bool.and_eq_true,List.all_eq_true] at hI
 exact hI.2 f hf
theorem impl_StoreFilm_law {C :Ctab}{i1 i2 i3 i4 i5 :FuncId}{c1 c2 c3 c4 c5 :Contract}(h1 :Has C i1 c1 impl_ValidFilm_ok)(h2 :Has C i2 c2 impl_sheetBytes_ok)(h3 :Has C i3 c3 impl_zeroField_ok)(h4 :Has C i4 c4 impl_numbersOf_ok)(h5 :HasW C i5 c5 impl_withFrame_ok) :
 impl_StoreFilm_ok (gcC C (impl_StoreFilm i1 i2 i3 i4 i5) true) :=by
 intro σ w h wr sv lv fv sp lo fs ⟨r1,r2⟩ hf n1 n2 hfit b1_ b2_ hlow
 obtain⟨cs,hrow,hcs⟩ :=hf.ex
 have k1 :=r1.ok
 have k2 :=r2.ok
 have k3 :=hf.ok
 have hV :=fun τ =>h1.ok (σ++τ) w h wr sv lv fv sp lo fs ⟨r1.ext _,r2.ext _⟩ (hf.ext _) n1 n2 hfit
 cases hI :isFilm w h wr sp lo fs
 ·rw [show sfOk w h wr sp lo fs=false from by unfold sfOk;rw [hI];rfl,chRes_f]
  refine ret_gc rfl rfl ?_
  repeat' (first | refine ff ?_ | ((first | refine sR ?_ ?_ | refine sC ?_ ?_) <;> (intro hb;(try rw [hb]);(try simp only [bb] at hb);(try (exfalso;first | omega | exact hb trivial)))) | (apply endS trivial;rotate_left;(· exact eva);(· rfl);try refine⟨?_,rfl⟩) | fail)
  (apply EvR.aCall h1.at_;(· exact eva);(· exact  hV _);(rintro _ _ ⟨rfl,rfl⟩;refine EvR.nrm ?_))
  rw [hI]
  repeat' (first | refine ff ?_ | ((first | refine sR ?_ ?_ | refine sC ?_ ?_) <;> (intro hb;(try rw [hb]);(try simp only [bb] at hb);(try (exfalso;first | omega | exact hb trivial)))) | (apply endS trivial;rotate_left;(· exact eva);(· rfl);try refine⟨?_,rfl⟩) | fail)
  all_goals (try rfl)
 have h16 :=isFilm_len hI
 obtain⟨a1,a2,a3,a4,q1,q2⟩ :=isSheet_sides (isFilm_sheet hI)
 obtain⟨W,rfl⟩ :=Int.eq_ofNat_of_zero_le (show 0 ≤ w by omega)
 obtain⟨H,rfl⟩ :=Int.eq_ofNat_of_zero_le (show 0 ≤ h by omega)
 have hWH :((W * H :Nat) :Int)=(W :Int) * (H :Int) :=Int.natCast_mul _ _
 have hN2 :W * H ≤ 256 :=Nat.mul_le_mul (show W ≤ 16 by omega) (show H ≤ 16 by omega)
 have hN3 :9 ≤ W * H :=Nat.mul_le_mul (show 3 ≤ W by omega) (show 3 ≤ H by omega)
 have hfl :∀ f ∈ fs,f.e.length=W * H∧f.x.length=W * H∧f.y.length=W * H :=fun f hm =>by
  obtain⟨_,t1,t2,t3⟩ :=isField_len (isFilm_field hI hm)
  omega
 obtain⟨N,hN⟩ :∃ N,W * H=N :=⟨_,rfl⟩
 rw [hN] at hWH hN2 hN3 hfl
 obtain⟨T,hT⟩ :∃ T,sfB W H wr sp lo fs=T :=⟨_,rfl⟩
 have hT0 :stGo (shB W H wr sp lo) (List.replicate (3 * N) 0) fs=T :=by rw [← hT];unfold sfB;rw [Int.toNat_natCast,Int.toNat_natCast,hN]
 rw [show sfOk W H wr sp lo fs=decide (T.length ≤ 65536) from by unfold sfOk;rw [hI,hT,Bool.true_and],hT]
 have hz :flat ⟨List.replicate N 0,List.replicate N 0,List.replicate N 0⟩=List.replicate (3 * N) 0 :=by
  unfold flat
  dsimp only
  rw [List.replicate_append_replicate,List.replicate_append_replicate]
  congr 1
  omega
 have hzl :(List.replicate (3 * N) 0 :List Nat).length=3 * N :=List.length_replicate
 have hzN :(List.replicate N 0 :List Nat).length=N :=List.length_replicate
 have hsl :=shB_length W H wr sp lo
 refine ret_gc rfl rfl ?_
 repeat' (first | refine ff ?_ | ((first | refine sR ?_ ?_ | refine sC ?_ ?_) <;> (intro hb;(try rw [hb]);(try simp only [bb] at hb);(try (exfalso;first | omega | exact hb trivial)))) | (apply endS trivial;rotate_left;(· exact eva);(· rfl);try refine⟨?_,rfl⟩) | fail)
 (apply EvR.aCall h1.at_;(· exact eva);(· exact  hV _);(rintro _ _ ⟨rfl,rfl⟩;refine EvR.nrm ?_))
 rw [hI]
 repeat' (first | refine ff ?_ | ((first | refine sR ?_ ?_ | refine sC ?_ ?_) <;> (intro hb;(try rw [hb]);(try simp only [bb] at hb);(try (exfalso;first | omega | exact hb trivial)))) | (apply endS trivial;rotate_left;(· exact eva);(· rfl);try refine⟨?_,rfl⟩) | fail)
 (apply EvR.aCall h2.at_;(· exact eva);(· exact  h2.ok _ W H wr sv lv sp lo ⟨r1.ext _,r2.ext _⟩ (by omega) (by omega) b1_ b2_);(rintro _ _ ⟨rfl,rfl⟩;refine EvR.nrm ?_))
 repeat' (first | refine ff ?_ | ((first | refine sR ?_ ?_ | refine sC ?_ ?_) <;> (intro hb;(try rw [hb]);(try simp only [bb] at hb);(try (exfalso;first | omega | exact hb trivial)))) | (apply endS trivial;rotate_left;(· exact eva);(· rfl);try refine⟨?_,rfl⟩) | fail)
 (apply EvR.aCall h3.at_;(· exact eva);(· exact  h3.ok _ W H N wr sv lv k1 k2 (by omega) (by omega) hN);(rintro _ _ ⟨rfl,rfl⟩;refine EvR.nrm ?_))
 repeat' (first | refine ff ?_ | ((first | refine sR ?_ ?_ | refine sC ?_ ?_) <;> (intro hb;(try rw [hb]);(try simp only [bb] at hb);(try (exfalso;first | omega | exact hb trivial)))) | (apply endS trivial;rotate_left;(· exact eva);(· rfl);try refine⟨?_,rfl⟩) | fail)
 (apply EvR.aCall h4.at_;(· exact eva);(· exact  h4.ok _ _ _ _ ⟨List.replicate N 0,List.replicate N 0,List.replicate N 0⟩ ⟨Row.ownF rfl hzN,Row.ownF rfl hzN,Row.ownF rfl hzN⟩ (by dsimp only;omega) (by dsimp only;omega));(rintro _ _ ⟨rfl,rfl⟩;refine EvR.nrm ?_))
 rw [hz,hzl]
 repeat' (first | refine ff ?_ | ((first | refine sR ?_ ?_ | refine sC ?_ ?_) <;> (intro hb;(try rw [hb]);(try simp only [bb] at hb);(try (exfalso;first | omega | exact hb trivial)))) | (apply endS trivial;rotate_left;(· exact eva);(· rfl);try refine⟨?_,rfl⟩) | fail)
 refine Ev.whlH (S :=Nat × List UInt8 × List Nat × Nat × Heap) (fun st =>fs.length - st.1) (fun st =>[(4,.slice (some ⟨σ.length+1,0,none⟩) st.2.1.length st.2.1.length),(5,.slice (some ⟨σ.length+(st.2.2.2.1+2),0,none⟩) (3 * N) (3 * N)),(22,.int .i64 st.1)])
  (fun st =>σ++(⟨[.int .i64 W,.int .i64 H,.bool wr,sv,lv,fv],0,true⟩::⟨b8s st.2.1,1,true⟩::st.2.2.2.2))
  (fun st =>st.1 ≤ fs.length∧stGo st.2.1 st.2.2.1 (fs.drop st.1)=T∧st.2.1.length ≤ 8000+5000 * st.1∧st.2.2.1.length=3 * N∧lows st.2.2.1∧st.2.2.2.2[st.2.2.2.1]? = some (rowO st.2.2.1))
  (0,shB W H wr sp lo,List.replicate (3 * N) 0,3,[rowO (List.replicate N 0),rowO (List.replicate N 0),rowO (List.replicate N 0),rowO (List.replicate (3 * N) 0)]) (by exact tF) rfl ⟨Nat.zero_le _,hT0,by dsimp only;omega,hzl,lows_zero _,rfl⟩ ?_
 rintro⟨i,out,last,q,rub⟩ F hF ⟨hi,hg,hol,hll,hlw,hlr⟩
 dsimp only at hi hF hg hol hll hlw hlr ⊢
 (simp only [List.cons_append,List.nil_append,↓fget_cons,fkeep_cons,fkeep_nil,Nat.reduceEqDiff,reduceIte] at hF;subst hF)
 by_cases hlt :i < fs.length
 ·obtain⟨f,hfi⟩ :∃ f,fs[i]? = some f :=⟨_,List.getElem?_eq_getElem hlt⟩
  have hm :=List.mem_of_getElem? hfi
  obtain⟨a,b,c,hc,hflr⟩ :=hcs.get hfi
  obtain⟨u1,u2,u3⟩ :=hfl f hm
  have hfn :(flat f).length=3 * N :=by rw [flat_length];omega
  have k4 :=hflr.e.ok
  have k5 :=hflr.x.ok
  have k6 :=hflr.y.ok
  rw [stGo_step hfi] at hg
  have hfb :=frameB_len out last (flat f)
  refine Ev.base fun τ hτ =>?_
  have hτl :τ.length=σ.length+(rub.length+2) :=by rw [hτ];simp only [List.length_append,List.length_cons]
  have hrow2 :Row τ 3 fv fs.length cs :=by rw [hτ];exact hrow.ext _
  have e1 :Row τ 1 (.slice (some ⟨σ.length+(q+2),0,none⟩) (3 * N) (3 * N)) last.length (f32s last) :=by
   rw [hτ,hll]
   exact Row.own (i :=q+2) (by simp only [List.getElem?_cons_succ];exact hlr) (by omega) (by rw [f32s_length];omega)
  have hg1 :=hflr.e.ext (⟨[.int .i64 W,.int .i64 H,.bool wr,sv,lv,fv],0,true⟩::⟨b8s out,1,true⟩::rub)
  have hg2 :=hflr.x.ext (⟨[.int .i64 W,.int .i64 H,.bool wr,sv,lv,fv],0,true⟩::⟨b8s out,1,true⟩::rub)
  have hg3 :=hflr.y.ext (⟨[.int .i64 W,.int .i64 H,.bool wr,sv,lv,fv],0,true⟩::⟨b8s out,1,true⟩::rub)
  rw [← hτ] at hg1 hg2 hg3
  repeat' (first | refine ff ?_ | ((first | refine sR ?_ ?_ | refine sC ?_ ?_) <;> (intro hb;(try rw [hb]);(try simp only [bb] at hb);(try (exfalso;first | omega | exact hb trivial)))) | (apply endS trivial;rotate_left;(· exact eva);(· rfl);try refine⟨?_,rfl⟩) | fail)
  refine EvR.ld3 hrow2 hlt hc rfl ?_
  repeat' (first | refine ff ?_ | ((first | refine sR ?_ ?_ | refine sC ?_ ?_) <;> (intro hb;(try rw [hb]);(try simp only [bb] at hb);(try (exfalso;first | omega | exact hb trivial)))) | (apply endS trivial;rotate_left;(· exact eva);(· rfl);try refine⟨?_,rfl⟩) | fail)
  (apply EvR.aCall h4.at_;(· exact eva);(· exact  h4.ok _ a b c f ⟨hg1.ext _,hg2.ext _,hg3.ext _⟩ (by omega) (by omega));(rintro _ _ ⟨rfl,rfl⟩;refine EvR.nrm ?_))
  rw [hfn]
  repeat' (first | refine ff ?_ | ((first | refine sR ?_ ?_ | refine sC ?_ ?_) <;> (intro hb;(try rw [hb]);(try simp only [bb] at hb);(try (exfalso;first | omega | exact hb trivial)))) | (apply endS trivial;rotate_left;(· exact eva);(· rfl);try refine⟨?_,rfl⟩) | fail)
  have hbt :τ[σ.length+1]? = some ⟨b8s out,1,true⟩ :=by rw [hτ];exact hget _ _ 1
  have hbl :σ.length+1 < τ.length :=by omega
  apply EvR.aCall h5.at_;(· exact eva);(· exact h5.ok _ (σ.length+1) out _ _ last (flat f) (by rw [List.getElem?_append_left hbl];exact hbt) (e1.ext _) (Row.ownF rfl hfn) (by omega) (by omega) hlw (lows_flat (hlow f hm)) (by omega));rintro _ _ ⟨rfl,t,rfl⟩
  rw [List.set_append_left _ _ hbl,hτl,hτ,set_app]
  simp only [List.set_cons_succ,List.set_cons_zero,List.append_assoc,List.cons_append,List.nil_append]
  have hol2 :(out++frameB out last (flat f)).length ≤ 8000+5000 * (i+1) :=by rw [List.length_append];omega
  generalize out++frameB out last (flat f)=out2 at *
  repeat' (first | refine ff ?_ | ((first | refine sR ?_ ?_ | refine sC ?_ ?_) <;> (intro hb;(try rw [hb]);(try simp only [bb] at hb);(try (exfalso;first | omega | exact hb trivial)))) | (apply endS trivial;rotate_left;(· exact eva);(· rfl);try refine⟨?_,rfl⟩) | fail)
  exact⟨(i+1,out2,flat f,rub.length+1,rub++(⟨[a,b,c],0,true⟩::rowO (flat f)::t)),by dsimp only;omega,by dsimp only;rw [show σ.length+(rub.length+1+2)=σ.length+(rub.length+2)+1 from by omega];exact tF,rfl,by dsimp only;omega,hg,hol2,hfn,lows_flat (hlow f hm),by dsimp only;exact get_end _ _ 1⟩
 ·obtain rfl :i=fs.length :=by omega
  rw [List.drop_length,stGo] at hg
  subst hg
  by_cases h64 :out.length ≤ 65536
  ·rw [decide_eq_true h64,chRes_t]
   repeat' (first | refine ff ?_ | ((first | refine sR ?_ ?_ | refine sC ?_ ?_) <;> (intro hb;(try rw [hb]);(try simp only [bb] at hb);(try (exfalso;first | omega | exact hb trivial)))) | (apply endS trivial;rotate_left;(· exact eva);(· rfl);try refine⟨?_,rfl⟩) | fail)
   all_goals (try rfl)
  ·rw [decide_eq_false h64,chRes_f]
   repeat' (first | refine ff ?_ | ((first | refine sR ?_ ?_ | refine sC ?_ ?_) <;> (intro hb;(try rw [hb]);(try simp only [bb] at hb);(try (exfalso;first | omega | exact hb trivial)))) | (apply endS trivial;rotate_left;(· exact eva);(· rfl);try refine⟨?_,rfl⟩) | fail)
   all_goals (try rfl)
end Go.Abs
