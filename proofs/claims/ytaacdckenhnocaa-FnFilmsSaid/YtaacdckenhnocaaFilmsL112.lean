/- Plain law: films that are stored and cut, and what is recovered of bytes. No condition beyond those written. -/
import Derived.Test.YtaacdckenhnocaaFilmsL108
import Derived.Test.YtaacdckenhnocaaFilmsL42
import Derived.Test.YtaacdckenhnocaaFilmsL94
namespace Go.Abs
set_option linter.unusedSimpArgs false
set_option linter.unusedVariables false
set_option maxHeartbeats 8000000
def eqB (xs ys :List Nat) :Prop :=xs.map bitsC=ys.map bitsC
section
variable {xs ys zs a b a' b' :List Nat}
theorem eqB_len (h :eqB xs ys) :xs.length=ys.length :=by simpa using congrArg List.length h
theorem eqB_get (h :eqB xs ys)(k :Nat) :bitsC (xs.getD k 0)=bitsC (ys.getD k 0) :=by
 have h1 :=congrArg (fun l =>l[k]?) h
 simp only [List.getElem?_map] at h1
 rw [List.getD_eq_getElem?_getD,List.getD_eq_getElem?_getD]
 cases hx :xs[k]? <;> cases hy :ys[k]? <;> rw [hx,hy] at h1 <;> simp at h1 ⊢
 exact h1
theorem eqB_of (hl :xs.length=ys.length)(h :∀ k,k < xs.length→bitsC (xs.getD k 0)=bitsC (ys.getD k 0)) :eqB xs ys :=by
 apply List.ext_getElem
 ·simpa using hl
 ·intro k h1 h2
  rw [List.length_map] at h1 h2
  rw [List.getElem_map,List.getElem_map]
  have :=h k h1
  rw [List.getD_eq_getElem?_getD,List.getD_eq_getElem?_getD,List.getElem?_eq_getElem h1,List.getElem?_eq_getElem h2] at this
  exact this
theorem eqB_refl (xs :List Nat) :eqB xs xs :=rfl
theorem eqB.symm (h :eqB xs ys) :eqB ys xs :=Eq.symm h
theorem eqB.trans (h :eqB xs ys)(h' :eqB ys zs) :eqB xs zs :=Eq.trans h h'
theorem eqB_take (h :eqB xs ys)(n :Nat) :eqB (xs.take n) (ys.take n) :=by unfold eqB at h ⊢;rw [List.map_take,List.map_take,h]
theorem eqB_drop (h :eqB xs ys)(n :Nat) :eqB (xs.drop n) (ys.drop n) :=by unfold eqB at h ⊢;rw [List.map_drop,List.map_drop,h]
theorem xb_congr (h1 :eqB a a')(h2 :eqB b b') :xb a b=xb a' b' :=funext fun k =>by unfold xb;rw [eqB_get h1,eqB_get h2]
theorem chB_congr (h1 :eqB a a')(h2 :eqB b b') :chB a b=chB a' b' :=by unfold chB;rw [xb_congr h1 h2,eqB_len h1]
theorem frameB_congr (o :List UInt8)(h1 :eqB a a')(h2 :eqB b b') :frameB o a b=frameB o a' b' :=by unfold frameB frA;rw [chB_congr h1 h2]
theorem mixed_eqB (h :b.length=a.length) :eqB (mixed a (xb a b) a.length) b :=eqB_of (by rw [mixed_length,h]) fun k hk =>by
 rw [mixed_length] at hk;exact mixed_bits hk
theorem feq_nan {a :Nat}(h :isNaN .f32 a=true)(b :Nat) :feq .f32 a b=false :=by
 unfold isNaN FloatKind.decode at h
 unfold feq Ieee.Format.order
 cases hr :FloatKind.f32.format.read a with
 | number s m e =>rw [hr] at h;cases h
 | infinity s =>rw [hr] at h;cases h
 | nan s f =>rfl
theorem feq_bits (a :Nat) :feq .f32 a 0=feq .f32 (bitsC a) 0 :=by
 unfold bitsC
 by_cases h :isNaN .f32 a=true
 ·rw [if_pos h,show feq .f32 2143289344 0=false from by decide +kernel,feq_nan h]
 ·rw [if_neg h]
end
def eqF (f g :Fld) :Prop :=eqB f.e g.e∧eqB f.x g.x∧eqB f.y g.y
theorem eqF.flat {f g :Fld}(h :eqF f g) :eqB (flat f) (flat g) :=by
 obtain⟨h1,h2,h3⟩ :=h
 unfold eqB at *
 unfold Go.Abs.flat
 simp only [List.map_append,h1,h2,h3]
theorem fits_congr {W H :Nat}{wr :Bool}{f g :Fld}(h :eqF f g) :fits W H wr f.e f.x f.y=fits W H wr g.e g.x g.y :=by
 obtain⟨h1,h2,h3⟩ :=h
 unfold fits badC
 rw [eqB_len h1,eqB_len h2,eqB_len h3]
 refine congrArg (fun b :Bool =>(decide (g.e.length=W * H) && decide (g.x.length=W * H) && decide (g.y.length=W * H) && (wr || b))) (congrArg (fun p =>(List.range (W * H)).all p) (funext fun i =>?_))
 rw [feq_bits (f.e.getD i 0),feq_bits (f.x.getD i 0),feq_bits (f.y.getD i 0),feq_bits (g.e.getD i 0),feq_bits (g.x.getD i 0),feq_bits (g.y.getD i 0),eqB_get h1,eqB_get h2,eqB_get h3]
theorem isField_congr {w h :Int}{wr :Bool}{sp lo :List Nat}{f g :Fld}(e :eqF f g) :isField w h wr sp lo f.e f.x f.y=isField w h wr sp lo g.e g.x g.y :=by
 unfold isField;rw [fits_congr e]
theorem fldOf_flat {f :Fld}{N :Nat}{now :List Nat}(h1 :f.e.length=N)(h2 :f.x.length=N)(h3 :f.y.length=N)(h :eqB now (flat f)) :eqF (fldOf N now) f :=by
 unfold eqF fldOf
 refine⟨?_,?_,?_⟩
 ·have :=eqB_take h N
  rwa [show (flat f).take N=f.e from by unfold flat;rw [← h1,List.take_left]] at this
 ·have :=eqB_drop (eqB_take h (2 * N)) N
  rwa [show ((flat f).take (2 * N)).drop N=f.x from by
   unfold flat
   rw [List.drop_take,← h1,List.drop_left,show 2 * f.e.length - f.e.length=f.x.length from by omega,List.take_left]] at this
 ·have :=eqB_drop h (2 * N)
  rwa [show (flat f).drop (2 * N)=f.y from by
   unfold flat
   rw [show 2 * N=(f.e++f.x).length from by rw [List.length_append];omega,← List.append_assoc,List.drop_left]] at this
theorem flat_fldOf {N :Nat}{now :List Nat} :flat (fldOf N now)=now :=by
 unfold flat fldOf
 have h1 :now.take (2 * N)=now.take N++(now.take (2 * N)).drop N :=by
  have h :=List.take_append_drop N (now.take (2 * N))
  rw [List.take_take,Nat.min_eq_left (by omega)] at h
  exact h.symm
 show now.take N++((now.take (2 * N)).drop N++now.drop (2 * N))=now
 rw [← List.append_assoc,← h1,List.take_append_drop]
theorem stGo_app :∀ (fs gs :List Fld)(out :List UInt8)(last :List Nat),∃ l2,stGo out last (fs++gs)=stGo (stGo out last fs) l2 gs
 | [],gs,out,last =>⟨last,rfl⟩
 | f::fs,gs,out,last =>stGo_app fs gs _ _
theorem stGo_pre :∀ (fs :List Fld)(out :List UInt8)(last :List Nat),∃ t,stGo out last fs=out++t
 | [],out,last =>⟨[],by simp [stGo]⟩
 | f::fs,out,last =>by
  obtain⟨t,ht⟩ :=stGo_pre fs (out++frameB out last (flat f)) (flat f)
  exact⟨frameB out last (flat f)++t,by rw [stGo,ht,List.append_assoc]⟩
theorem recF_store (W H :Nat)(wr :Bool)(sp lo :List Nat)(N :Nat)(s :List UInt8) :∀ (k :Nat)(last :List Nat)(p :Nat)(fs :List Fld),p ≤ s.length →
 ∃ hs,(recF W H wr sp lo N s k last p fs).1=fs++hs∧hs.length ≤ k∧stGo (s.take p) last hs=s.take (recF W H wr sp lo N s k last p fs).2∧p ≤ (recF W H wr sp lo N s k last p fs).2∧(recF W H wr sp lo N s k last p fs).2 ≤ s.length ∧ ∀ h ∈ hs,isField W H wr sp lo h.e h.x h.y=true
 | 0,last,p,fs,hp =>⟨[],by simp [recF],by simp,rfl,Nat.le_refl _,hp,by simp⟩
 | k+1,last,p,fs,hp =>by
  have none_ :∃ hs,(fs,p).1=fs++hs∧hs.length ≤ k+1∧stGo (s.take p) last hs=s.take (fs,p).2∧p ≤ (fs,p).2∧(fs,p).2 ≤ s.length ∧ ∀ h ∈ hs,isField W H wr sp lo h.e h.x h.y=true :=⟨[],by simp,by simp,rfl,Nat.le_refl _,hp,by simp⟩
  cases hA :frAt last s p with
  | none =>rw [recF_none hA];exact none_
  | some now =>
   cases hI :isField W H wr sp lo (fldOf N now).e (fldOf N now).x (fldOf N now).y
   ·rw [recF_bad hA hI];exact none_
   ·rw [recF_step hA hI]
    obtain⟨hl,hlw,h4,h5⟩ :=frAt_some hA
    have hge :p ≤ frEnd s p :=by unfold frEnd;omega
    obtain⟨hs,g1,g2,g3,g4,g5,g6⟩ :=recF_store W H wr sp lo N s k now (frEnd s p+2) (fs++[fldOf N now]) h5
    have hfr :s.take p++frameB (s.take p) last now=s.take (frEnd s p+2) :=by
     unfold frAt at hA
     rw [if_pos ⟨h4,h5⟩] at hA
     cases hB :acOk last (frCh s p) with
     | none =>rw [hB] at hA;cases hA
     | some w =>
      rw [hB] at hA
      simp only [frOf] at hA
      split at hA
      ·rename_i h
       simp only [Option.some.injEq] at hA;subst hA;exact h
      ·cases hA
    refine⟨fldOf N now::hs,by rw [g1,List.append_assoc];rfl,by rw [List.length_cons];omega,?_,by omega,g5,?_⟩
    ·rw [stGo,flat_fldOf,hfr];exact g3
    ·intro h hh
     rcases List.mem_cons.1 hh with rfl | hh
     ·exact hI
     ·exact g6 h hh
theorem recF_ge {W H :Nat}{wr :Bool}{sp lo :List Nat}{N :Nat}{s :List UInt8}{k :Nat}{last :List Nat}{p :Nat}{fs :List Fld}(hp :p ≤ s.length) :p ≤ (recF W H wr sp lo N s k last p fs).2 :=by
 obtain⟨hs,_,_,_,h,_⟩ :=recF_store W H wr sp lo N s k last p fs hp;exact h
theorem recF_mono (W H :Nat)(wr :Bool)(sp lo :List Nat)(N :Nat){s S :List UInt8}(hS :S.take s.length=s)(hle :s.length ≤ S.length) :∀ (k :Nat)(last :List Nat)(p :Nat)(fs :List Fld),p ≤ s.length →
 (recF W H wr sp lo N s k last p fs).2 ≤ (recF W H wr sp lo N S k last p fs).2
 | 0,last,p,fs,hp =>Nat.le_refl _
 | k+1,last,p,fs,hp =>by
  have hge :=recF_ge (W :=W) (H :=H) (wr :=wr) (sp :=sp) (lo :=lo) (N :=N) (s :=S) (k :=k+1) (last :=last) (p :=p) (fs :=fs) (by omega)
  cases hA :frAt last s p with
  | none =>rw [recF_none hA];exact hge
  | some now =>
   cases hI :isField W H wr sp lo (fldOf N now).e (fldOf N now).x (fldOf N now).y
   ·rw [recF_bad hA hI];exact hge
   ·obtain⟨_,_,h4,h5⟩ :=frAt_some hA
    have e1 :(S.drop p).take 2=(s.drop p).take 2 :=by
     rw [← hS,List.drop_take,List.take_take,Nat.min_eq_left (by omega)]
    have e2 :frEnd S p=frEnd s p :=by unfold frEnd;rw [e1]
    have e3 :∀ q,q ≤ s.length→S.take q=s.take q :=fun q hq =>by
     conv =>rhs;rw [← hS,List.take_take,Nat.min_eq_left hq]
    have hA2 :frAt last S p=some now :=by
     rw [← hA]
     unfold frAt
     rw [if_pos ⟨by omega,by rw [e2];omega⟩,if_pos ⟨h4,h5⟩]
     unfold frOf frCh
     rw [e2,e3 p hp,e3 (frEnd s p) (by omega),e3 (frEnd s p+2) h5]
    rw [recF_step hA hI,recF_step hA2 hI,e2]
    exact recF_mono W H wr sp lo N hS hle k now (frEnd s p+2) (fs++[fldOf N now]) h5
theorem frameB_head {o :List UInt8}{a b :List Nat} :frameB o a b=lowB (chB a b).length 2++(chB a b++lowB (ckS 0 (o++frA a b)) 2) :=by
 unfold frameB;rw [frA,List.append_assoc]
theorem frameB_len2 {o :List UInt8}{a b :List Nat} :(frameB o a b).length=(chB a b).length+4 :=by
 rw [frameB_head];simp only [List.length_append,lowB_length];omega
theorem numB_low2 {n :Nat}(h :n < 65536) :numB (lowB n 2)=n :=by
 unfold lowB numB
 simp only [List.range_succ,List.range_zero,List.nil_append,List.map_append,List.map_cons,List.map_nil,List.singleton_append,List.foldr_cons,List.foldr_nil,Nat.zero_mul,Nat.zero_add,Nat.pow_zero,Nat.div_one,Nat.pow_one]
 have h1 :∀ m :Nat,(byteOf (m :Int)).toNat=m % 256 :=fun m =>by unfold byteOf;simp;omega
 rw [h1,h1];omega
section
variable {a b a' :List Nat} {o T :List UInt8}
theorem frAt_there (la :lows a')(lb :lows b)(hl :b.length=a'.length)(hn :a'.length ≤ 768)(he :eqB a' a) :∃ now,frAt a' (o++frameB o a b++T) o.length=some now∧eqB now b∧frEnd (o++frameB o a b++T) o.length+2=(o++frameB o a b).length :=by
 have hc :=chB_len a b
 have hal :=eqB_len he
 have hF :=frameB_head (o :=o) (a :=a) (b :=b)
 obtain⟨K,hK⟩ :∃ K,lowB (ckS 0 (o++frA a b)) 2=K :=⟨_,rfl⟩
 have hKl :K.length=2 :=by rw [← hK,lowB_length]
 rw [hK] at hF
 obtain⟨Z,hZ⟩ :∃ Z,chB a b=Z :=⟨_,rfl⟩
 rw [hZ] at hF hc
 have hZl :Z.length < 65536 :=by omega
 have hs :o++frameB o a b++T=o++(lowB Z.length 2++(Z++(K++T))) :=by rw [hF];simp only [List.append_assoc]
 have hFl :(frameB o a b).length=Z.length+4 :=by rw [frameB_len2,hZ]
 have hE :frEnd (o++frameB o a b++T) o.length=o.length+2+Z.length :=by
  unfold frEnd
  rw [hs,List.drop_left,List.take_left' (lowB_length _ _),numB_low2 hZl]
 have hC :frCh (o++frameB o a b++T) o.length=Z :=by
  unfold frCh
  rw [hE,List.drop_take,hs,show o.length+2=(o++lowB Z.length 2).length from by rw [List.length_append,lowB_length],← List.append_assoc,List.drop_left]
  rw [show (o++lowB Z.length 2).length+Z.length - (o++lowB Z.length 2).length=Z.length from by omega,List.take_left]
 have hA :acOk a' Z=some (mixed a' (xb a' b) a'.length) :=by
  rw [← hZ,← chB_congr he (eqB_refl b)];exact apply_change la lb hn
 have hm :eqB (mixed a' (xb a' b) a'.length) b :=mixed_eqB hl
 refine⟨_,frAt_t (now :=mixed a' (xb a' b) a'.length) ?_ ?_ (by rw [hC];exact hA) ?_,hm,?_⟩
 ·simp only [List.length_append,hFl];omega
 ·rw [hE];simp only [List.length_append,hFl];omega
 ·rw [hE,List.append_assoc,List.take_left,frameB_congr o he hm,← List.append_assoc,show o.length+2+Z.length+2=(o++frameB o a b).length from by rw [List.length_append,hFl];omega,List.take_left]
 ·rw [hE,List.length_append,hFl];omega
theorem frAt_cut (hn :a.length ≤ 768){n :Nat}(h1 :o.length ≤ n)(h2 :n < (o++frameB o a b).length) :frAt a' ((o++frameB o a b++T).take n) o.length=none :=by
 have hc :=chB_len a b
 have hF :=frameB_head (o :=o) (a :=a) (b :=b)
 obtain⟨K,hK⟩ :∃ K,lowB (ckS 0 (o++frA a b)) 2=K :=⟨_,rfl⟩
 rw [hK] at hF
 obtain⟨Z,hZ⟩ :∃ Z,chB a b=Z :=⟨_,rfl⟩
 rw [hZ] at hF hc
 have hFl :(frameB o a b).length=Z.length+4 :=by rw [frameB_len2,hZ]
 have hL :(o++frameB o a b).length=o.length+(Z.length+4) :=by rw [List.length_append,hFl]
 have hs :o++frameB o a b++T=o++(lowB Z.length 2++(Z++(K++T))) :=by rw [hF];simp only [List.append_assoc]
 apply frAt_f1
 have hnl :((o++frameB o a b++T).take n).length=n :=by rw [List.length_take,List.length_append];omega
 rw [hnl]
 rintro⟨h3,h4⟩
 have hE :frEnd ((o++frameB o a b++T).take n) o.length=o.length+2+Z.length :=by
  unfold frEnd
  rw [List.drop_take,List.take_take,Nat.min_eq_left (by omega),hs,List.drop_left]
  rw [List.take_left' (lowB_length _ _),numB_low2 (by omega)]
 rw [hE] at h4
 omega
end
theorem frAt_end {a :List Nat}{s :List UInt8} :frAt a s s.length=none :=frAt_f1 (by omega)
theorem lows_flatF {f :Fld}(h :lowF1 f) :lows (flat f) :=lows_flat h
theorem recF_cut (W H :Nat)(wr :Bool)(sp lo :List Nat)(N :Nat)(hN :3 * N ≤ 768)(n :Nat) :∀ (gs :List Fld)(k :Nat)(last l0 :List Nat)(out :List UInt8)(fs :List Fld),gs.length ≤ k→lows last→last.length=3 * N→eqB last l0→out.length ≤ n→n ≤ (stGo out l0 gs).length →
 (∀ g ∈ gs,lowF1 g∧g.e.length=N∧g.x.length=N∧g.y.length=N∧isField W H wr sp lo g.e g.x g.y=true) →
 ∃ hs :List Fld,(recF W H wr sp lo N ((stGo out l0 gs).take n) k last out.length fs).1=fs++hs∧hs.length ≤ gs.length∧(∀ (i :Nat) (h g :Fld),hs[i]? = some h→gs[i]? = some g→eqF h g) ∧
  (recF W H wr sp lo N ((stGo out l0 gs).take n) k last out.length fs).2=(stGo out l0 (gs.take hs.length)).length∧(hs.length < gs.length→n < (stGo out l0 (gs.take (hs.length+1))).length)
 | [],k,last,l0,out,fs,hk,lw,hl,he,h1,h2,hg =>by
  have e :n=out.length :=by simp only [stGo] at h2;omega
  have hs :(stGo out l0 []).take n=out :=by rw [e];exact List.take_length
  rw [hs,recF_none frAt_end]
  exact⟨[],by simp,by simp,by simp,rfl,by simp⟩
 | g::gs,k,last,l0,out,fs,hk,lw,hl,he,h1,h2,hg =>by
  obtain⟨k,rfl⟩ :∃ k',k=k'+1 :=⟨k - 1,by simp at hk;omega⟩
  obtain⟨lg,g1,g2,g3,gI⟩ :=hg g (by simp)
  have hfl :(flat g).length=last.length :=by rw [flat_length];omega
  have hall :=eqB_len he
  obtain⟨t,ht⟩ :=stGo_pre gs (out++frameB out l0 (flat g)) (flat g)
  rw [stGo] at h2 ⊢
  by_cases hn :n < (out++frameB out l0 (flat g)).length
  ·rw [ht,recF_none (frAt_cut (by omega) h1 hn)]
   refine⟨[],by simp,by simp,by simp,rfl,fun _ =>?_⟩
   show n < (stGo (out++frameB out l0 (flat g)) (flat g) []).length
   exact hn
  ·obtain⟨now,f1,f2,f3⟩ :=frAt_there (a :=l0) (b :=flat g) (a' :=last) (o :=out) (T :=t.take (n - (out++frameB out l0 (flat g)).length)) lw (lows_flatF lg) hfl (by omega) he
   have hst :(stGo (out++frameB out l0 (flat g)) (flat g) gs).take n=out++frameB out l0 (flat g)++t.take (n - (out++frameB out l0 (flat g)).length) :=by
    rw [ht,List.take_append,List.take_of_length_le (by omega)]
   have hI :isField W H wr sp lo (fldOf N now).e (fldOf N now).x (fldOf N now).y=true :=by
    rw [isField_congr (fldOf_flat g1 g2 g3 f2)];exact gI
   obtain⟨_,flw,_,_⟩ :=frAt_some f1
   have hnl :now.length=3 * N :=by rw [eqB_len f2,hfl,hl]
   obtain⟨hs,q1,q2,q3,q4,q5⟩ :=recF_cut W H wr sp lo N hN n gs k now (flat g) (out++frameB out l0 (flat g)) (fs++[fldOf N now]) (by simp at hk;omega) (flw lw) hnl f2 (by omega) h2 fun g' h' =>hg g' (by simp [h'])
   rw [hst] at q1 q4 ⊢
   rw [recF_step f1 hI,f3]
   refine⟨fldOf N now::hs,by rw [q1,List.append_assoc];rfl,by simp;omega,?_,?_,?_⟩
   ·rintro (_ | i) h g' e1 e2
    ·simp only [List.getElem?_cons_zero,Option.some.injEq] at e1 e2
     subst e1 e2
     exact fldOf_flat g1 g2 g3 f2
    ·exact q3 i h g' (by simpa using e1) (by simpa using e2)
   ·rw [q4];rfl
   ·intro hlt
    exact q5 (by simpa using hlt)
end Go.Abs
