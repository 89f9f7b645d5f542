/- Plain law: what is stored of a film is loaded, and what is recovered of bytes is the film of a beginning. No condition beyond those written. -/
import Derived.Test.YtaacdckenhnocaaFilmsL112
namespace Go.Abs
set_option linter.unusedSimpArgs false
set_option linter.unusedVariables false
set_option maxHeartbeats 8000000
theorem nums_app {a b :List Nat}(h1 :nums a)(h2 :nums b) :nums (a++b) :=fun i hi =>by
 rw [List.getD_eq_getElem?_getD]
 rcases Nat.lt_or_ge i a.length with h | h
 ·rw [List.getElem?_append_left h,← List.getD_eq_getElem?_getD];exact h1 i h
 ·rw [List.getElem?_append_right h,← List.getD_eq_getElem?_getD]
  rw [List.length_append] at hi
  exact h2 _ (by omega)
theorem numAt_shB {W H :Nat}{wr :Bool}{sp lo :List Nat}(h1 :nums sp)(h2 :nums lo)(t :List UInt8){i :Nat}(hi :i < sp.length+lo.length) :numAt (shB W H wr sp lo++t) (7+4 * i)=(sp++lo).getD i 0 :=by
 obtain⟨n1,n2⟩ :=nums_app h1 h2 i (by rw [List.length_append];exact hi)
 have e :(shB W H wr sp lo++t).drop (7+4 * i)=(words (shX sp lo) 0 (sp.length+lo.length)++t).drop (4 * i) :=by
  unfold shB shHd
  rw [Nat.add_comm 7]
  simp only [List.cons_append,List.nil_append,List.drop_succ_cons]
 have hx :shX sp lo i=(sp++lo).getD i 0 :=by unfold shX;exact bitsC_f n2
 unfold numAt
 rw [e,List.drop_append_of_le_length (by rw [words_length];omega),List.take_append_of_le_length (by rw [List.length_drop,words_length];omega),words_at _ _ _ _ hi,Nat.zero_add,hx,numB_lowB n1]
structure HdOk (W H :Nat)(wr :Bool)(sp lo :List Nat)(s :List UInt8) :Prop where
 ah :ahOk s=true
 w :byAt s 4=W
 h :byAt s 5=H
 r :shWr s=wr
 n :shN s=W * H
 p :shSp s=sp
 l :shLo s=lo
 e :shEnd s=(shB W H wr sp lo).length
 b :s.take (shB W H wr sp lo).length=shB W H wr sp lo
 le :(shB W H wr sp lo).length ≤ s.length
theorem hd_ok {W H :Nat}{wr :Bool}{sp lo :List Nat}(hs :isSheet W H sp lo=true)(h1 :in32 sp)(h2 :in32 lo)(t :List UInt8) :HdOk W H wr sp lo (shB W H wr sp lo++t) :=by
 obtain⟨a1,a2,a3,a4,z1,z2⟩ :=isSheet_sides hs
 have hWH :(W :Int) * (H :Int)=((W * H :Nat) :Int) :=(Int.natCast_mul _ _).symm
 obtain⟨q1,q2⟩ :=isSheet_nums hs h1 h2
 have c1 :sp.length=W * H :=by omega
 have c2 :lo.length=W * H :=by omega
 have eB :shB W H wr sp lo++t=87::65::86::49::byteOf (W :Int)::byteOf (H :Int)::(if wr then 1 else 0)::(words (shX sp lo) 0 (sp.length+lo.length)++t) :=by
  unfold shB shHd
  simp only [List.cons_append,List.nil_append]
 have b4 :byAt (shB W H wr sp lo++t) 4=W :=by
  rw [eB];show (byteOf (W :Int)).toNat=W;exact byteOf_toNat (by omega)
 have b5 :byAt (shB W H wr sp lo++t) 5=H :=by
  rw [eB];show (byteOf (H :Int)).toNat=H;exact byteOf_toNat (by omega)
 have b6 :byAt (shB W H wr sp lo++t) 6=if wr then 1 else 0 :=by
  rw [eB];cases wr <;> rfl
 have bw :shWr (shB W H wr sp lo++t)=wr :=by
  unfold shWr;rw [b6];cases wr <;> rfl
 have bn :shN (shB W H wr sp lo++t)=W * H :=by unfold shN;rw [b4,b5]
 have bl :(shB W H wr sp lo).length=7+8 * (W * H) :=by rw [shB_length];omega
 have bs :shSp (shB W H wr sp lo++t)=sp :=by
  unfold shSp numsAt
  rw [bn]
  apply List.ext_getElem
  ·rw [List.length_map,List.length_range];omega
  ·intro i h3 h4
   rw [List.getElem_map,List.getElem_range,numAt_shB q1 q2 t (by omega),List.getD_eq_getElem?_getD,List.getElem?_append_left h4,List.getElem?_eq_getElem h4]
   rfl
 have bo :shLo (shB W H wr sp lo++t)=lo :=by
  unfold shLo numsAt
  rw [bn]
  apply List.ext_getElem
  ·rw [List.length_map,List.length_range];omega
  ·intro i h3 h4
   rw [List.getElem_map,List.getElem_range,show 7+4 * (W * H)+4 * i=7+4 * (W * H+i) from by omega,numAt_shB q1 q2 t (by omega),List.getD_eq_getElem?_getD,List.getElem?_append_right (by omega),show W * H+i - sp.length=i from by omega,List.getElem?_eq_getElem h4]
   rfl
 have be :shEnd (shB W H wr sp lo++t)=(shB W H wr sp lo).length :=by unfold shEnd;rw [bn,bl]
 refine⟨?_,b4,b5,bw,bn,bs,bo,be,List.take_left,by rw [List.length_append];omega⟩
 unfold ahOk
 rw [b4,b5,bw,bs,bo,hs,be,List.take_left,b6,decide_eq_true (rfl :shB W H wr sp lo=shB W H wr sp lo),decide_eq_true (show 7 ≤ (shB W H wr sp lo++t).length by rw [List.length_append];omega),decide_eq_true (show (shB W H wr sp lo).length ≤ (shB W H wr sp lo++t).length by rw [List.length_append];omega),decide_eq_true (show (shB W H wr sp lo++t).take 4=wavB by rw [eB];rfl)]
 cases wr <;> rfl
theorem rcAll_hd {W H :Nat}{wr :Bool}{sp lo :List Nat}{s :List UInt8}(h :HdOk W H wr sp lo s) :rcAll s=recF W H wr sp lo (W * H) s 16 (List.replicate (3 * (W * H)) 0) (shB W H wr sp lo).length [] :=by
 unfold rcAll;rw [h.w,h.h,h.r,h.n,h.p,h.l,h.e]
theorem fldOf_low {N :Nat}{now :List Nat}(h :lows now) :lowF1 (fldOf N now) :=by
 have hm :∀ x ∈ now,x < 4294967296 :=fun x hx =>by
  obtain⟨i,hi,rfl⟩ :=List.getElem_of_mem hx
  have :=h i hi
  rwa [List.getD_eq_getElem?_getD,List.getElem?_eq_getElem hi] at this
 exact⟨in32N_of fun x hx =>hm x (List.mem_of_mem_take hx),in32N_of fun x hx =>hm x (List.mem_of_mem_take (List.mem_of_mem_drop hx)),in32N_of fun x hx =>hm x (List.mem_of_mem_drop hx)⟩
theorem recF_low (W H :Nat)(wr :Bool)(sp lo :List Nat)(N :Nat)(s :List UInt8) :∀ (k :Nat)(last :List Nat)(p :Nat)(fs :List Fld),lows last→lowF fs→lowF (recF W H wr sp lo N s k last p fs).1
 | 0,last,p,fs,hl,hf =>hf
 | k+1,last,p,fs,hl,hf =>by
  cases hA :frAt last s p with
  | none =>rw [recF_none hA];exact hf
  | some now =>
   cases hI :isField W H wr sp lo (fldOf N now).e (fldOf N now).x (fldOf N now).y
   ·rw [recF_bad hA hI];exact hf
   ·rw [recF_step hA hI]
    have hn :=(frAt_some hA).2.1 hl
    exact recF_low W H wr sp lo N s k now _ _ hn fun f hf' =>by
     rcases List.mem_append.1 hf' with h | h
     ·exact hf f h
     ·rw [List.mem_singleton] at h;subst h;exact fldOf_low hn
theorem stGo_len {N :Nat} :∀ (fs :List Fld)(out :List UInt8)(last :List Nat),last.length=3 * N→(∀ f ∈ fs,f.e.length=N∧f.x.length=N∧f.y.length=N)→(stGo out last fs).length ≤ out.length+fs.length * (6 * (3 * N)+4)
 | [],out,last,_,_ =>by simp [stGo]
 | f::fs,out,last,hl,hf =>by
  obtain⟨u1,u2,u3⟩ :=hf f (by simp)
  have h1 :=stGo_len fs (out++frameB out last (flat f)) (flat f) (by rw [flat_length];omega) fun g hg =>hf g (by simp [hg])
  have h2 :=frameB_len out last (flat f)
  rw [hl] at h2
  rw [stGo,List.length_cons,Nat.succ_mul]
  rw [List.length_append] at h1
  omega
theorem stGo_le {out :List UInt8}{last :List Nat}{fs :List Fld}(k :Nat) :(stGo out last (fs.take k)).length ≤ (stGo out last fs).length :=by
 obtain⟨l2,h⟩ :=stGo_app (fs.take k) (fs.drop k) out last
 obtain⟨t,ht⟩ :=stGo_pre (fs.drop k) (stGo out last (fs.take k)) l2
 rw [List.take_append_drop] at h
 rw [h,ht,List.length_append];omega
theorem sameFls_of :∀ (hs fs :List Fld),hs.length=fs.length→(∀ (i :Nat)(h g :Fld),hs[i]? = some h→fs[i]? = some g→eqF h g)→sameFls hs fs=true
 | [],[],_,_ =>rfl
 | h::hs,f::fs,hl,he =>by
  obtain⟨e1,e2,e3⟩ :=he 0 h f rfl rfl
  unfold sameFls sameFl sameL
  rw [decide_eq_true (show h.e.map bitsC=f.e.map bitsC from e1),decide_eq_true (show h.x.map bitsC=f.x.map bitsC from e2),decide_eq_true (show h.y.map bitsC=f.y.map bitsC from e3)]
  rw [sameFls_of hs fs (by simpa using hl) fun i a b h1 h2 =>he (i+1) a b (by simpa using h1) (by simpa using h2)]
  rfl
 | [],f::fs,h,_ =>by simp at h
 | h::hs,[],h',_ =>by simp at h'
structure FlmI (W H :Nat)(wr :Bool)(sp lo :List Nat)(fs :List Fld) :Prop where
 I :isFilm W H wr sp lo fs=true
 n :fs.length ≤ 3
 lw :lowF fs
 p32 :in32 sp
 l32 :in32 lo
section
variable {W H :Nat} {wr :Bool} {sp lo :List Nat} {fs :List Fld}
theorem sfB_nat :sfB W H wr sp lo fs=stGo (shB W H wr sp lo) (List.replicate (3 * (W * H)) 0) fs :=by unfold sfB;rw [Int.toNat_natCast,Int.toNat_natCast]
theorem isFilm_n (hI :isFilm W H wr sp lo fs=true) :isSheet W H sp lo=true∧9 ≤ W * H∧W * H ≤ 256∧sp.length=W * H∧lo.length=W * H ∧ ∀ f ∈ fs,f.e.length=W * H∧f.x.length=W * H∧f.y.length=W * H :=by
 have hsh :=isFilm_sheet hI
 obtain⟨a1,a2,a3,a4,z1,z2⟩ :=isSheet_sides hsh
 have hWH :(W :Int) * (H :Int)=((W * H :Nat) :Int) :=(Int.natCast_mul _ _).symm
 have hN2 :W * H ≤ 256 :=Nat.mul_le_mul (show W ≤ 16 by omega) (show H ≤ 16 by omega)
 have hN3 :9 ≤ W * H :=Nat.mul_le_mul (show 3 ≤ W by omega) (show 3 ≤ H by omega)
 refine⟨hsh,hN3,hN2,by omega,by omega,fun f hf =>?_⟩
 obtain⟨_,t1,t2,t3⟩ :=isField_len (isFilm_field hI hf)
 omega
theorem FlmI.len (h :FlmI W H wr sp lo fs) :(shB W H wr sp lo).length ≤ 2055∧(sfB W H wr sp lo fs).length ≤ 60000 :=by
 obtain⟨_,_,n2,c1,c2,hf⟩ :=isFilm_n h.I
 have e :=shB_length W H wr sp lo
 have h1 :=stGo_len (N :=W * H) fs (shB W H wr sp lo) (List.replicate (3 * (W * H)) 0) (by rw [List.length_replicate]) hf
 have h2 :fs.length * (6 * (3 * (W * H))+4) ≤ 3 * 4612 :=Nat.mul_le_mul h.n (by omega)
 rw [sfB_nat]
 omega
theorem FlmI.sf (h :FlmI W H wr sp lo fs) :sfOk W H wr sp lo fs=true :=by
 unfold sfOk;rw [h.I,decide_eq_true (by have :=h.len.2;omega)];rfl
theorem FlmI.pre (h :FlmI W H wr sp lo fs) :∃ t,sfB W H wr sp lo fs=shB W H wr sp lo++t :=by rw [sfB_nat];exact stGo_pre _ _ _
theorem FlmI.le (h :FlmI W H wr sp lo fs) :(shB W H wr sp lo).length ≤ (sfB W H wr sp lo fs).length :=by
 obtain⟨t,ht⟩ :=h.pre;rw [ht,List.length_append];omega
theorem FlmI.hd (h :FlmI W H wr sp lo fs){n :Nat}(hn :(shB W H wr sp lo).length ≤ n)(u :List UInt8) :HdOk W H wr sp lo ((sfB W H wr sp lo fs).take n++u) :=by
 obtain⟨t,ht⟩ :=h.pre
 rw [ht,List.take_append,List.take_of_length_le hn,List.append_assoc]
 exact hd_ok (isFilm_sheet h.I) h.p32 h.l32 _
theorem FlmI.hd0 (h :FlmI W H wr sp lo fs){n :Nat}(hn :(shB W H wr sp lo).length ≤ n) :HdOk W H wr sp lo ((sfB W H wr sp lo fs).take n) :=by
 have :=h.hd hn []
 rwa [List.append_nil] at this
theorem FlmI.cut (h :FlmI W H wr sp lo fs){n :Nat}(h1 :(shB W H wr sp lo).length ≤ n)(h2 :n ≤ (sfB W H wr sp lo fs).length) :
 (rcAll ((sfB W H wr sp lo fs).take n)).1.length ≤ fs.length∧(∀ (i :Nat) (a g :Fld),(rcAll ((sfB W H wr sp lo fs).take n)).1[i]? = some a→fs[i]? = some g→eqF a g) ∧
  (rcAll ((sfB W H wr sp lo fs).take n)).2=(sfB W H wr sp lo (fs.take (rcAll ((sfB W H wr sp lo fs).take n)).1.length)).length ∧
  ((rcAll ((sfB W H wr sp lo fs).take n)).1.length < fs.length→n < (sfB W H wr sp lo (fs.take ((rcAll ((sfB W H wr sp lo fs).take n)).1.length+1))).length) :=by
 obtain⟨_,_,n2,c1,c2,hf⟩ :=isFilm_n h.I
 rw [rcAll_hd (h.hd0 h1),sfB_nat,sfB_nat,sfB_nat]
 rw [sfB_nat] at h2
 obtain⟨hs,g1,g2,g3,g4,g5⟩ :=recF_cut W H wr sp lo (W * H) (by omega) n fs 16 (List.replicate (3 * (W * H)) 0) (List.replicate (3 * (W * H)) 0) (shB W H wr sp lo) [] (by have :=h.n;omega) (lows_zero _) List.length_replicate (eqB_refl _) h1 h2 fun g hg =>⟨h.lw g hg,(hf g hg).1,(hf g hg).2.1,(hf g hg).2.2,isFilm_field h.I hg⟩
 rw [List.nil_append] at g1
 rw [g1]
 exact⟨g2,g3,g4,g5⟩
theorem FlmI.whole (h :FlmI W H wr sp lo fs) :(rcAll (sfB W H wr sp lo fs)).1.length=fs.length∧(rcAll (sfB W H wr sp lo fs)).2=(sfB W H wr sp lo fs).length∧sameFls (rcAll (sfB W H wr sp lo fs)).1 fs=true :=by
 have hc :=h.cut h.le (Nat.le_refl _)
 rw [List.take_length] at hc
 obtain⟨g2,g3,g4,g5⟩ :=hc
 have e :(rcAll (sfB W H wr sp lo fs)).1.length=fs.length :=by
  rcases Nat.lt_or_ge (rcAll (sfB W H wr sp lo fs)).1.length fs.length with hlt | hge
  ·have h1 :=g5 hlt
   have h2 :=stGo_le (out :=shB W H wr sp lo) (last :=List.replicate (3 * (W * H)) 0) (fs :=fs) ((rcAll (sfB W H wr sp lo fs)).1.length+1)
   rw [← sfB_nat,← sfB_nat] at h2
   omega
  ·omega
 refine⟨e,?_,sameFls_of _ _ e g3⟩
 rw [g4,e,List.take_length]
theorem FlmI.end_ (h :FlmI W H wr sp lo fs){n :Nat}(hn :n=(sfB W H wr sp lo fs).length) :(rcAll ((sfB W H wr sp lo fs).take n)).2=n :=by
 subst hn;rw [List.take_length];exact h.whole.2.1
theorem rec_store {s :List UInt8}(hs :HdOk W H wr sp lo s)(hsh :isSheet W H sp lo=true)(hl :s.length ≤ 65536) :isFilm W H wr sp lo (rcAll s).1=true∧sfOk W H wr sp lo (rcAll s).1=true∧sfB W H wr sp lo (rcAll s).1=s.take (rcAll s).2∧(rcAll s).2 ≤ s.length∧lowF (rcAll s).1 :=by
 obtain⟨hh,g1,g2,g3,g4,g5,g6⟩ :=recF_store W H wr sp lo (W * H) s 16 (List.replicate (3 * (W * H)) 0) (shB W H wr sp lo).length [] hs.le
 have hlo :=recF_low W H wr sp lo (W * H) s 16 (List.replicate (3 * (W * H)) 0) (shB W H wr sp lo).length [] (lows_zero _) (fun f hf =>by cases hf)
 rw [List.nil_append] at g1
 rw [hs.b] at g3
 rw [← rcAll_hd hs] at g1 g3 g4 g5 hlo
 have hF :isFilm W H wr sp lo (rcAll s).1=true :=by
  unfold isFilm
  rw [hsh,g1,decide_eq_true g2,List.all_eq_true.2 g6];rfl
 have hB :sfB W H wr sp lo (rcAll s).1=s.take (rcAll s).2 :=by rw [sfB_nat,g1,g3]
 refine⟨hF,?_,hB,g5,hlo⟩
 unfold sfOk
 rw [hF,hB,decide_eq_true (by rw [List.length_take];omega)];rfl
theorem FlmI.sub (h :FlmI W H wr sp lo fs)(k :Nat) :FlmI W H wr sp lo (fs.take k) :=by
 have hm :∀ g ∈ fs.take k,g ∈ fs :=fun g hg =>List.mem_of_mem_take hg
 have hl :(fs.take k).length ≤ fs.length :=by rw [List.length_take];omega
 refine⟨?_,by have :=h.n;omega,fun g hg =>h.lw g (hm g hg),h.p32,h.l32⟩
 unfold isFilm
 rw [isFilm_sheet h.I,decide_eq_true (by have :=h.n;omega),List.all_eq_true.2 fun g hg =>isFilm_field h.I (hm g hg)];rfl
theorem FlmI.bent (h :FlmI W H wr sp lo fs){n :Nat}(h1 :(shB W H wr sp lo).length ≤ n)(h2 :n ≤ (sfB W H wr sp lo fs).length)(u :List UInt8) :(rcAll ((sfB W H wr sp lo fs).take n)).2 ≤ (rcAll ((sfB W H wr sp lo fs).take n++u)).2 :=by
 have hl :((sfB W H wr sp lo fs).take n).length=n :=by rw [List.length_take];omega
 rw [rcAll_hd (h.hd0 h1),rcAll_hd (h.hd h1 u)]
 exact recF_mono W H wr sp lo (W * H) List.take_left (by rw [List.length_append];omega) 16 _ _ _ (by omega)
end
end Go.Abs
