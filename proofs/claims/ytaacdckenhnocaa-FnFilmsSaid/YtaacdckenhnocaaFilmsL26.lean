/- Laws of functions, some texts put together. Conditions: the laws of what they call. -/
import Derived.Test.YtaacdckenhnocaaFilmsL12
import Derived.Test.YtaacdckenhnocaaFilmsL08
import Derived.Test.YtaacdckenhnocaaFilmsWvH3
import Derived.Test.YtaacdckenhnocaaFilmsL07
namespace Go.Abs
set_option linter.unusedSimpArgs false
set_option linter.unusedVariables false
set_option maxHeartbeats 8000000
def impl_copyField_r0 :List SOper :=[
 ⟨some 1,none,.box (.tmp 0),0⟩,
 ⟨some 2,none,.alloc [(.slice none 0 0),(.slice none 0 0),(.slice none 0 0)],0⟩]
def impl_copyField_r1 (i_impl_copyOf :FuncId) :List SOper :=[
 ⟨some 3,none,.fieldAddr 0 (.tmp 1),0⟩,
 ⟨some 4,none,.load1 (.tmp 3),1⟩,
 ⟨some 5,none,.call (.func i_impl_copyOf) [(.tmp 4)],3⟩,
 ⟨some 6,none,.fieldAddr 1 (.tmp 1),0⟩,
 ⟨some 7,none,.load1 (.tmp 6),8⟩,
 ⟨some 8,none,.call (.func i_impl_copyOf) [(.tmp 7)],31⟩,
 ⟨some 9,none,.fieldAddr 2 (.tmp 1),0⟩,
 ⟨some 10,none,.load1 (.tmp 9),64⟩,
 ⟨some 11,none,.call (.func i_impl_copyOf) [(.tmp 10)],255⟩,
 ⟨some 12,none,.build [(.slice none 0 0),(.slice none 0 0),(.slice none 0 0)] [(0,1,(.tmp 5)),(1,1,(.tmp 8)),(2,1,(.tmp 11))],511⟩,
 ⟨none,none,.store 3 (.tmp 2) (.tmp 12),1023⟩]
def impl_copyField (i_impl_copyOf :FuncId) :SFunc :=⟨13,[.cellN 2 3],(.kp [0] (.seq (.region impl_copyField_r0 false) (.kp [1,2] (.seq (.region (impl_copyField_r1 i_impl_copyOf) true) .ret))))⟩
theorem impl_copyField_r1_dr {i_impl_copyOf :FuncId} :drawOkW wStat (impl_copyField_r1 i_impl_copyOf)=true :=by kernel_rfl
attribute [push_cast] impl_copyField_r1_dr
def spec_l02Own_r0 :List SOper :=[
 ⟨some 2,none,.alloc [(.slice none 0 0),(.slice none 0 0),(.slice none 0 0)],0⟩]
def spec_l02Own_r1 :List SOper :=[
 ⟨some 4,none,.buildSlice 1 0 [] [],0⟩,
 ⟨some 5,none,.mov (.tmp 0),0⟩,
 ⟨some 6,none,.nilCheck (.tmp 5),2⟩,
 ⟨some 7,none,.fieldAddr 0 (.tmp 6),6⟩,
 ⟨some 8,none,.load1 (.tmp 7),14⟩,
 ⟨some 9,none,.append 1 4 (.tmp 4) (.tmp 8),31⟩,
 ⟨some 10,none,.build [(.slice none 0 0),(.slice none 0 0),(.slice none 0 0)] [(0,1,(.tmp 9))],63⟩,
 ⟨some 3,none,.alloc [(.slice none 0 0),(.slice none 0 0),(.slice none 0 0)],0⟩,
 ⟨none,none,.store 3 (.tmp 3) (.tmp 10),255⟩]
def spec_l02Own_r2 :List SOper :=[
 ⟨some 11,none,.buildSlice 1 0 [] [],0⟩,
 ⟨some 12,none,.mov (.tmp 0),0⟩,
 ⟨some 13,none,.nilCheck (.tmp 12),2⟩,
 ⟨some 14,none,.fieldAddr 1 (.tmp 13),6⟩,
 ⟨some 15,none,.load1 (.tmp 14),14⟩,
 ⟨some 16,none,.append 1 4 (.tmp 11) (.tmp 15),31⟩,
 ⟨some 17,none,.fieldAddr 1 (.tmp 3),63⟩,
 ⟨none,none,.store 1 (.tmp 17) (.tmp 16),127⟩]
def spec_l02Own_r3 :List SOper :=[
 ⟨some 18,none,.buildSlice 1 0 [] [],0⟩,
 ⟨some 19,none,.mov (.tmp 0),0⟩,
 ⟨some 20,none,.nilCheck (.tmp 19),2⟩,
 ⟨some 21,none,.fieldAddr 2 (.tmp 20),6⟩,
 ⟨some 22,none,.load1 (.tmp 21),14⟩,
 ⟨some 23,none,.append 1 4 (.tmp 18) (.tmp 22),31⟩,
 ⟨some 24,none,.fieldAddr 2 (.tmp 3),63⟩,
 ⟨none,none,.store 1 (.tmp 24) (.tmp 23),127⟩]
def spec_l02Own_r4 :List SOper :=[
 ⟨some 25,none,.loadN 3 (.tmp 3),0⟩,
 ⟨none,none,.store 3 (.tmp 2) (.tmp 25),1⟩]
def spec_l02Own :SFunc :=⟨26,[.cellN 2 3],(.kp [0] (.seq (.region spec_l02Own_r0 false) (.kp [0,2] (.seq (.region spec_l02Own_r1 false) (.kp [0,2,3] (.seq (.region spec_l02Own_r2 false) (.kp [0,2,3] (.seq (.region spec_l02Own_r3 false) (.kp [2,3] (.seq (.region spec_l02Own_r4 false) .ret))))))))))⟩
def impl_copyField_ok (c :Contract) :Prop :=∀ (σ :Heap)(ev xv yv :Value)(e x y :List Nat),FlR σ ev xv yv e x y→e.length ≤ 1048576→x.length ≤ 1048576→y.length ≤ 1048576 →
 Ret c [fV ev xv yv] σ fun v σ' =>v=fV (slV σ.length e.length) (slV (σ.length+1) x.length) (slV (σ.length+2) y.length)∧σ'=σ++[rowO e,rowO x,rowO y]
theorem impl_copyField_law {C :Ctab}{i :FuncId}{c :Contract}(h1 :Has C i c impl_copyOf_ok) :impl_copyField_ok (gcC C (impl_copyField i) true) :=by
 intro σ ev xv yv e x y hr hn1 hn2 hn3
 obtain⟨r1,r2,r3⟩ :=hr
 refine ret_gc rfl rfl ?_
 repeat' (first | refine ff ?_ | (apply EvR.aCall h1.at_;(· exact eva);(· apply h1.ok <;> exact sid);(rintro _ _ ⟨rfl,rfl⟩;refine EvR.nrm ?_)) | ((first | refine sR ?_ ?_ | refine sC ?_ ?_) <;> (intro hb;(try rw [hb]);(try simp only [bb] at hb);(try (exfalso;first | omega | exact hb trivial)))) | (apply endS trivial;rotate_left;(· exact eva);(· rfl);try refine⟨?_,rfl⟩) | fail)
 (apply endR [2,3,4] trivial ⟨rfl,rfl⟩;(· exact eva);(· simp [gcTop,gcVal,gcLeaf,gcLeaves,gcVals,constOk,gc_lt,gc_lt0]);(· rfl);(· decide);(· simp [allConst,f32s,i64s,b8s,bools,constOk]))
def spec_l02Own_ok (c :Contract) :Prop :=∀ (σ :Heap)(p :Nat)(ev xv yv :Value)(e x y :List Nat),PtAt σ p 0 [ev,xv,yv]→FlR σ ev xv yv e x y→e.length ≤ 1048576→x.length ≤ 1048576→y.length ≤ 1048576 →
 Ret c [.pointer (some ⟨p,0,none⟩)] σ fun v σ' =>v=fV (slV σ.length e.length) (slV (σ.length+1) x.length) (slV (σ.length+2) y.length)∧σ'=σ++[rowO e,rowO x,rowO y]
theorem spec_l02Own_law {C :Ctab} :spec_l02Own_ok (gcC C spec_l02Own true) :=by
 intro σ p ev xv yv e x y hp hr hn1 hn2 hn3
 obtain⟨r1,r2,r3⟩ :=hr
 refine ret_gc rfl rfl ?_
 repeat' (first | refine ff ?_ | ((first | refine sR ?_ ?_ | refine sC ?_ ?_) <;> (intro hb;(try rw [hb]);(try simp only [bb] at hb);(try (exfalso;first | omega | exact hb trivial)))) | (apply endS trivial;rotate_left;(· exact eva);(· rfl);try refine⟨?_,rfl⟩) | fail)
 (apply endR [1,3,4] trivial ⟨rfl,rfl⟩;(· exact eva);(· simp [gcTop,gcVal,gcLeaf,gcLeaves,gcVals,constOk,gc_lt,gc_lt0]);(· rfl);(· decide);(· simp [allConst,f32s,i64s,b8s,bools,constOk]))
def PH (σ :Heap)(a b c :Nat)(X Y Z :AObj) :Heap :=((σ.set a X).set b Y).set c Z
section
variable {σ :Heap} {a b c :Nat} {X Y Z :AObj}
theorem set_same (h :σ[a]? = some X) :σ.set a X=σ :=by
 obtain⟨hl,he⟩ :=List.getElem?_eq_some_iff.1 h
 rw [← he];exact List.set_getElem_self hl
theorem PH_len :(PH σ a b c X Y Z).length=σ.length :=by simp [PH]
theorem PH_a (h1 :a ≠ b)(h2 :a ≠ c)(hl :a < σ.length) :(PH σ a b c X Y Z)[a]? = some X :=by
 unfold PH;rw [List.getElem?_set_ne (Ne.symm h2),List.getElem?_set_ne (Ne.symm h1),List.getElem?_set_self hl]
theorem PH_b (h2 :b ≠ c)(hl :b < σ.length) :(PH σ a b c X Y Z)[b]? = some Y :=by
 unfold PH;rw [List.getElem?_set_ne (Ne.symm h2),List.getElem?_set_self (by simpa using hl)]
theorem PH_c (hl :c < σ.length) :(PH σ a b c X Y Z)[c]? = some Z :=by
 unfold PH;rw [List.getElem?_set_self (by simpa using hl)]
theorem PH_o {o :Nat}(h1 :a ≠ o)(h2 :b ≠ o)(h3 :c ≠ o) :(PH σ a b c X Y Z)[o]? = σ[o]? :=by
 unfold PH;rw [List.getElem?_set_ne h3,List.getElem?_set_ne h2,List.getElem?_set_ne h1]
theorem PH_pt {o :Nat}{cs :List Value}(ha :∃ s,σ[a]? = some (rowO s))(hb :∃ s,σ[b]? = some (rowO s))(hc :∃ s,σ[c]? = some (rowO s)){r :Bool}(h :σ[o]? = some ⟨cs,0,r⟩) :(PH σ a b c X Y Z)[o]? = some ⟨cs,0,r⟩ :=by
 have ne :∀ i,(∃ s,σ[i]? = some (rowO s))→i ≠ o :=by
  rintro i ⟨s,hs⟩ rfl
  rw [h] at hs
  cases hs
 rw [PH_o (ne a ha) (ne b hb) (ne c hc)];exact h
end
end Go.Abs
namespace Go.Abs
set_option linter.unusedSimpArgs false
set_option linter.unusedVariables false
def preM (g :Nat→Nat)(xs :List Nat)(j :Nat) :List Nat :=(List.range j).map g++xs.drop j
def newM (g :Nat→Nat)(xs :List Nat) :List Nat :=(List.range xs.length).map g
section
variable {g :Nat→Nat} {xs :List Nat} {j :Nat}
theorem newM_length :(newM g xs).length=xs.length :=by simp [newM]
theorem newM_get (h :j < xs.length) :(newM g xs).getD j 0=g j :=by
 unfold newM
 rw [List.getD_eq_getElem?_getD,List.getElem?_map,List.getElem?_range h];rfl
theorem preM_length (h :j ≤ xs.length) :(preM g xs j).length=xs.length :=by simp [preM];omega
theorem preM_zero :preM g xs 0=xs :=by simp [preM]
theorem preM_end :preM g xs xs.length=newM g xs :=by simp [preM,newM]
theorem preM_set (h :j < xs.length) :(preM g xs j).set j (g j)=preM g xs (j+1) :=gen_step g xs j h
end
def atN (W H :Nat)(u v :Int) :Nat :=(atC W H u v).toNat
section
variable {W H :Nat} {u v :Int}
theorem atC_atN (hW :3 ≤ W)(hH :3 ≤ H)(u1 :-1 ≤ u)(u2 :u ≤ W)(v1 :-1 ≤ v)(v2 :v ≤ H) :atC W H u v=(atN W H u v :Nat) :=by
 have :=(atC_bd hW hH u1 u2 v1 v2).1
 unfold atN;omega
theorem atN_lt (hW :3 ≤ W)(hH :3 ≤ H)(u1 :-1 ≤ u)(u2 :u ≤ W)(v1 :-1 ≤ v)(v2 :v ≤ H) :atN W H u v < W * H :=by
 have :=(atC_bd hW hH u1 u2 v1 v2).2
 have :=(atC_bd hW hH u1 u2 v1 v2).1
 unfold atN;omega
theorem atC_cell {x y :Nat}(hx :x < W)(hy :y < H) :atC W H x y=((W * y+x :Nat) :Int) :=by
 rw [atC_in (by omega) (by omega) (by omega) (by omega)]
 have :=cell_ix hx hy
 omega
end
def hxC (W H :Nat)(wr :Bool)(e x :List Nat)(cx cy i :Nat) :Nat :=
 if (wr || decide ((cy :Int) < (H :Int) - 1))=true then fbin .sub .f32 (x.getD i 0) (fbin .mul .f32 0x3f000000 (fbin .sub .f32 (e.getD (atN W H cx ((cy :Int)+1)) 0) (e.getD i 0))) else x.getD i 0
def hyC (W H :Nat)(wr :Bool)(e y :List Nat)(cx cy i :Nat) :Nat :=
 if (wr || decide ((cx :Int) < (W :Int) - 1))=true then fbin .add .f32 (y.getD i 0) (fbin .mul .f32 0x3f000000 (fbin .sub .f32 (e.getD (atN W H ((cx :Int)+1) cy) 0) (e.getD i 0))) else y.getD i 0
def newE (W H :Nat)(sp lo e x y :List Nat)(cx cy :Int)(i :Nat) :Nat :=
 fbin .add .f32 (fbin .mul .f32 (e.getD i 0) (fbin .sub .f32 0x3f800000 (lo.getD i 0))) (fbin .mul .f32 (sp.getD i 0) (fbin .sub .f32 (fbin .sub .f32 (y.getD i 0) (y.getD (atN W H (cx - 1) cy) 0)) (fbin .sub .f32 (x.getD i 0) (x.getD (atN W H cx (cy - 1)) 0))))
def seC (W H :Nat)(wr :Bool)(sp lo e x y :List Nat)(cx cy i :Nat) :Nat :=if border W H wr cx cy=true then e.getD i 0 else newE W H sp lo e x y cx cy i
def hxF (W H :Nat)(wr :Bool)(e x :List Nat)(i :Nat) :Nat :=hxC W H wr e x (i % W) (i / W) i
def hyF (W H :Nat)(wr :Bool)(e y :List Nat)(i :Nat) :Nat :=hyC W H wr e y (i % W) (i / W) i
def seF (W H :Nat)(wr :Bool)(sp lo e x y :List Nat)(i :Nat) :Nat :=seC W H wr sp lo e x y (i % W) (i / W) i
section
variable {W H cx cy :Nat} {wr :Bool} {sp lo e x y :List Nat}
theorem hxF_at (h :cx < W) :hxF W H wr e x (W * cy+cx)=hxC W H wr e x cx cy (W * cy+cx) :=by unfold hxF;rw [mod_at h,div_at h]
theorem hyF_at (h :cx < W) :hyF W H wr e y (W * cy+cx)=hyC W H wr e y cx cy (W * cy+cx) :=by unfold hyF;rw [mod_at h,div_at h]
theorem seF_at (h :cx < W) :seF W H wr sp lo e x y (W * cy+cx)=seC W H wr sp lo e x y cx cy (W * cy+cx) :=by unfold seF;rw [mod_at h,div_at h]
end
abbrev halfX (W H :Nat)(wr :Bool)(e x :List Nat) :List Nat :=newM (hxF W H wr e x) x
abbrev halfY (W H :Nat)(wr :Bool)(e y :List Nat) :List Nat :=newM (hyF W H wr e y) y
abbrev stepE (W H :Nat)(wr :Bool)(sp lo e x y :List Nat) :List Nat :=newM (seF W H wr sp lo e x y) e
structure Fld where
 e :List Nat
 x :List Nat
 y :List Nat
def stepF (W H :Nat)(wr :Bool)(sp lo :List Nat)(f :Fld) :Fld :=
 ⟨stepE W H wr sp lo f.e (halfX W H wr f.e f.x) (halfY W H wr f.e f.y),halfX W H wr f.e f.x,halfY W H wr f.e f.y⟩
def runF (W H :Nat)(wr :Bool)(sp lo :List Nat) :Nat→Fld→Fld
 | 0,f =>f
 | k+1,f =>stepF W H wr sp lo (runF W H wr sp lo k f)
abbrev lenF (n :Nat)(f :Fld) :Prop :=f.e.length=n∧f.x.length=n∧f.y.length=n
theorem stepF_len {W H n :Nat}{wr :Bool}{sp lo :List Nat}{f :Fld}(h :lenF n f) :lenF n (stepF W H wr sp lo f) :=by
 unfold stepF
 exact⟨by dsimp only;rw [newM_length];exact h.1,by dsimp only;rw [newM_length];exact h.2.1,by dsimp only;rw [newM_length];exact h.2.2⟩
theorem fits_lens {W H :Nat}{wr :Bool}{e x y :List Nat}(h :fits W H wr e x y=true) :e.length=W * H∧x.length=W * H∧y.length=W * H :=by
 by_cases hl :e.length=W * H∧x.length=W * H∧y.length=W * H
 ·exact hl
 ·rw [fits_len hl] at h;cases h
theorem fits_cell {W H :Nat}{e x y :List Nat}(h :fits W H false e x y=true){i :Nat}(hi :i < W * H) :badC W H false e x y ((i :Int) % W) ((i :Int) / W) i=false :=by
 cases hb :badC W H false e x y ((i :Int) % W) ((i :Int) / W) i with
 | false =>rfl
 | true =>rw [fits_bad hi hb] at h;cases h
theorem stepF_e {W H i :Nat}{sp lo :List Nat}{f :Fld}(hi :i < f.e.length)(g :border W H false ((i % W :Nat) :Int) ((i / W :Nat) :Int)=true) :(stepF W H false sp lo f).e.getD i 0=f.e.getD i 0 :=by
 unfold stepF
 dsimp only
 unfold stepE
 rw [newM_get hi]
 unfold seF seC
 rw [if_pos g]
theorem stepF_x {W H i :Nat}{sp lo :List Nat}{f :Fld}(hi :i < f.x.length)(g :((i / W :Nat) :Int)=H - 1) :(stepF W H false sp lo f).x.getD i 0=f.x.getD i 0 :=by
 unfold stepF
 dsimp only
 unfold halfX
 rw [newM_get hi]
 unfold hxF hxC
 rw [if_neg (by rw [Bool.false_or,decide_eq_true_eq];omega)]
theorem stepF_y {W H i :Nat}{sp lo :List Nat}{f :Fld}(hi :i < f.y.length)(g :((i % W :Nat) :Int)=W - 1) :(stepF W H false sp lo f).y.getD i 0=f.y.getD i 0 :=by
 unfold stepF
 dsimp only
 unfold halfY
 rw [newM_get hi]
 unfold hyF hyC
 rw [if_neg (by rw [Bool.false_or,decide_eq_true_eq];omega)]
theorem fits_step {W H :Nat}{wr :Bool}{sp lo :List Nat}{f :Fld}(h :fits W H wr f.e f.x f.y=true) :fits W H wr (stepF W H wr sp lo f).e (stepF W H wr sp lo f).x (stepF W H wr sp lo f).y=true :=by
 obtain⟨l1,l2,l3⟩ :=fits_lens h
 obtain⟨m1,m2,m3⟩ :=stepF_len (W :=W) (H :=H) (wr :=wr) (sp :=sp) (lo :=lo) (f :=f) ⟨l1,l2,l3⟩
 cases wr with
 | true =>simp [fits,m1,m2,m3]
 | false =>
  refine fits_ok m1 m2 m3 fun i hi =>?_
  have hb :=fits_cell h hi
  have e1 :((i % W :Nat) :Int)=(i :Int) % W :=Int.natCast_emod i W
  have e2 :((i / W :Nat) :Int)=(i :Int) / W :=Int.natCast_ediv i W
  rw [← e1,← e2] at hb ⊢
  have ge :=stepF_e (W :=W) (H :=H) (sp :=sp) (lo :=lo) (f :=f) (i :=i) (by omega)
  have gx :=stepF_x (W :=W) (H :=H) (sp :=sp) (lo :=lo) (f :=f) (i :=i) (by omega)
  have gy :=stepF_y (W :=W) (H :=H) (sp :=sp) (lo :=lo) (f :=f) (i :=i) (by omega)
  generalize stepF W H false sp lo f=g at *
  unfold badC at hb ⊢
  simp only [Bool.or_eq_false_iff,Bool.and_eq_false_imp] at hb ⊢
  obtain⟨⟨b1,b2⟩,b3⟩ :=hb
  refine⟨⟨fun k =>?_,fun k =>?_⟩,fun k =>?_⟩
  ·rw [ge k];exact b1 k
  ·rw [gx (of_decide_eq_true k)];exact b2 k
  ·rw [gy (of_decide_eq_true k)];exact b3 k
theorem fits_run {W H :Nat}{wr :Bool}{sp lo :List Nat}{f :Fld}(h :fits W H wr f.e f.x f.y=true) :∀ k,fits W H wr (runF W H wr sp lo k f).e (runF W H wr sp lo k f).x (runF W H wr sp lo k f).y=true
 | 0 =>h
 | k+1 =>fits_step (fits_run h k)
end Go.Abs
namespace Go.Abs
set_option linter.unusedSimpArgs false
set_option linter.unusedVariables false
set_option maxHeartbeats 8000000
set_option maxRecDepth 20000
section
variable {C :Ctab} {F :Frame} {τ l :Heap}
end
structure HB (σ :Heap)(a b d p N :Nat) :Prop where
 ab :a ≠ b
 ad :a ≠ d
 bd :b ≠ d
 a0 :∃ s,σ[a]? = some (rowO s)
 b0 :∃ s,σ[b]? = some (rowO s)
 d0 :∃ s,σ[d]? = some (rowO s)
 p0 :∃ r,σ[p]? = some ⟨[slV a N,slV b N,slV d N],0,r⟩
structure HS (τ :Heap)(a b d p N :Nat)(e x y :List Nat) :Prop where
 pt :PtAt τ p 0 [slV a N,slV b N,slV d N]
 a_ :τ[a]? = some (rowO e)
 b_ :τ[b]? = some (rowO x)
 d_ :τ[d]? = some (rowO y)
 ra :Row τ 1 (slV a N) N (f32s e)
 rb :Row τ 1 (slV b N) N (f32s x)
 rd :Row τ 1 (slV d N) N (f32s y)
theorem HB.at_ {σ :Heap}{a b d p N :Nat}(h :HB σ a b d p N){e x y :List Nat}(he :e.length=N)(hx :x.length=N)(hy :y.length=N) :
 ∃ τ,τ=PH σ a b d (rowO e) (rowO x) (rowO y)∧σ.length=τ.length∧HS τ a b d p N e x y :=by
 obtain⟨s1,h1⟩ :=h.a0
 obtain⟨s2,h2⟩ :=h.b0
 obtain⟨s3,h3⟩ :=h.d0
 obtain⟨r,h4⟩ :=h.p0
 have l1 :a < σ.length :=(List.getElem?_eq_some_iff.1 h1).1
 have l2 :b < σ.length :=(List.getElem?_eq_some_iff.1 h2).1
 have l3 :d < σ.length :=(List.getElem?_eq_some_iff.1 h3).1
 have ga :(PH σ a b d (rowO e) (rowO x) (rowO y))[a]? = some (rowO e) :=PH_a h.ab h.ad l1
 have gb :(PH σ a b d (rowO e) (rowO x) (rowO y))[b]? = some (rowO x) :=PH_b h.bd l2
 have gd :(PH σ a b d (rowO e) (rowO x) (rowO y))[d]? = some (rowO y) :=PH_c l3
 refine⟨_,rfl,PH_len.symm,PtAt.whole (r :=r) (PH_pt ⟨_,h1⟩ ⟨_,h2⟩ ⟨_,h3⟩ h4),ga,gb,gd,?_,?_,?_⟩
 ·subst he;exact Row.whole ga (by omega) (by rw [f32s_length];omega)
 ·subst hx;exact Row.whole gb (by omega) (by rw [f32s_length];omega)
 ·subst hy;exact Row.whole gd (by omega) (by rw [f32s_length];omega)
end Go.Abs
