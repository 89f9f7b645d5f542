/- Laws of functions: some fields of a film, by the program and by the reference. Conditions: the laws of what they call. -/
import Derived.Test.YtaacdckenhnocaaFilmsL27
namespace Go.Abs
set_option linter.unusedSimpArgs false
set_option linter.unusedVariables false
set_option maxHeartbeats 8000000
set_option maxRecDepth 20000
def impl_SliceFilm_r0 :List SOper :=[
 ⟨some 3,none,.box (.tmp 0),0⟩,
 ⟨some 6,none,.alloc [(.int .i64 0),(.int .i64 0),(.bool false),(.slice none 0 0),(.slice none 0 0),(.slice none 0 0)],0⟩,
 ⟨some 7,none,.mov (.const (.bool false)),0⟩]
def impl_SliceFilm_r1 :List SOper :=[
 ⟨some 9,none,.fieldAddr 5 (.tmp 3),0⟩,
 ⟨some 10,none,.load1 (.tmp 9),1⟩,
 ⟨some 11,none,.len false (.tmp 10),3⟩,
 ⟨some 8,none,.mov (.tmp 11),7⟩]
def impl_SliceFilm_r2 (i_impl_ValidFilm i_impl_within :FuncId) :List SOper :=[
 ⟨some 12,none,.loadN 6 (.tmp 3),0⟩,
 ⟨some 13,none,.call (.func i_impl_ValidFilm) [(.tmp 12)],1⟩,
 ⟨some 14,none,.un .not (.tmp 13),3⟩,
 ⟨some 15,none,.mov (.tmp 14),7⟩,
  ⟨(some 16),(some (15,false)),.mov (.tmp 1),15⟩,
  ⟨(some 17),(some (15,false)),.mov (.tmp 8),15⟩,
  ⟨(some 18),(some (15,false)),.call (.func i_impl_within) [(.tmp 16),(.const (.int .i64 0)),(.tmp 17)],63⟩,
  ⟨(some 19),(some (15,false)),.un .not (.tmp 18),127⟩,
 ⟨some 20,none,.pick (.tmp 15) (.const (.bool true)) (.tmp 19),255⟩,
 ⟨some 21,none,.mov (.tmp 20),511⟩,
  ⟨(some 22),(some (21,false)),.mov (.tmp 2),1023⟩,
  ⟨(some 23),(some (21,false)),.mov (.tmp 8),1023⟩,
  ⟨(some 24),(some (21,false)),.mov (.tmp 1),1023⟩,
  ⟨(some 25),(some (21,false)),.bin .sub .other (.tmp 23) (.tmp 24),7167⟩,
  ⟨(some 26),(some (21,false)),.call (.func i_impl_within) [(.tmp 22),(.const (.int .i64 0)),(.tmp 25)],16383⟩,
  ⟨(some 27),(some (21,false)),.un .not (.tmp 26),32767⟩,
 ⟨some 28,none,.pick (.tmp 21) (.const (.bool true)) (.tmp 27),65535⟩]
def impl_SliceFilm_r3 :List SOper :=[
 ⟨some 29,none,.build [(.int .i64 0),(.int .i64 0),(.bool false),(.slice none 0 0),(.slice none 0 0),(.slice none 0 0)] [],0⟩,
 ⟨none,none,.store 6 (.tmp 6) (.tmp 29),1⟩,
 ⟨some 7,none,.mov (.const (.bool false)),3⟩]
def impl_SliceFilm_r4 (i_impl_copySheet i_impl_copyFields :FuncId) :List SOper :=[
 ⟨some 30,none,.fieldAddr 0 (.tmp 3),0⟩,
 ⟨some 31,none,.loadN 5 (.tmp 30),1⟩,
 ⟨some 32,none,.call (.func i_impl_copySheet) [(.tmp 31)],3⟩,
 ⟨some 33,none,.fieldAddr 5 (.tmp 3),0⟩,
 ⟨some 34,none,.load1 (.tmp 33),8⟩,
 ⟨some 35,none,.mov (.tmp 1),0⟩,
 ⟨some 36,none,.mov (.tmp 1),0⟩,
 ⟨some 37,none,.mov (.tmp 2),0⟩,
 ⟨some 38,none,.bin .add .other (.tmp 36) (.tmp 37),192⟩,
 ⟨some 39,none,.sliceSl 3 (.tmp 34) (some (.tmp 35)) (some (.tmp 38)),504⟩,
 ⟨some 40,none,.call (.func i_impl_copyFields) [(.tmp 39)],1023⟩,
 ⟨some 41,none,.build [(.int .i64 0),(.int .i64 0),(.bool false),(.slice none 0 0),(.slice none 0 0),(.slice none 0 0)] [(0,5,(.tmp 32)),(5,1,(.tmp 40))],2047⟩,
 ⟨none,none,.store 6 (.tmp 6) (.tmp 41),4095⟩,
 ⟨some 7,none,.mov (.const (.bool true)),8191⟩]
def impl_SliceFilm (i_impl_ValidFilm i_impl_within i_impl_copySheet i_impl_copyFields :FuncId) :SFunc :=⟨42,[.cellN 6 6,.tmp 7],(.kp [0,1,2] (.seq (.region impl_SliceFilm_r0 false) (.kp [1,2,3,6] (.seq (.region impl_SliceFilm_r1 false) (.kp [1,2,3,6,8] (.seq (.seq (.region (impl_SliceFilm_r2 i_impl_ValidFilm i_impl_within) false) (.kp [1,2,3,6,28] (.cond (.tmp 28) (.seq (.region impl_SliceFilm_r3 false) .ret) .skip))) (.kp [1,2,3,6] (.seq (.region (impl_SliceFilm_r4 i_impl_copySheet i_impl_copyFields) true) .ret))))))))⟩
theorem impl_SliceFilm_r4_dr {i_impl_copySheet i_impl_copyFields :FuncId} :drawOkW wStat (impl_SliceFilm_r4 i_impl_copySheet i_impl_copyFields)=true :=by kernel_rfl
attribute [push_cast] impl_SliceFilm_r4_dr
structure FmRes (ok :Bool)(σ σ' :Heap)(v :Value)(w h :Int)(wr :Bool)(sp lo :List Nat)(gs :List Fld) :Prop where
 t :ok=true → ∃ τ s l b R,σ'=σ++τ∧v = .tuple #[fmV w h wr (slV s sp.length) (slV l lo.length) (slV b gs.length),.bool true]∧FilmO σ' σ.length s l b R sp lo gs
 f :ok=false→(∃ τ,σ'=σ++τ)∧v = .tuple #[noFilm,.bool false]
theorem FmRes.no {σ τ :Heap}{v :Value}{w h :Int}{wr :Bool}{sp lo :List Nat}{gs :List Fld}(hv :v = .tuple #[noFilm,.bool false]) :FmRes false σ (σ++τ) v w h wr sp lo gs :=⟨fun h =>(by cases h),fun _ =>⟨⟨_,rfl⟩,hv⟩⟩
theorem FlsC.drop {σ :Heap} :∀ {fs :List Fld}{cs :List Value}(a :Nat),FlsC σ fs cs→FlsC σ (fs.drop a) (cs.drop (a * 3))
 | fs,cs,0,h =>by simpa using h
 | [],[],a+1,h =>by simp;trivial
 | f::fs,u::v::w::cs,a+1,h =>by
  rw [show (a+1) * 3=a * 3+3 by omega]
  exact FlsC.drop a h.2
 | [],_::_,_,h =>False.elim h
 | _::_,[],_+1,h =>False.elim h
 | _::_,[_],_+1,h =>False.elim h
 | _::_,[_,_],_+1,h =>False.elim h
theorem FlsC.take {σ :Heap} :∀ {fs :List Fld}{cs :List Value}(k :Nat),FlsC σ fs cs→FlsC σ (fs.take k) (cs.take (k * 3))
 | fs,cs,0,h =>by simp;trivial
 | [],[],k+1,h =>by simp;trivial
 | f::fs,u::v::w::cs,k+1,h =>by
  rw [show (k+1) * 3=k * 3+3 by omega]
  exact⟨h.1,FlsC.take k h.2⟩
 | [],_::_,_,h =>False.elim h
 | _::_,[],_+1,h =>False.elim h
 | _::_,[_],_+1,h =>False.elim h
 | _::_,[_,_],_+1,h =>False.elim h
theorem Row.sl3 {τ l :Heap}{v :Value}{m a k :Nat}{cs :List Value}(hr :Row τ 3 v m cs)(hk :a+k ≤ m) :
 ∃ v',aSliceSl (τ++l) 3 v (some (.int .i64 (a :Nat))) (some (.int .i64 ((a+k :Nat) :Int)))=some v'∧Row τ 3 v' k ((cs.drop (a * 3)).take (k * 3)) :=by
 have hx :=hr.ext l
 unfold Row at hr hx
 cases v with
 | slice ad n' cap =>
  cases ad with
  | none =>
   obtain⟨rfl,rfl,rfl⟩ :=hr
   obtain rfl :a=0 :=by omega
   obtain rfl :k=0 :=by omega
   refine⟨.slice none 0 cap,?_,?_⟩
   ·simp only [aSliceSl,Abs.idx]
    rw [if_pos (by omega)]
    simp
   ·exact⟨rfl,rfl,rfl⟩
  | some ad =>
   obtain⟨rfl,h2,obj,h3,h4⟩ :=hr
   obtain⟨_,_,obj2,h5,_⟩ :=hx
   obtain⟨g1,g2,g3,g4⟩ :=rowAt_spec h3
   refine⟨.slice (some ⟨ad.block,ad.off+a * 3,none⟩) k (cap - a),?_,?_⟩
   ·simp only [aSliceSl,Abs.idx,h5]
    rw [if_pos (by omega)]
    congr 2
    first | done | omega | (simp;done) | (simp;omega)
   ·refine⟨rfl,by omega,obj,rowAt_mk g1 g2 (by rw [g3];dsimp only;omega) (by omega),?_⟩
    rw [h4]
    dsimp only
    rw [List.drop_take,List.drop_drop,List.take_take]
    congr 1
    omega
 | _ =>exact hr.elim
section
variable {C :Ctab} {F :Frame} {τ l :Heap}
theorem EvR.sl3 {Q}{d n a k m :Nat}{rest :List SOper}{x y z :Operand}{v :Value}{cs :List Value}(hr :Row τ 3 v m cs)(hk :a+k ≤ m)(h1 :eval F x=v)(h2 :eval F y = .int .i64 (a :Nat))(h3 :eval F z = .int .i64 ((a+k :Nat) :Int))
 (h :∀ v',Row τ 3 v' k ((cs.drop (a * 3)).take (k * 3))→EvR C rest ((d,v')::F) (τ++l) Q) :EvR C (⟨some d,none,.sliceSl 3 x (some y) (some z),n⟩::rest) F (τ++l) Q :=by
 obtain⟨v',e1,e2⟩ :=hr.sl3 (l :=l) hk
 refine EvR.opS (evL_ok ?_) (h v' e2)
 rw [evL,h1,Option.map_some,Option.map_some,h2,h3]
 exact e1
end
theorem fitsF_sub {fs :List Fld}(h :fitsF fs)(a k :Nat) :fitsF ((fs.drop a).take k) :=
 ⟨by have :=h.1;rw [List.length_take,List.length_drop];omega,fun f hf =>h.2 f (List.mem_of_mem_drop (List.mem_of_mem_take hf))⟩
def slOk (w h :Int)(wr :Bool)(sp lo :List Nat)(fs :List Fld)(a k :Int) :Bool :=isFilm w h wr sp lo fs && (inR a 0 fs.length && inR k 0 (fs.length - a))
def SliceFilm_ok (c :Contract) :Prop :=∀ (σ :Heap)(w h :Int)(wr :Bool)(sv lv fv :Value)(sp lo :List Nat)(fs :List Fld)(a k :Int),ShR σ sv lv sp lo→FlsR σ fv fs→sp.length ≤ 1048576→lo.length ≤ 1048576→fitsF fs →
 Ret c [fmV w h wr sv lv fv,.int .i64 a,.int .i64 k] σ fun v σ' =>FmRes (slOk w h wr sp lo fs a k) σ σ' v w h wr sp lo ((fs.drop a.toNat).take k.toNat)
abbrev impl_SliceFilm_ok :=SliceFilm_ok
theorem impl_SliceFilm_law {C :Ctab}{i1 i2 i3 i4 :FuncId}{c1 c2 c3 c4 :Contract}(h1 :Has C i1 c1 impl_ValidFilm_ok)(h2 :Has C i2 c2 impl_within_ok)(h3 :Has C i3 c3 impl_copySheet_ok)(h4 :Has C i4 c4 impl_copyFields_ok) :impl_SliceFilm_ok (bodyC C (impl_SliceFilm i1 i2 i3 i4) true) :=by
 intro σ w h wr sv lv fv sp lo fs a k ⟨r1,r2⟩ hf n1 n2 hfit
 obtain⟨cs,hrow,hcs⟩ :=hf.ex
 have k1 :=r1.ok
 have k2 :=r2.ok
 have k3 :=hf.ok
 have hn :=hfit.1
 have hV :=fun τ =>h1.ok (σ++τ) w h wr sv lv fv sp lo fs ⟨r1.ext _,r2.ext _⟩ (hf.ext _) n1 n2 hfit
 cases hI :isFilm w h wr sp lo fs
 ·rw [show slOk w h wr sp lo fs a k=false from by unfold slOk;rw [hI];rfl]
  refine ret_bd rfl rfl ?_
  repeat' (first | refine ff ?_ | ((first | refine sR ?_ ?_ | refine sC ?_ ?_) <;> (intro hb;(try rw [hb]);(try simp only [bb] at hb);(try (exfalso;first | omega | exact hb trivial)))) | (apply endS trivial;rotate_left;(· exact eva);(· rfl);try refine⟨?_,rfl⟩) | fail)
  (apply EvR.aCall h1.at_;(· exact eva);(· exact  hV _);(rintro _ _ ⟨rfl,rfl⟩;refine EvR.nrm ?_))
  rw [hI]
  repeat' (first | refine ff ?_ | ((first | refine sR ?_ ?_ | refine sC ?_ ?_) <;> (intro hb;(try rw [hb]);(try simp only [bb] at hb);(try (exfalso;first | omega | exact hb trivial)))) | (apply endS trivial;rotate_left;(· exact eva);(· rfl);try refine⟨?_,rfl⟩) | fail)
  apply endB trivial
  ·exact eva
  ·exact FmRes.no rfl
 cases hA :inR a 0 fs.length
 ·rw [show slOk w h wr sp lo fs a k=false from by unfold slOk;rw [hA];simp]
  refine ret_bd rfl rfl ?_
  repeat' (first | refine ff ?_ | ((first | refine sR ?_ ?_ | refine sC ?_ ?_) <;> (intro hb;(try rw [hb]);(try simp only [bb] at hb);(try (exfalso;first | omega | exact hb trivial)))) | (apply endS trivial;rotate_left;(· exact eva);(· rfl);try refine⟨?_,rfl⟩) | fail)
  (apply EvR.aCall h1.at_;(· exact eva);(· exact  hV _);(rintro _ _ ⟨rfl,rfl⟩;refine EvR.nrm ?_))
  rw [hI]
  repeat' (first | refine ff ?_ | (apply EvR.aCall h2.at_;(· exact eva);(· apply h2.ok <;> exact sid);(rintro _ _ ⟨rfl,rfl⟩;refine EvR.nrm ?_;try simp only [hA])) | ((first | refine sR ?_ ?_ | refine sC ?_ ?_) <;> (intro hb;(try rw [hb]);(try simp only [bb] at hb);(try (exfalso;first | omega | exact hb trivial)))) | (apply endS trivial;rotate_left;(· exact eva);(· rfl);try refine⟨?_,rfl⟩) | fail)
  apply endB trivial
  ·exact eva
  ·exact FmRes.no rfl
 have bA :=inR_true hA
 cases hK :inR k 0 (fs.length - a)
 ·rw [show slOk w h wr sp lo fs a k=false from by unfold slOk;rw [hK];simp]
  refine ret_bd rfl rfl ?_
  repeat' (first | refine ff ?_ | ((first | refine sR ?_ ?_ | refine sC ?_ ?_) <;> (intro hb;(try rw [hb]);(try simp only [bb] at hb);(try (exfalso;first | omega | exact hb trivial)))) | (apply endS trivial;rotate_left;(· exact eva);(· rfl);try refine⟨?_,rfl⟩) | fail)
  (apply EvR.aCall h1.at_;(· exact eva);(· exact  hV _);(rintro _ _ ⟨rfl,rfl⟩;refine EvR.nrm ?_))
  rw [hI]
  repeat' (first | refine ff ?_ | (apply EvR.aCall h2.at_;(· exact eva);(· apply h2.ok <;> exact sid);(rintro _ _ ⟨rfl,rfl⟩;refine EvR.nrm ?_;try simp only [hA,hK])) | ((first | refine sR ?_ ?_ | refine sC ?_ ?_) <;> (intro hb;(try rw [hb]);(try simp only [bb] at hb);(try (exfalso;first | omega | exact hb trivial)))) | (apply endS trivial;rotate_left;(· exact eva);(· rfl);try refine⟨?_,rfl⟩) | fail)
  apply endB trivial
  ·exact eva
  ·exact FmRes.no rfl
 have bK :=inR_true hK
 rw [show slOk w h wr sp lo fs a k=true from by unfold slOk;rw [hI,hA,hK];rfl]
 obtain⟨A,rfl⟩ :=Int.eq_ofNat_of_zero_le (show 0 ≤ a by omega)
 obtain⟨K,rfl⟩ :=Int.eq_ofNat_of_zero_le (show 0 ≤ k by omega)
 rw [Int.toNat_natCast,Int.toNat_natCast]
 have hgl :((fs.drop A).take K).length=K :=by rw [List.length_take,List.length_drop];omega
 refine ret_bd rfl rfl ?_
 repeat' (first | refine ff ?_ | ((first | refine sR ?_ ?_ | refine sC ?_ ?_) <;> (intro hb;(try rw [hb]);(try simp only [bb] at hb);(try (exfalso;first | omega | exact hb trivial)))) | (apply endS trivial;rotate_left;(· exact eva);(· rfl);try refine⟨?_,rfl⟩) | fail)
 (apply EvR.aCall h1.at_;(· exact eva);(· exact  hV _);(rintro _ _ ⟨rfl,rfl⟩;refine EvR.nrm ?_))
 rw [hI]
 repeat' (first | refine ff ?_ | (apply EvR.aCall h2.at_;(· exact eva);(· apply h2.ok <;> exact sid);(rintro _ _ ⟨rfl,rfl⟩;refine EvR.nrm ?_;try simp only [hA,hK])) | (apply EvR.aCall h3.at_;(· exact eva);(· apply h3.ok <;> exact sid);(rintro _ _ ⟨rfl,rfl⟩;refine EvR.nrm ?_;try simp only [hA,hK])) | ((first | refine sR ?_ ?_ | refine sC ?_ ?_) <;> (intro hb;(try rw [hb]);(try simp only [bb] at hb);(try (exfalso;first | omega | exact hb trivial)))) | (apply endS trivial;rotate_left;(· exact eva);(· rfl);try refine⟨?_,rfl⟩) | fail)
 refine EvR.sl3 (a :=A) (k :=K) hrow (by omega) rfl rfl (by show Value.int .i64 ((A :Int)+(K :Int))=_;rw [Int.natCast_add]) ?_
 intro fv' hrow'
 have hf' :FlsR σ fv' ((fs.drop A).take K) :=⟨_,by rw [hgl];exact hrow',(hcs.drop A).take K⟩
 apply EvR.aCall h4.at_;(· exact eva);(· exact h4.ok _ fv' _ (hf'.ext _) (fitsF_sub hfit A K));rintro _ _ ⟨τ,b,R,rfl,rfl,ho⟩
 simp only [List.length_append,List.length_cons,List.length_nil,Nat.zero_add,Nat.reduceAdd] at ho
 refine EvR.nrm ?_
 repeat' (first | refine ff ?_ | ((first | refine sR ?_ ?_ | refine sC ?_ ?_) <;> (intro hb;(try rw [hb]);(try simp only [bb] at hb);(try (exfalso;first | omega | exact hb trivial)))) | (apply endS trivial;rotate_left;(· exact eva);(· rfl);try refine⟨?_,rfl⟩) | fail)
 apply endB trivial
 ·exact eva
 ·refine⟨fun _ =>⟨_,σ.length+2,σ.length+3,b,R,rfl,by rw [hgl,show min K (fs.length - A)=K by omega],filmO_of (lo2 :=σ.length+4) (ho.keep fun o h0 _ =>?_) (hget _ _ 2) (hget _ _ 3) (by omega) (by omega) (by omega)⟩,fun h =>(by cases h)⟩
  obtain⟨j,rfl⟩ :∃ j,o=σ.length+(j+4) :=⟨o - σ.length - 4,by omega⟩
  rw [hget,List.append_assoc,hget]
  rfl
end Go.Abs
