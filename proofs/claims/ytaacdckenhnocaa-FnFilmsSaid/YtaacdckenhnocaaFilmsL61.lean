/- Laws of functions, some texts put together. Conditions: the laws of what they call. -/
import Derived.Test.YtaacdckenhnocaaFilmsL26
import Derived.Test.YtaacdckenhnocaaFilmsL12
import Derived.Test.YtaacdckenhnocaaFilmsWvH3
namespace Go.Abs
set_option linter.unusedSimpArgs false
set_option linter.unusedVariables false
set_option maxHeartbeats 8000000
set_option maxRecDepth 20000
section
variable {C :Ctab} {F :Frame} {τ l :Heap}
theorem Row.ld3 {v :Value}{m i :Nat}{cs :List Value}{a b c :Value}(hr :Row τ 3 v m cs)(hi :i < m)(hc :(cs.drop (i * 3)).take 3=[a,b,c]) :aLoadN τ 3 (elemP 3 v i)=some (fV a b c) :=by
 unfold Row at hr
 split at hr
 ·omega
 ·rename_i ad n' cap
  obtain⟨rfl,h2,obj,h3,h4⟩ :=hr
  obtain⟨g1,g2,g3,g4⟩ :=rowAt_spec h3
  have e1 :elemP 3 (.slice (some ad) n' cap) i = .pointer (some ⟨ad.block,ad.off+i * 3,some (ad.off+cap * 3)⟩) :=by unfold elemP;rfl
  have e2 :(obj.cells.drop (ad.off+i * 3)).take 3=[a,b,c] :=by
   rw [← hc,h4,List.drop_take,List.drop_drop,List.take_take]
   congr 1
   omega
  rw [e1]
  simp only [aLoadN,g1]
  have hp :ptrOk obj (some (ad.off+cap * 3))=true :=by simp [ptrOk,g2,g3];rfl
  rw [if_pos (by rw [hp,Bool.true_and,decide_eq_true_eq,g3];omega),e2]
 ·exact hr.elim
theorem EvR.ld3 {Q}{d n i m :Nat}{rest :List SOper}{x :Operand}{v a b c :Value}{cs :List Value}(hr :Row τ 3 v m cs)(hi :i < m)(hc :(cs.drop (i * 3)).take 3=[a,b,c])(h1 :eval F x=elemP 3 v i)
 (h :EvR C rest ((d,fV a b c)::F) (τ++l) Q) :EvR C (⟨some d,none,.loadN 3 x,n⟩::rest) F (τ++l) Q :=by
 refine EvR.opS (evL_ok ?_) h
 rw [evL,h1]
 exact Row.ld3 (hr.ext l) hi hc
end
def rowsOf (fs :List Fld) :List (List Nat) :=fs.flatMap fun f =>[f.e,f.x,f.y]
theorem rowsOf_cons (f :Fld)(fs :List Fld) :rowsOf (f::fs)=f.e::f.x::f.y::rowsOf fs :=rfl
theorem rowsOf_append (a b :List Fld) :rowsOf (a++b)=rowsOf a++rowsOf b :=by simp [rowsOf]
theorem rowsOf_length (fs :List Fld) :(rowsOf fs).length=fs.length * 3 :=by
 induction fs with
 | nil =>rfl
 | cons f fs ih =>rw [rowsOf_cons];simp only [List.length_cons,ih];omega
def FlsC (σ :Heap) :List Fld→List Value→Prop
 | [],[] =>True
 | f::fs,a::b::c::cs =>FlR σ a b c f.e f.x f.y∧FlsC σ fs cs
 | _,_ =>False
theorem FlsC.ext {σ :Heap}(τ :Heap) :∀ {fs :List Fld}{cs :List Value},FlsC σ fs cs→FlsC (σ++τ) fs cs
 | [],[],h =>h
 | _::_,_::_::_::_,h =>⟨h.1.ext τ,FlsC.ext τ h.2⟩
 | [],_::_,h =>False.elim h
 | _::_,[],h =>False.elim h
 | _::_,[_],h =>False.elim h
 | _::_,[_,_],h =>False.elim h
theorem FlsC.get {σ :Heap} :∀ {fs :List Fld}{cs :List Value}{i :Nat}{f :Fld},FlsC σ fs cs→fs[i]? = some f → ∃ a b c,(cs.drop (i * 3)).take 3=[a,b,c]∧FlR σ a b c f.e f.x f.y
 | g::fs,a::b::c::cs,0,f,h,hf =>by simp at hf;subst hf;exact⟨a,b,c,rfl,h.1⟩
 | g::fs,a::b::c::cs,i+1,f,h,hf =>by
  obtain⟨a',b',c',h1,h2⟩ :=FlsC.get (i :=i) h.2 (by simpa using hf)
  refine⟨a',b',c',?_,h2⟩
  rw [← h1,show (i+1) * 3=i * 3+3 by omega]
  rfl
 | [],[],_,_,_,hf =>by simp at hf
 | [],_::_,_,_,h,_ =>False.elim h
 | _::_,[],_,_,h,_ =>False.elim h
 | _::_,[_],_,_,h,_ =>False.elim h
 | _::_,[_,_],_,_,h,_ =>False.elim h
structure FlsR (σ :Heap)(v :Value)(fs :List Fld) :Prop where
 ex :∃ cs,Row σ 3 v fs.length cs∧FlsC σ fs cs
theorem FlsR.ext {σ :Heap}{v :Value}{fs :List Fld}(h :FlsR σ v fs)(τ :Heap) :FlsR (σ++τ) v fs :=by
 obtain⟨cs,h1,h2⟩ :=h.ex
 exact⟨cs,h1.ext τ,h2.ext τ⟩
theorem FlsR.ok {σ :Heap}{v :Value}{fs :List Fld}(h :FlsR σ v fs) :cellOk v=true :=by
 obtain⟨cs,h1,h2⟩ :=h.ex
 exact h1.ok
def fitF (f :Fld) :Prop :=f.e.length ≤ 1048576∧f.x.length ≤ 1048576∧f.y.length ≤ 1048576
end Go.Abs
namespace Go.Abs
set_option linter.unusedSimpArgs false
set_option linter.unusedVariables false
set_option maxHeartbeats 8000000
set_option maxRecDepth 20000
def impl_copyFields_r0 :List SOper :=[
 ⟨some 2,none,.mov (.const (.slice none 0 0)),0⟩]
def impl_copyFields_r1 :List SOper :=[
 ⟨some 6,none,.buildSlice 3 0 [] [],0⟩,
 ⟨some 3,none,.mov (.tmp 6),1⟩]
def impl_copyFields_r2 :List SOper :=[
 ⟨some 7,none,.mov (.tmp 0),0⟩,
 ⟨some 8,none,.len false (.tmp 7),1⟩,
 ⟨some 9,none,.mov (.const (.int .i64 0)),0⟩]
def impl_copyFields_r3 :List SOper :=[
 ⟨some 10,none,.bin .lss .other (.tmp 9) (.tmp 8),0⟩]
def impl_copyFields_r4 :List SOper :=[
 ⟨some 11,none,.indexAddrS 3 (.tmp 7) (.tmp 9),0⟩,
 ⟨some 12,none,.loadN 3 (.tmp 11),1⟩,
 ⟨some 5,none,.alloc [(.slice none 0 0),(.slice none 0 0),(.slice none 0 0)],0⟩,
 ⟨none,none,.store 3 (.tmp 5) (.tmp 12),7⟩]
def impl_copyFields_r5 (i_impl_copyField :FuncId) :List SOper :=[
 ⟨some 13,none,.mov (.tmp 3),0⟩,
 ⟨some 14,none,.loadN 3 (.tmp 5),0⟩,
 ⟨some 15,none,.call (.func i_impl_copyField) [(.tmp 14)],2⟩,
 ⟨some 16,none,.buildSlice 3 1 [(.slice none 0 0),(.slice none 0 0),(.slice none 0 0)] [(0,3,(.tmp 15))],6⟩,
 ⟨some 17,none,.append 3 72 (.tmp 13) (.tmp 16),15⟩,
 ⟨some 3,none,.mov (.tmp 17),31⟩]
def impl_copyFields_r6 :List SOper :=[
 ⟨some 18,none,.bin .add .other (.tmp 9) (.const (.int .i64 1)),0⟩,
 ⟨some 9,none,.mov (.tmp 18),1⟩]
def impl_copyFields_l7 (i_impl_copyField :FuncId) :SCode :=(.kp [3,7,8,9] (.seq (.region impl_copyFields_r3 false) (.kp [3,7,8,9,10] (.seq (.cond (.tmp 10) .skip (.exit 0)) (.kp [3,7,8,9] (.seq (.block 1 (.seq (.region impl_copyFields_r4 false) (.kp [3,5,7,8,9] (.region (impl_copyFields_r5 i_impl_copyField) false)))) (.kp [3,7,8,9] (.region impl_copyFields_r6 false))))))))
def impl_copyFields_r8 :List SOper :=[
 ⟨some 19,none,.mov (.tmp 3),0⟩,
 ⟨some 2,none,.mov (.tmp 19),1⟩]
def impl_copyFields (i_impl_copyField :FuncId) :SFunc :=⟨20,[.tmp 2],(.kp [0] (.seq (.region impl_copyFields_r0 false) (.kp [0] (.seq (.region impl_copyFields_r1 false) (.kp [0,3] (.seq (.seq (.region impl_copyFields_r2 false) (.kp [3,7,8,9] (.block 0 (.loop (impl_copyFields_l7 i_impl_copyField))))) (.kp [3] (.seq (.region impl_copyFields_r8 false) .ret))))))))⟩
abbrev Rws :=List (Nat × List Nat)
def slOf (p :Nat × List Nat) :Value :=slV p.1 p.2.length
structure RInv (H :Heap)(lo :Nat)(R :Rws) :Prop where
 own :∀ p ∈ R,H[p.1]? = some (rowO p.2)
 low :∀ p ∈ R,lo ≤ p.1
 nod :(R.map Prod.fst).Nodup
theorem RInv.nil (H :Heap)(lo :Nat) :RInv H lo [] :=⟨fun p hp =>by simp at hp,fun p hp =>by simp at hp,by simp⟩
theorem RInv.lt {H :Heap}{lo :Nat}{R :Rws}(h :RInv H lo R){p :Nat × List Nat}(hp :p ∈ R) :p.1 < H.length :=(List.getElem?_eq_some_iff.1 (h.own p hp)).1
theorem RInv.ext {H :Heap}{lo :Nat}{R :Rws}(h :RInv H lo R)(t :Heap) :RInv (H++t) lo R :=
 ⟨fun p hp =>by rw [List.getElem?_append_left (h.lt hp)];exact h.own p hp,h.low,h.nod⟩
theorem RInv.less {H :Heap}{lo lo' :Nat}{R :Rws}(h :RInv H lo R)(hl :lo' ≤ lo) :RInv H lo' R :=⟨h.own,fun p hp =>Nat.le_trans hl (h.low p hp),h.nod⟩
theorem RInv.keep {H H' :Heap}{lo :Nat}{R :Rws}(h :RInv H lo R)(hk :∀ o,lo ≤ o→o < H.length→H'[o]? = H[o]?) :RInv H' lo R :=
 ⟨fun p hp =>by rw [hk _ (h.low p hp) (h.lt hp)];exact h.own p hp,h.low,h.nod⟩
theorem RInv.snoc {H :Heap}{lo :Nat}{R :Rws}(h :RInv H lo R)(hl :lo ≤ H.length)(xs :List Nat)(t :Heap) :RInv (H++rowO xs::t) lo (R++[(H.length,xs)]) :=by
 have h' :=h.ext (rowO xs::t)
 refine⟨fun p hp =>?_,fun p hp =>?_,?_⟩
 ·rcases List.mem_append.1 hp with hp | hp
  ·exact h'.own p hp
  ·simp only [List.mem_singleton] at hp;subst hp;simp
 ·rcases List.mem_append.1 hp with hp | hp
  ·exact h'.low p hp
  ·simp only [List.mem_singleton] at hp;subst hp;exact hl
 ·rw [List.map_append,List.map_cons,List.map_nil,List.nodup_append]
  refine⟨h.nod,by simp,fun a ha b hb =>?_⟩
  simp only [List.mem_singleton] at hb
  obtain⟨p,hp,rfl⟩ :=List.mem_map.1 ha
  have :=h.lt hp
  omega
theorem RInv.snoc3 {H :Heap}{lo :Nat}{R :Rws}(h :RInv H lo R)(hl :lo ≤ H.length)(f :Fld)(t :Heap) :
 RInv (H++(rowO f.e::rowO f.x::rowO f.y::t)) lo (R++[(H.length,f.e),(H.length+1,f.x),(H.length+2,f.y)]) :=by
 have h1 :=h.snoc hl f.e []
 have h2 :=h1.snoc (by simp;omega) f.x []
 have h3 :=h2.snoc (by simp;omega) f.y t
 simpa [List.append_assoc] using h3
theorem flsC_of {H :Heap} :∀ {R :Rws}{fs :List Fld},(∀ p ∈ R,H[p.1]? = some (rowO p.2))→R.map Prod.snd=rowsOf fs→FlsC H fs (R.map slOf)
 | [],[],_,_ =>trivial
 | p::q::r::R,f::fs,h,hc =>by
  rw [rowsOf_cons] at hc
  simp only [List.map_cons,List.cons.injEq] at hc
  obtain⟨c1,c2,c3,c4⟩ :=hc
  have one :∀ (p :Nat × List Nat) (xs :List Nat),H[p.1]? = some (rowO p.2)→p.2=xs→Row H 1 (slOf p) xs.length (f32s xs) :=by
   rintro⟨b,ys⟩ xs hb rfl
   exact Row.whole hb (by omega) (by rw [f32s_length];omega)
  exact⟨⟨one _ _ (h p (by simp)) c1,one _ _ (h q (by simp)) c2,one _ _ (h r (by simp)) c3⟩,flsC_of (fun s hs =>h s (by simp [hs])) c4⟩
 | _::_,[],_,hc =>by simp [rowsOf] at hc
 | [],f::fs,_,hc =>by simp [rowsOf] at hc
 | [_],f::fs,_,hc =>by simp [rowsOf] at hc
 | [_,_],f::fs,_,hc =>by simp [rowsOf] at hc
structure FlsO (H :Heap)(lo b :Nat)(R :Rws)(fs :List Fld) :Prop where
 row :H[b]? = some ⟨R.map slOf,3,true⟩
 inv :RInv H lo R
 con :R.map Prod.snd=rowsOf fs
 bl :lo ≤ b
 bn :b ∉ R.map Prod.fst
theorem FlsO.len {H :Heap}{lo b :Nat}{R :Rws}{fs :List Fld}(h :FlsO H lo b R fs) :R.length=fs.length * 3 :=by
 rw [← rowsOf_length,← h.con,List.length_map]
theorem FlsO.read {H :Heap}{lo b :Nat}{R :Rws}{fs :List Fld}(h :FlsO H lo b R fs) :FlsR H (slV b fs.length) fs :=
 ⟨_,Row.whole h.row (by omega) (by rw [List.length_map];exact h.len),flsC_of h.inv.own h.con⟩
theorem FlsO.ext {H :Heap}{lo b :Nat}{R :Rws}{fs :List Fld}(h :FlsO H lo b R fs)(t :Heap) :FlsO (H++t) lo b R fs :=
 ⟨by rw [List.getElem?_append_left (List.getElem?_eq_some_iff.1 h.row).1];exact h.row,h.inv.ext t,h.con,h.bl,h.bn⟩
theorem rowsOf_take {fs :List Fld}{i :Nat}{f :Fld}(h :fs[i]? = some f) :rowsOf (fs.take (i+1))=rowsOf (fs.take i)++[f.e,f.x,f.y] :=by
 rw [List.take_add_one,h,rowsOf_append];rfl
def fitsF (fs :List Fld) :Prop :=fs.length ≤ 1048576 ∧ ∀ f ∈ fs,fitF f
def impl_copyFields_ok (c :Contract) :Prop :=∀ (σ :Heap)(v :Value)(fs :List Fld),FlsR σ v fs→fitsF fs →
 Ret c [v] σ fun v' σ' =>∃ τ b R,σ'=σ++τ∧v'=slV b fs.length∧FlsO σ' σ.length b R fs
theorem impl_copyFields_law {C :Ctab}{i1 :FuncId}{c1 :Contract}(h1 :Has C i1 c1 impl_copyField_ok) :impl_copyFields_ok (bodyC C (impl_copyFields i1) true) :=by
 intro σ v fs hr ⟨hn,hfit⟩
 obtain⟨cs,hrow,hcs⟩ :=hr.ex
 have k1 :=hrow.ok
 refine ret_bd rfl rfl ?_
 repeat' (first | refine ff ?_ | ((first | refine sR ?_ ?_ | refine sC ?_ ?_) <;> (intro hb;(try rw [hb]);(try simp only [bb] at hb);(try (exfalso;first | omega | exact hb trivial)))) | (apply endS trivial;rotate_left;(· exact eva);(· rfl);try refine⟨?_,rfl⟩) | fail)
 refine Ev.whlH (S :=Nat × Rws × Heap) (fun st =>fs.length - st.1) (fun st =>[(3,.slice (some ⟨σ.length+0,0,none⟩) st.1 st.1),(9,.int .i64 st.1)]) (fun st =>σ++(⟨st.2.1.map slOf,3,true⟩::st.2.2))
  (fun st =>st.1 ≤ fs.length∧st.2.1.map Prod.snd=rowsOf (fs.take st.1) ∧ ∀ X,RInv (σ++(X::st.2.2)) (σ.length+1) st.2.1) (0,[],[]) (by exact tF) rfl ⟨Nat.zero_le _,rfl,fun X =>RInv.nil _ _⟩ ?_
 rintro⟨i,R,rub⟩ F hF ⟨hi,hcon,hinv⟩
 dsimp only at hF hi hcon hinv ⊢
 (simp only [List.cons_append,List.nil_append,↓fget_cons,fkeep_cons,fkeep_nil,Nat.reduceEqDiff,reduceIte] at hF;subst hF)
 have hRl :R.length=i * 3 :=by
  have :=congrArg List.length hcon
  rw [List.length_map,rowsOf_length,List.length_take] at this
  omega
 by_cases hlt :i < fs.length
 ·obtain⟨f,hf⟩ :∃ f,fs[i]? = some f :=⟨_,List.getElem?_eq_getElem hlt⟩
  obtain⟨a,b,c,hc,r1,r2,r3⟩ :=hcs.get hf
  obtain⟨f1,f2,f3⟩ :=hfit f (List.mem_of_getElem? hf)
  have hlen :(R.map slOf).length=i * 3 :=by rw [List.length_map,hRl]
  repeat' (first | refine ff ?_ | ((first | refine sR ?_ ?_ | refine sC ?_ ?_) <;> (intro hb;(try rw [hb]);(try simp only [bb] at hb);(try (exfalso;first | omega | exact hb trivial)))) | (apply endS trivial;rotate_left;(· exact eva);(· rfl);try refine⟨?_,rfl⟩) | fail)
  refine EvR.ld3 hrow hlt hc rfl ?_
  repeat' (first | refine ff ?_ | ((first | refine sR ?_ ?_ | refine sC ?_ ?_) <;> (intro hb;(try rw [hb]);(try simp only [bb] at hb);(try (exfalso;first | omega | exact hb trivial)))) | (apply endS trivial;rotate_left;(· exact eva);(· rfl);try refine⟨?_,rfl⟩) | fail)
  (apply EvR.aCall h1.at_;(· exact eva);(· exact  h1.ok _ a b c f.e f.x f.y ⟨r1.ext _,r2.ext _,r3.ext _⟩ f1 f2 f3);(rintro _ _ ⟨rfl,rfl⟩;refine EvR.nrm ?_))
  repeat' (first | refine ff ?_ | ((first | refine sR ?_ ?_ | refine sC ?_ ?_) <;> (intro hb;(try rw [hb]);(try simp only [bb] at hb);(try (exfalso;first | omega | exact hb trivial)))) | (apply endS trivial;rotate_left;(· exact eva);(· rfl);try refine⟨?_,rfl⟩) | fail)
  refine⟨(i+1,R++[(σ.length+(rub.length+2),f.e),(σ.length+(rub.length+3),f.x),(σ.length+(rub.length+4),f.y)],rub++[⟨[a,b,c],0,true⟩,rowO f.e,rowO f.x,rowO f.y,⟨[slV (σ.length+(rub.length+2)) f.e.length,slV (σ.length+(rub.length+3)) f.x.length,slV (σ.length+(rub.length+4)) f.y.length],3,true⟩]),by dsimp only;omega,by exact tF,?_,by dsimp only;omega,?_,fun X =>?_⟩
  ·dsimp only;rw [List.map_append] <;> rfl
  ·dsimp only;rw [List.map_append,hcon,rowsOf_take hf] <;> rfl
  ·have :=((hinv X).ext [⟨[a,b,c],0,true⟩]).snoc3 (by simp <;> omega) f [⟨[slV (σ.length+(rub.length+2)) f.e.length,slV (σ.length+(rub.length+3)) f.x.length,slV (σ.length+(rub.length+4)) f.y.length],3,true⟩]
   simpa [List.append_assoc,Nat.add_assoc] using this
 ·obtain rfl :i=fs.length :=by omega
  rw [List.take_length] at hcon
  repeat' (first | refine ff ?_ | ((first | refine sR ?_ ?_ | refine sC ?_ ?_) <;> (intro hb;(try rw [hb]);(try simp only [bb] at hb);(try (exfalso;first | omega | exact hb trivial)))) | (apply endS trivial;rotate_left;(· exact eva);(· rfl);try refine⟨?_,rfl⟩) | fail)
  apply endB trivial
  ·exact eva
  ·refine⟨_,σ.length+0,R,rfl,rfl,hget _ _ 0,(hinv _).less (by omega),hcon,by omega,fun hc =>?_⟩
   obtain⟨p,hp,he⟩ :=List.mem_map.1 hc
   have :=(hinv ⟨[],0,true⟩).low p hp
   omega
end Go.Abs
