/- Laws of functions, some texts put together. Conditions: the laws of what they call. -/
import Derived.Test.YtaacdckenhnocaaFilmsL68
import Derived.Test.YtaacdckenhnocaaFilmsL27
import Derived.Test.YtaacdckenhnocaaFilmsL08
import Derived.Test.YtaacdckenhnocaaFilmsL38
namespace Go.Abs
set_option linter.unusedSimpArgs false
set_option linter.unusedVariables false
def sumF :List Fld→Nat
 | [] =>0
 | f::fs =>f.e.length+f.x.length+f.y.length+sumF fs
theorem noFlsR (σ :Heap) :FlsR σ (.slice none 0 0) [] :=⟨_,⟨rfl,rfl,rfl⟩,trivial⟩
def Pre (A S :Heap) :Prop :=∃ X,S=A++X
theorem Pre.refl (A :Heap) :Pre A A :=⟨[],by simp⟩
theorem Pre.app {A S :Heap}(h :Pre A S)(t :Heap) :Pre A (S++t) :=by obtain⟨X,rfl⟩ :=h;exact⟨X++t,by rw [List.append_assoc]⟩
theorem Pre.trans {A B S :Heap}(h :Pre A B)(h' :Pre B S) :Pre A S :=by obtain⟨X,rfl⟩ :=h;obtain⟨Y,rfl⟩ :=h';exact⟨X++Y,by rw [List.append_assoc]⟩
theorem Pre.len {A S :Heap}(h :Pre A S) :A.length ≤ S.length :=by obtain⟨X,rfl⟩ :=h;simp
theorem Pre.get {A S :Heap}(h :Pre A S){i :Nat}{x :AObj}(hx :A[i]? = some x) :S[i]? = some x :=by
 obtain⟨X,rfl⟩ :=h
 rw [List.getElem?_append_left (List.getElem?_eq_some_iff.1 hx).1];exact hx
theorem PtAt.pre {A S :Heap}(hp :Pre A S){b o :Nat}{cs :List Value}(h :PtAt A b o cs) :PtAt S b o cs :=by obtain⟨X,rfl⟩ :=hp;exact h.ext X
theorem ShR.pre {A S :Heap}(hp :Pre A S){sv lv :Value}{sp lo :List Nat}(h :ShR A sv lv sp lo) :ShR S sv lv sp lo :=by obtain⟨X,rfl⟩ :=hp;exact⟨h.s.ext X,h.l.ext X⟩
theorem FlsR.pre {A S :Heap}(hp :Pre A S){v :Value}{fs :List Fld}(h :FlsR A v fs) :FlsR S v fs :=by obtain⟨X,rfl⟩ :=hp;exact h.ext X
theorem FilmO.pre {A S :Heap}(hp :Pre A S){lo s l b :Nat}{R :Rws}{sp ls :List Nat}{fs :List Fld}(h :FilmO A lo s l b R sp ls fs) :FilmO S lo s l b R sp ls fs :=by obtain⟨X,rfl⟩ :=hp;exact h.ext X
theorem FilmO.fls {H :Heap}{lo s l b :Nat}{R :Rws}{sp ls :List Nat}{fs :List Fld}(h :FilmO H lo s l b R sp ls fs) :FlsR H (slV b fs.length) fs :=h.flds.read
theorem PtAt.same {H H' :Heap}{b o :Nat}{cs :List Value}(h :PtAt H b o cs)(he :H'[b]? = H[b]?) :PtAt H' b o cs :=by
 obtain⟨cells,r,h1,h2⟩ :=h
 exact⟨cells,r,by rw [he];exact h1,h2⟩
theorem Pre.mark {A S :Heap}{R :Rws}(h :Pre A S)(k :Int)(hR :∀ p ∈ R,A.length ≤ p.1) :Pre A (markH S k R) :=by
 have hl :=markH_len R S k
 refine⟨(markH S k R).drop A.length,?_⟩
 apply List.ext_getElem?
 intro i
 rcases Nat.lt_or_ge i A.length with hi | hi
 ·rw [List.getElem?_append_left hi,markH_out]
  ·obtain⟨X,rfl⟩ :=h
   rw [List.getElem?_append_left hi]
  ·intro hc
   obtain⟨p,hp,rfl⟩ :=List.mem_map.1 hc
   have :=hR p hp
   omega
 ·rw [List.getElem?_append_right hi,List.getElem?_drop]
  congr 1
  omega
theorem FilmO.lows {H :Heap}{lo s l b :Nat}{R :Rws}{sp ls :List Nat}{fs :List Fld}(h :FilmO H lo s l b R sp ls fs) :∀ p ∈ (s,sp)::(l,ls)::R,lo ≤ p.1 :=h.inv.low
section
variable {C :Ctab} {F :Frame}
theorem EvR.base {Q}{ops :List SOper}{H :Heap}(h :∀ S,S=H→EvR C ops F (S++[]) Q) :EvR C ops F H Q :=by
 have :=h H rfl
 rwa [List.append_nil] at this
end
theorem EvR.base2 {C :Ctab}{F :Frame} {Q}{ops :List SOper}{A T :Heap}(h :∀ B S,B=A→S=A++T→Pre B S→EvR C ops F (S++[]) Q) :EvR C ops F (A++T) Q :=by
 have :=h A _ rfl rfl ⟨T,rfl⟩
 rwa [List.append_nil] at this
end Go.Abs
namespace Go.Abs
set_option linter.unusedSimpArgs false
set_option linter.unusedVariables false
set_option maxHeartbeats 8000000
set_option maxRecDepth 20000
theorem FlsO.more {H H' :Heap}{lo lo2 b :Nat}{R R2 :Rws}{fs fs2 :List Fld}(h :FlsO H lo b R fs)(h2 :RInv H lo2 R2)(hR :∀ p ∈ R,p.1 < lo2)(hb :b ∉ R2.map Prod.fst)(hlo :lo ≤ lo2)(con2 :R2.map Prod.snd=rowsOf fs2)
 (hrow :H'[b]? = some ⟨(R++R2).map slOf,3,true⟩) (hk :∀ o,o ≠ b→o < H.length→H'[o]? = H[o]?) :FlsO H' lo b (R++R2) (fs++fs2) :=by
 refine⟨hrow,⟨fun p hp =>?_,fun p hp =>?_,?_⟩,by rw [List.map_append,h.con,con2,rowsOf_append],h.bl,fun hc =>?_⟩
 ·rcases List.mem_append.1 hp with hp | hp
  ·rw [hk p.1 (fun hc =>h.bn (by rw [← hc];exact List.mem_map_of_mem hp)) (h.inv.lt hp)];exact h.inv.own p hp
  ·rw [hk p.1 (fun hc =>hb (by rw [← hc];exact List.mem_map_of_mem hp)) (h2.lt hp)];exact h2.own p hp
 ·rcases List.mem_append.1 hp with hp | hp
  ·exact h.inv.low p hp
  ·exact Nat.le_trans hlo (h2.low p hp)
 ·rw [List.map_append,List.nodup_append]
  refine⟨h.inv.nod,h2.nod,fun x hx y hy hxy =>?_⟩
  obtain⟨p,hp,rfl⟩ :=List.mem_map.1 hx
  obtain⟨q,hq,rfl⟩ :=List.mem_map.1 hy
  have :=hR p hp
  have :=h2.low q hq
  omega
 ·rw [List.map_append,List.mem_append] at hc
  rcases hc with hc | hc
  ·exact h.bn hc
  ·exact hb hc
theorem isFilm_len {w h :Int}{wr :Bool}{sp lo :List Nat}{fs :List Fld}(h :isFilm w h wr sp lo fs=true) :fs.length ≤ 16 :=by
 unfold isFilm at h
 simp only [Bool.and_eq_true,decide_eq_true_eq] at h
 exact h.1.2
theorem isFilm_sheet {w h :Int}{wr :Bool}{sp lo :List Nat}{fs :List Fld}(h' :isFilm w h wr sp lo fs=true) :isSheet w h sp lo=true :=by
 unfold isFilm at h'
 simp only [Bool.and_eq_true] at h'
 exact h'.1.1
theorem FilmO.more {H H2 H' :Heap}{lo lo2 s l b :Nat}{R R2 :Rws}{sp ls :List Nat}{fs fs2 :List Fld}(h :FilmO H lo s l b R sp ls fs)(h2 :RInv H2 lo2 R2)(hl :H.length ≤ lo2)(con2 :R2.map Prod.snd=rowsOf fs2)
 (hrow :H'[b]? = some ⟨(R++R2).map slOf,3,true⟩) (hk1 :∀ o,lo ≤ o→o < H.length→o ≠ b→H'[o]? = H[o]?) (hk2 :∀ o,lo2 ≤ o→o < H2.length→H'[o]? = H2[o]?) :FilmO H' lo s l b (R++R2) sp ls (fs++fs2) :=by
 have hbl :=(List.getElem?_eq_some_iff.1 h.row).1
 have hb0 :=h.bl
 have hb2 :b ∉ R2.map Prod.fst :=fun hc =>by
  obtain⟨p,hp,rfl⟩ :=List.mem_map.1 hc
  have :=h2.low p hp
  omega
 have hin :∀ p ∈ (s,sp)::(l,ls)::R,p.1 ∈ s::l::R.map Prod.fst :=fun p hp =>by
  have :=List.mem_map_of_mem (f :=Prod.fst) hp
  simpa using this
 refine⟨hrow,⟨fun p hp =>?_,fun p hp =>?_,?_⟩,by rw [List.map_append,h.con,con2,rowsOf_append],h.bl,fun hc =>?_⟩
 ·rw [← List.cons_append,← List.cons_append] at hp
  rcases List.mem_append.1 hp with hp | hp
  ·rw [hk1 p.1 (h.inv.low p hp) (h.inv.lt hp) (fun hc =>h.bn (by rw [← hc];exact hin p hp))];exact h.inv.own p hp
  ·rw [hk2 p.1 (h2.low p hp) (h2.lt hp)];exact h2.own p hp
 ·rw [← List.cons_append,← List.cons_append] at hp
  rcases List.mem_append.1 hp with hp | hp
  ·exact h.inv.low p hp
  ·have :=h2.low p hp;omega
 ·rw [← List.cons_append,← List.cons_append,List.map_append,List.nodup_append]
  refine⟨h.inv.nod,h2.nod,fun x hx y hy hxy =>?_⟩
  obtain⟨p,hp,rfl⟩ :=List.mem_map.1 hx
  obtain⟨q,hq,rfl⟩ :=List.mem_map.1 hy
  have :=h.inv.lt hp
  have :=h2.low q hq
  omega
 ·rw [List.map_append,← List.cons_append,← List.cons_append,List.mem_append] at hc
  rcases hc with hc | hc
  ·exact h.bn hc
  ·exact hb2 hc
end Go.Abs
namespace Go.Abs
theorem FlR.pre {A S :Heap}(hp :Pre A S){ev xv yv :Value}{e x y :List Nat}(h :FlR A ev xv yv e x y) :FlR S ev xv yv e x y :=by obtain⟨X,rfl⟩ :=hp;exact h.ext X
theorem RInv.pre {A S :Heap}(hp :Pre A S){lo :Nat}{R :Rws}(h :RInv A lo R) :RInv S lo R :=by obtain⟨X,rfl⟩ :=hp;exact h.ext X
end Go.Abs
namespace Go.Abs
set_option linter.unusedSimpArgs false
set_option linter.unusedVariables false
set_option maxHeartbeats 8000000
set_option maxRecDepth 20000
section
variable {C :Ctab} {F :Frame} {τ l :Heap}
theorem EvR.heap {Q}{ops :List SOper}{H H' :Heap}(h :EvR C ops F H' Q)(e :H=H') :EvR C ops F H Q :=by subst e;exact h
end
def in32 (xs :List Nat) :Prop :=∀ x ∈ xs,x < 4294967296
end Go.Abs
namespace Go.Abs
set_option linter.unusedSimpArgs false
set_option linter.unusedVariables false
set_option maxHeartbeats 8000000
set_option maxRecDepth 20000
def impl_withFrame_r0 :List SOper :=[
 ⟨some 6,none,.mov (.const (.slice none 0 0)),0⟩]
def impl_withFrame_r1 (i_impl_changeBytes :FuncId) :List SOper :=[
 ⟨some 10,none,.mov (.tmp 1),0⟩,
 ⟨some 11,none,.mov (.tmp 2),0⟩,
 ⟨some 12,none,.call (.func i_impl_changeBytes) [(.tmp 10),(.tmp 11)],3⟩,
 ⟨some 7,none,.mov (.tmp 12),7⟩]
def impl_withFrame_r2 (i_impl_lowBytes :FuncId) :List SOper :=[
 ⟨some 13,none,.mov (.tmp 0),0⟩,
 ⟨some 14,none,.mov (.tmp 7),0⟩,
 ⟨some 15,none,.len true (.tmp 14),2⟩,
 ⟨some 16,none,.call (.func i_impl_lowBytes) [(.tmp 15),(.const (.int .i64 2))],6⟩,
 ⟨some 17,none,.append 1 1 (.tmp 13) (.tmp 16),15⟩,
 ⟨some 18,none,.mov (.tmp 7),0⟩,
 ⟨some 19,none,.append 1 1 (.tmp 17) (.tmp 18),63⟩,
 ⟨some 0,none,.mov (.tmp 19),127⟩]
def impl_withFrame_r3 (i_impl_CheckOf :FuncId) :List SOper :=[
 ⟨some 21,none,.mov (.tmp 0),0⟩,
 ⟨some 22,none,.conv .toStr (.tmp 21),1⟩,
 ⟨some 23,none,.call (.func i_impl_CheckOf) [(.const (.int .i64 0)),(.tmp 22)],3⟩,
 ⟨some 20,none,.mov (.tmp 23),7⟩,
 ⟨some 24,none,.extract (.tmp 20) 0,15⟩,
 ⟨some 25,none,.extract (.tmp 20) 1,15⟩,
 ⟨some 8,none,.mov (.tmp 24),31⟩,
 ⟨some 9,none,.mov (.tmp 25),127⟩]
def impl_withFrame_r4 (i_impl_lowBytes :FuncId) :List SOper :=[
 ⟨some 26,none,.mov (.tmp 0),0⟩,
 ⟨some 27,none,.mov (.tmp 8),0⟩,
 ⟨some 28,none,.call (.func i_impl_lowBytes) [(.tmp 27),(.const (.int .i64 2))],2⟩,
 ⟨some 29,none,.append 1 1 (.tmp 26) (.tmp 28),7⟩,
 ⟨some 6,none,.mov (.tmp 29),15⟩]
def impl_withFrame (i_impl_changeBytes i_impl_lowBytes i_impl_CheckOf :FuncId) :SFunc :=⟨30,[.tmp 6],(.kp [0,1,2] (.seq (.region impl_withFrame_r0 false) (.kp [0,1,2] (.seq (.region (impl_withFrame_r1 i_impl_changeBytes) false) (.kp [0,7] (.seq (.region (impl_withFrame_r2 i_impl_lowBytes) false) (.kp [0] (.seq (.region (impl_withFrame_r3 i_impl_CheckOf) false) (.kp [0,8] (.seq (.region (impl_withFrame_r4 i_impl_lowBytes) false) .ret))))))))))⟩
theorem chg_len (x :Nat→Nat)(n :Nat) :∀ f a,(chg x n f a).length ≤ 6 * (n - a)
 | 0,a =>by simp [chg]
 | f+1,a =>by
  by_cases h :a < n
  ·obtain⟨Z,hZ⟩ :∃ Z,runZ (isZ x) n 255 a=Z :=⟨_,rfl⟩
   obtain⟨O,hO⟩ :∃ O,runZ (notZ x) n 255 (a+Z)=O :=⟨_,rfl⟩
   have hp :=run_progress x h
   have b1 :=runZ_le (isZ x) n 255 a
   have b2 :=runZ_le (notZ x) n 255 (a+Z)
   rw [hZ,hO] at hp
   rw [hZ] at b1
   rw [hO] at b2
   rw [chg_step h hZ hO]
   have :=chg_len x n f (a+Z+O)
   simp only [List.length_append,List.length_cons,words_length]
   omega
  ·rw [chg_end h];simp
def chB (last list :List Nat) :List UInt8 :=chg (xb last list) last.length (last.length+1) 0
theorem chB_len (last list :List Nat) :(chB last list).length ≤ 6 * last.length :=chg_len _ _ _ _
def frA (last list :List Nat) :List UInt8 :=lowB (chB last list).length 2++chB last list
def frameB (out :List UInt8)(last list :List Nat) :List UInt8 :=frA last list++lowB (ckS 0 (out++frA last list)) 2
theorem frA_len (last list :List Nat) :(frA last list).length=(chB last list).length+2 :=by unfold frA;rw [List.length_append,lowB_length];omega
theorem frameB_len (out :List UInt8)(last list :List Nat) :(frameB out last list).length ≤ 6 * last.length+4 :=by
 unfold frameB
 have :=chB_len last list
 rw [List.length_append,lowB_length,frA_len]
 omega
theorem EvR.apW {C :Ctab}{F :Frame}{σ l :Heap} {Q}{d n b m k :Nat}{rest :List SOper}{x y :Operand}{cells ys :List Value}{yv :Value}(h2 :σ[b]? = some ⟨cells,1,true⟩)(h3 :cells.length=m)(h1 :eval F x = .slice (some ⟨b,0,none⟩) m m)(h4 :eval F y=yv)
 (hx :appCells (σ++l) 1 yv=some (ys,k)) (hm :m+k ≤ 1048576) (ha :ys.all cellOk=true) (h :EvR C rest ((d,.slice (some ⟨b,0,none⟩) (m+k) (m+k))::F) (σ.set b ⟨cells++ys,1,true⟩++l) Q) :
 EvR C (⟨some d,none,.append 1 1 x y,n⟩::rest) F (σ++l) Q :=by
 have hlt :=(List.getElem?_eq_some_iff.1 h2).1
 have hrow :rowAt (σ++l) 1 ⟨b,0,none⟩ m=some ⟨cells,1,true⟩ :=rowAt_mk (by rw [List.getElem?_append_left hlt];exact h2) rfl (by simp [h3]) (by omega)
 have h44 :(2 :Nat) ^ 44=17592186044416 :=by decide
 refine EvR.opS (σ' :=σ.set b ⟨cells++ys,1,true⟩++l) ?_ h
 simp only [evOp,h1,h4,aAppend,hx,hrow]
 rw [if_pos ⟨trivial,trivial,trivial,by omega,by omega,ha⟩,List.set_append_left _ _ hlt]
theorem appCells_str {σ :Heap}(bs :List UInt8) :appCells σ 1 (.string (str bs))=some (b8s bs,bs.length) :=by
 simp only [appCells,if_pos]
 rfl
def impl_withFrame_ok (c :Contract) :Prop :=∀ (σ :Heap)(b :Nat)(out :List UInt8)(va vb :Value)(last list :List Nat),σ[b]? = some ⟨b8s out,1,true⟩→Row σ 1 va last.length (f32s last)→Row σ 1 vb list.length (f32s list)→list.length=last.length→last.length ≤ 768→lows last→lows list→out.length ≤ 200000 →
 Ret c [slV b out.length,va,vb] σ fun v σ' =>v=slV b (out++frameB out last list).length ∧ ∃ t,σ'=σ.set b ⟨b8s (out++frameB out last list),1,true⟩++t
theorem impl_withFrame_law {C :Ctab}{i1 i2 i3 :FuncId}{c1 c2 c3 :Contract}(h1 :Has C i1 c1 impl_changeBytes_ok)(h2 :Has C i2 c2 impl_lowBytes_ok)(h3 :Has C i3 c3 impl_CheckOf_ok) :impl_withFrame_ok (bodyC C (impl_withFrame i1 i2 i3) false) :=by
 intro σ b out va vb last list hb0 r1 r2 hll hn l1 l2 ho
 have k1 :=r1.ok
 have k2 :=r2.ok
 obtain⟨ch,hch⟩ :∃ ch,ch=chB last list :=⟨_,rfl⟩
 have hcl :ch.length ≤ 4608 :=by have :=chB_len last list;rw [← hch] at this;omega
 have hfa :frA last list=lowB ch.length 2++ch :=by unfold frA;rw [hch]
 unfold frameB
 rw [hfa]
 have hlw :=lowB_length ch.length 2
 refine ret_bx rfl rfl ?_
 repeat' (first | refine ff ?_ | ((first | refine sR ?_ ?_ | refine sC ?_ ?_) <;> (intro hb;(try rw [hb]);(try simp only [bb] at hb);(try (exfalso;first | omega | exact hb trivial)))) | (apply endS trivial;rotate_left;(· exact eva);(· rfl);try refine⟨?_,rfl⟩) | fail)
 (apply EvR.aCall h1.at_;(· exact eva);(· exact  h1.ok _ va vb last list (r1.ext _) (r2.ext _) hll hn l1 l2);(rintro _ _ ⟨rfl,rfl⟩;refine EvR.nrm ?_))
 rw [show chg (xb last list) last.length (last.length+1) 0=ch from hch.symm]
 repeat' (first | refine ff ?_ | ((first | refine sR ?_ ?_ | refine sC ?_ ?_) <;> (intro hb;(try rw [hb]);(try simp only [bb] at hb);(try (exfalso;first | omega | exact hb trivial)))) | (apply endS trivial;rotate_left;(· exact eva);(· rfl);try refine⟨?_,rfl⟩) | fail)
 (apply EvR.aCall h2.at_;(· exact eva);(· exact  h2.ok _ ch.length 2 (by omega) (by omega));(rintro _ _ ⟨rfl,rfl⟩;refine EvR.nrm ?_))
 repeat' (first | refine ff ?_ | ((first | refine sR ?_ ?_ | refine sC ?_ ?_) <;> (intro hb;(try rw [hb]);(try simp only [bb] at hb);(try (exfalso;first | omega | exact hb trivial)))) | (apply endS trivial;rotate_left;(· exact eva);(· rfl);try refine⟨?_,rfl⟩) | fail)
 have hbl :=(List.getElem?_eq_some_iff.1 hb0).1
 refine EvR.apW (b :=b) (m :=out.length) (k :=2) (ys :=b8s (lowB ch.length 2)) hb0 (b8s_length _) rfl rfl (Row.own rfl (by omega) (by rw [b8s_length,hlw])).app (by omega) (b8s_ok _) ?_
 rw [b8s_append]
 obtain⟨σ1,hs1⟩ :∃ s,s=σ.set b (⟨b8s (out++lowB ch.length 2),1,true⟩ :AObj) :=⟨_,rfl⟩
 have hb1 :σ1[b]? = some ⟨b8s (out++lowB ch.length 2),1,true⟩ :=by rw [hs1,List.getElem?_set_self hbl]
 rw [← hs1]
 repeat' (first | refine ff ?_ | ((first | refine sR ?_ ?_ | refine sC ?_ ?_) <;> (intro hb;(try rw [hb]);(try simp only [bb] at hb);(try (exfalso;first | omega | exact hb trivial)))) | (apply endS trivial;rotate_left;(· exact eva);(· rfl);try refine⟨?_,rfl⟩) | fail)
 refine EvR.apW (b :=b) (m :=out.length+2) (k :=ch.length) (ys :=b8s ch) hb1 (by rw [b8s_length,List.length_append,hlw]) rfl rfl (appCells_str ch) (by omega) (b8s_ok _) ?_
 rw [b8s_append,List.append_assoc]
 obtain⟨o2,ho2⟩ :∃ o,o=out++(lowB ch.length 2++ch) :=⟨_,rfl⟩
 have hol :o2.length=out.length+2+ch.length :=by rw [ho2,List.length_append,List.length_append,hlw];omega
 rw [← ho2]
 obtain⟨σ2,hs2⟩ :∃ s,s=σ1.set b (⟨b8s o2,1,true⟩ :AObj) :=⟨_,rfl⟩
 have hbl1 :=(List.getElem?_eq_some_iff.1 hb1).1
 have hb2 :σ2[b]? = some ⟨b8s o2,1,true⟩ :=by rw [hs2,List.getElem?_set_self hbl1]
 have hbl2 :=(List.getElem?_eq_some_iff.1 hb2).1
 rw [← hs2,← hol]
 have hR2 :Row σ2 1 (.slice (some ⟨b,0,none⟩) o2.length o2.length) o2.length (b8s o2) :=Row.whole hb2 (by omega) (by rw [b8s_length];omega)
 have hR2' :Row σ2 1 (slV b o2.length) o2.length (b8s o2) :=hR2
 repeat' (first | refine ff ?_ | ((first | refine sR ?_ ?_ | refine sC ?_ ?_) <;> (intro hb;(try rw [hb]);(try simp only [bb] at hb);(try (exfalso;first | omega | exact hb trivial)))) | (apply endS trivial;rotate_left;(· exact eva);(· rfl);try refine⟨?_,rfl⟩) | fail)
 (apply EvR.aCall h3.at_;(· exact eva);(· exact  h3.ok _ o2 (by omega));(rintro _ _ ⟨rfl,rfl⟩;refine EvR.nrm ?_))
 have h65 :=ckS_lt o2 0 (by omega)
 have hl2 :=lowB_length (ckS 0 o2) 2
 rw [show out++(lowB ch.length 2++ch++lowB (ckS 0 o2) 2)=o2++lowB (ckS 0 o2) 2 from by rw [ho2];simp only [List.append_assoc]]
 generalize ckS 0 o2=ck at *
 repeat' (first | refine ff ?_ | ((first | refine sR ?_ ?_ | refine sC ?_ ?_) <;> (intro hb;(try rw [hb]);(try simp only [bb] at hb);(try (exfalso;first | omega | exact hb trivial)))) | (apply endS trivial;rotate_left;(· exact eva);(· rfl);try refine⟨?_,rfl⟩) | fail)
 (apply EvR.aCall h2.at_;(· exact eva);(· exact  h2.ok _ ck 2 (by omega) (by omega));(rintro _ _ ⟨rfl,rfl⟩;refine EvR.nrm ?_))
 repeat' (first | refine ff ?_ | ((first | refine sR ?_ ?_ | refine sC ?_ ?_) <;> (intro hb;(try rw [hb]);(try simp only [bb] at hb);(try (exfalso;first | omega | exact hb trivial)))) | (apply endS trivial;rotate_left;(· exact eva);(· rfl);try refine⟨?_,rfl⟩) | fail)
 refine EvR.apW (b :=b) (m :=o2.length) (k :=2) (ys :=b8s (lowB ck 2)) hb2 (b8s_length _) rfl rfl (Row.own rfl (by omega) (by rw [b8s_length,hl2])).app (by omega) (b8s_ok _) ?_
 rw [b8s_append]
 repeat' (first | refine ff ?_ | ((first | refine sR ?_ ?_ | refine sC ?_ ?_) <;> (intro hb;(try rw [hb]);(try simp only [bb] at hb);(try (exfalso;first | omega | exact hb trivial)))) | (apply endS trivial;rotate_left;(· exact eva);(· rfl);try refine⟨?_,rfl⟩) | fail)
 apply atEnd_ret
 ·exact eva
 ·exact⟨by rw [List.length_append,hl2],_,by rw [hs2,hs1,List.set_set,List.set_set]⟩
end Go.Abs
