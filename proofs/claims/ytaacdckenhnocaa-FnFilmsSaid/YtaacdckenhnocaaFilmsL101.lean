/- Laws of functions: films are drawn. Conditions: the laws of what they call. -/
import Derived.Test.YtaacdckenhnocaaFilmsL97
import Derived.Test.YtaacdckenhnocaaFilmsL48
import Derived.Test.YtaacdckenhnocaaFilmsL55
import Derived.Test.YtaacdckenhnocaaFilmsL69
import Derived.Test.YtaacdckenhnocaaFilmsL78
import Derived.Test.YtaacdckenhnocaaFilmsL89
namespace Go.Abs
set_option linter.unusedSimpArgs false
set_option linter.unusedVariables false
set_option maxHeartbeats 8000000
set_option maxRecDepth 20000
def spec_l10DrawOk_r0 :List SOper :=[
 ⟨some 2,none,.alloc [(.int .i64 0),(.int .i64 0),(.bool false),(.slice none 0 0),(.slice none 0 0),(.slice none 0 0)],0⟩]
def spec_l10DrawOk_r1 (i_spec_l02DrawOk :FuncId) :List SOper :=[
 ⟨some 6,none,.mov (.tmp 0),0⟩,
 ⟨some 7,none,.call (.func i_spec_l02DrawOk) [(.tmp 6)],1⟩,
 ⟨some 8,none,.buildSlice 3 0 [] [],0⟩,
 ⟨some 9,none,.build [(.int .i64 0),(.int .i64 0),(.bool false),(.slice none 0 0),(.slice none 0 0),(.slice none 0 0)] [(0,5,(.tmp 7)),(5,1,(.tmp 8))],7⟩,
 ⟨some 3,none,.alloc [(.int .i64 0),(.int .i64 0),(.bool false),(.slice none 0 0),(.slice none 0 0),(.slice none 0 0)],0⟩,
 ⟨none,none,.store 6 (.tmp 3) (.tmp 9),31⟩]
def spec_l10DrawOk_r2 (i_spec_l02DrawField :FuncId) :List SOper :=[
 ⟨some 10,none,.mov (.tmp 0),0⟩,
 ⟨some 11,none,.fieldAddr 0 (.tmp 3),0⟩,
 ⟨some 12,none,.call (.func i_spec_l02DrawField) [(.tmp 10),(.tmp 11)],3⟩,
 ⟨some 4,none,.alloc [(.slice none 0 0),(.slice none 0 0),(.slice none 0 0)],0⟩,
 ⟨none,none,.store 3 (.tmp 4) (.tmp 12),15⟩]
def spec_l10DrawOk_r3 (i_spec_l00Src_pick :FuncId) :List SOper :=[
 ⟨some 13,none,.mov (.tmp 0),0⟩,
 ⟨some 14,none,.call (.func i_spec_l00Src_pick) [(.tmp 13),(.const (.int .i64 4))],1⟩,
 ⟨some 5,none,.mov (.tmp 14),3⟩]
def spec_l10DrawOk_r4 :List SOper :=[
 ⟨some 15,none,.mov (.tmp 5),0⟩,
 ⟨some 16,none,.bin .gtr .other (.tmp 15) (.const (.int .i64 0)),1⟩]
def spec_l10DrawOk_r5 (i_spec_l02Own :FuncId) :List SOper :=[
 ⟨some 19,none,.fieldAddr 5 (.tmp 3),0⟩,
 ⟨some 20,none,.load1 (.tmp 19),1⟩,
 ⟨some 21,none,.call (.func i_spec_l02Own) [(.tmp 4)],0⟩,
 ⟨some 22,none,.buildSlice 3 1 [(.slice none 0 0),(.slice none 0 0),(.slice none 0 0)] [(0,3,(.tmp 21))],4⟩,
 ⟨some 23,none,.append 3 72 (.tmp 20) (.tmp 22),15⟩,
 ⟨some 24,none,.fieldAddr 5 (.tmp 3),31⟩,
 ⟨none,none,.store 1 (.tmp 24) (.tmp 23),63⟩]
def spec_l10DrawOk_r6 (i_spec_l00Src_one :FuncId) :List SOper :=[
 ⟨some 25,none,.mov (.tmp 0),0⟩,
 ⟨some 26,none,.call (.func i_spec_l00Src_one) [(.tmp 25),(.const (.int .i64 2))],1⟩]
def spec_l10DrawOk_r7 (i_spec_l03Step :FuncId) :List SOper :=[
 ⟨some 27,none,.fieldAddr 0 (.tmp 3),0⟩,
 ⟨some 28,none,.call (.func i_spec_l03Step) [(.tmp 27),(.tmp 4)],1⟩,
 ⟨none,none,.store 3 (.tmp 4) (.tmp 28),3⟩]
def spec_l10DrawOk_r8 (i_spec_l02DrawField :FuncId) :List SOper :=[
 ⟨some 29,none,.mov (.tmp 0),0⟩,
 ⟨some 30,none,.fieldAddr 0 (.tmp 3),0⟩,
 ⟨some 31,none,.call (.func i_spec_l02DrawField) [(.tmp 29),(.tmp 30)],3⟩,
 ⟨none,none,.store 3 (.tmp 4) (.tmp 31),7⟩]
def spec_l10DrawOk_r9 :List SOper :=[
 ⟨some 17,none,.mov (.tmp 5),0⟩,
 ⟨some 18,none,.bin .sub .other (.tmp 17) (.const (.int .i64 1)),1⟩,
 ⟨some 5,none,.mov (.tmp 18),3⟩]
def spec_l10DrawOk_l10 (i_spec_l02Own i_spec_l00Src_one i_spec_l03Step i_spec_l02DrawField :FuncId) :SCode :=(.kp [0,2,3,4,5] (.seq (.seq (.region spec_l10DrawOk_r4 false) (.kp [0,2,3,4,5,16] (.cond (.tmp 16) .skip (.exit 0)))) (.kp [0,2,3,4,5] (.seq (.block 1 (.seq (.region (spec_l10DrawOk_r5 i_spec_l02Own) true) (.kp [0,2,3,4,5] (.seq (.region (spec_l10DrawOk_r6 i_spec_l00Src_one) false) (.kp [0,2,3,4,5,26] (.cond (.tmp 26) (.region (spec_l10DrawOk_r7 i_spec_l03Step) false) (.region (spec_l10DrawOk_r8 i_spec_l02DrawField) false))))))) (.kp [0,2,3,4,5] (.region spec_l10DrawOk_r9 false))))))
def spec_l10DrawOk_r11 :List SOper :=[
 ⟨some 32,none,.loadN 6 (.tmp 3),0⟩,
 ⟨none,none,.store 6 (.tmp 2) (.tmp 32),1⟩]
def spec_l10DrawOk (i_spec_l02DrawOk i_spec_l02DrawField i_spec_l00Src_pick i_spec_l02Own i_spec_l00Src_one i_spec_l03Step :FuncId) :SFunc :=⟨33,[.cellN 2 6],(.kp [0] (.seq (.region spec_l10DrawOk_r0 false) (.kp [0,2] (.seq (.region (spec_l10DrawOk_r1 i_spec_l02DrawOk) false) (.kp [0,2,3] (.seq (.region (spec_l10DrawOk_r2 i_spec_l02DrawField) false) (.kp [0,2,3,4] (.seq (.seq (.region (spec_l10DrawOk_r3 i_spec_l00Src_pick) false) (.kp [0,2,3,4,5] (.block 0 (.loop (spec_l10DrawOk_l10 i_spec_l02Own i_spec_l00Src_one i_spec_l03Step i_spec_l02DrawField))))) (.kp [2,3] (.seq (.region spec_l10DrawOk_r11 false) .ret))))))))))⟩
theorem spec_l10DrawOk_r5_dr {i_spec_l02Own :FuncId} :drawOkW wStat (spec_l10DrawOk_r5 i_spec_l02Own)=true :=by kernel_rfl
attribute [push_cast] spec_l10DrawOk_r5_dr
section
variable {C :Ctab} {F :Frame} {τ l :Heap}
theorem EvR.stVx {Q}{n m :Nat}{rest :List SOper}{x y :Operand}{b o :Nat}{v :Value}{cells :List Value}{H :Heap}(h2 :H[b]? = some ⟨cells,0,true⟩)(h1 :eval F x = .pointer (some ⟨b,o,none⟩))(h3 :eval F y=v)(hm :v.cells.toList.length=m)(ho :o+m ≤ cells.length)(hv :v.cells.toList.all cellOk=true)
 (h :EvR C rest F (H.set b ⟨splice cells o v.cells.toList,0,true⟩) Q) :EvR C (⟨none,none,.store m x y,n⟩::rest) F H Q :=by
 refine EvR.opN (v :=undef) (σ' :=H.set b ⟨splice cells o v.cells.toList,0,true⟩) ?_ h
 subst hm
 have :aStore H v.cells.toList.length (.pointer (some ⟨b,o,none⟩)) v=some (H.set b ⟨splice cells o v.cells.toList,0,true⟩) :=by
  simp only [aStore,h2]
  rw [if_pos (by rw [hv,decide_eq_true ho,Nat.beq_refl];rfl)]
 simp only [evOp,h1,h3,this,Option.map_some]
theorem EvR.stvx {Q}{n b off :Nat}{rest :List SOper}{x y :Operand}{v :Value}{cells cells' :List Value}(h2 :τ[b]? = some ⟨cells,0,true⟩)(ho :off < cells.length)(h1 :eval F x = .pointer (some ⟨b,off,none⟩))(h3 :eval F y=v)(hv :cellOk v=true)(hc :v.cells = #[v])(h4 :cells.set off v=cells')
 (h :EvR C rest F (τ.set b ⟨cells',0,true⟩++l) Q) :EvR C (⟨none,none,.store 1 x y,n⟩::rest) F (τ++l) Q :=by
 subst h4
 have hlt :=(List.getElem?_eq_some_iff.1 h2).1
 have e :(τ++l)[b]? = some ⟨cells,0,true⟩ :=by rw [List.getElem?_append_left hlt];exact h2
 refine EvR.opN (v :=undef) (σ' :=τ.set b ⟨cells.set off v,0,true⟩++l) ?_ h
 have hs :splice cells off [v]=cells.set off v :=by
  unfold splice
  rw [List.set_eq_take_append_cons_drop,if_pos ho]
  simp
 simp only [evOp,h1,h3,aStore,e,hc]
 rw [if_pos (by simp [ptrOk,hv];omega)]
 simp only [hs,Option.map_some]
 rw [List.set_append_left _ _ hlt]
end
theorem EvR.ap3O {C :Ctab}{F :Frame}{τ l :Heap} {Q}{d n b j m :Nat}{rest :List SOper}{x y :Operand}{a b' c :Value}{cells :List Value}{r :Bool}(h2 :τ[b]? = some ⟨cells,3,true⟩)(h3 :cells.length=m * 3)(h1 :eval F x = .slice (some ⟨b,0,none⟩) m m)
 (h4 :eval F y = .slice (some ⟨τ.length+j,0,none⟩) 1 1) (h5 :l[j]? = some ⟨[a,b',c],3,r⟩) (hm :m ≤ 1048576) (ha :cellOk a=true) (hb :cellOk b'=true) (hc :cellOk c=true)
 (h :EvR C rest ((d,.slice (some ⟨b,0,none⟩) (m+1) (m+1))::F) (τ.set b ⟨cells++[a,b',c],3,true⟩++l) Q) :EvR C (⟨some d,none,.append 3 72 x y,n⟩::rest) F (τ++l) Q :=by
 have hlt :=(List.getElem?_eq_some_iff.1 h2).1
 have hrow :rowAt (τ++l) 3 ⟨b,0,none⟩ m=some ⟨cells,3,true⟩ :=rowAt_mk (by rw [List.getElem?_append_left hlt];exact h2) rfl (by simp [h3]) (by omega)
 have hx :appCells (τ++l) 3 (.slice (some ⟨τ.length+j,0,none⟩) 1 1)=some ([a,b',c],1) :=by
  have hrow :Row (τ++l) 3 (.slice (some ⟨τ.length+j,0,none⟩) 1 1) 1 [a,b',c] :=Row.own h5 (by omega) rfl
  simp only [appCells,hrow.cells,Option.map_some]
 have h44 :(2 :Nat) ^ 44=17592186044416 :=by decide
 refine EvR.opS (σ' :=τ.set b ⟨cells++[a,b',c],3,true⟩++l) ?_ h
 simp only [evOp,h1,h4,aAppend,hx,hrow]
 rw [if_pos ⟨trivial,trivial,trivial,by omega,by omega,by simp [ha,hb,hc]⟩,List.set_append_left _ _ hlt]
structure DrI (σ :Heap)(b :Nat)(cv :Value)(W H :Nat)(wr :Bool)(sp lo :List Nat)(t2 t3 t4 s l fb :Nat)(τ :Heap)(p d :Int)(f :Fld)(e x y :Nat)(fs :List Fld)(R :Rws) :Prop where
 top :τ.take σ.length=σ.set b (srcO cv p d)
 len :σ.length ≤ τ.length
 v2 :τ[t2]? = some ⟨[.int .i64 0,.int .i64 0,.bool false,.slice none 0 0,.slice none 0 0,.slice none 0 0],0,true⟩
 v3 :τ[t3]? = some ⟨[.int .i64 W,.int .i64 H,.bool wr,slV s sp.length,slV l lo.length,slV fb fs.length],0,true⟩
 v4 :τ[t4]? = some ⟨[slV e f.e.length,slV x f.x.length,slV y f.y.length],0,true⟩
 fe :τ[e]? = some (rowO f.e)
 fx :τ[x]? = some (rowO f.x)
 fy :τ[y]? = some (rowO f.y)
 flm :FilmO τ σ.length s l fb R sp lo fs
 o2 :σ.length ≤ t2
 o3 :σ.length ≤ t3
 o4 :σ.length ≤ t4
 oe :σ.length ≤ e
 ox :σ.length ≤ x
 oy :σ.length ≤ y
 n23 :t2 ≠ t3
theorem ne_of_esz {τ :Heap}{a b :Nat}{x y :AObj}(h1 :τ[a]? = some x)(h2 :τ[b]? = some y)(h :x.esz ≠ y.esz) :a ≠ b :=by
 rintro rfl;rw [h1] at h2;cases h2;exact h rfl
theorem ne_of_len {τ :Heap}{a b :Nat}{x y :AObj}(h1 :τ[a]? = some x)(h2 :τ[b]? = some y)(h :x.cells.length ≠ y.cells.length) :a ≠ b :=by
 rintro rfl;rw [h1] at h2;cases h2;exact h rfl
theorem FilmO.notIn {H :Heap}{lo s l b t :Nat}{R :Rws}{sp ls :List Nat}{fs :List Fld}{x :AObj}(h :FilmO H lo s l b R sp ls fs)(ht :H[t]? = some x)(hx :x.esz=0) :t ≠ b∧t ∉ ((s,sp)::(l,ls)::R).map Prod.fst :=by
 refine⟨ne_of_esz ht h.row (by rw [hx];simp),fun hc =>?_⟩
 obtain⟨p,hp,rfl⟩ :=List.mem_map.1 hc
 exact ne_of_esz ht (h.inv.own p hp) (by rw [hx];simp) rfl
section
variable {σ :Heap} {b :Nat} {cv :Value} {W H :Nat} {wr :Bool} {sp lo :List Nat} {t2 t3 t4 s l fb :Nat} {τ :Heap} {p d :Int} {f :Fld} {e x y :Nat} {fs :List Fld} {R :Rws}
theorem DrI.src {code :List UInt8}{p0 d0 :Int}(h :DrI σ b cv W H wr sp lo t2 t3 t4 s l fb τ p d f e x y fs R)(hs :Src σ b cv code p0 d0) :Src τ b cv code p d :=by
 rw [← List.take_append_drop σ.length τ,h.top]
 exact (hs.step p d).ext _
theorem DrI.sh (h :DrI σ b cv W H wr sp lo t2 t3 t4 s l fb τ p d f e x y fs R) :ShR τ (slV s sp.length) (slV l lo.length) sp lo :=h.flm.sheet
theorem DrI.fl (h :DrI σ b cv W H wr sp lo t2 t3 t4 s l fb τ p d f e x y fs R) :FlR τ (slV e f.e.length) (slV x f.x.length) (slV y f.y.length) f.e f.x f.y :=
 ⟨Row.whole h.fe (by omega) (by rw [f32s_length];omega),Row.whole h.fx (by omega) (by rw [f32s_length];omega),Row.whole h.fy (by omega) (by rw [f32s_length];omega)⟩
theorem DrI.ext (h :DrI σ b cv W H wr sp lo t2 t3 t4 s l fb τ p d f e x y fs R)(t :Heap) :DrI σ b cv W H wr sp lo t2 t3 t4 s l fb (τ++t) p d f e x y fs R :=by
 have g :∀ {o :Nat} {z :AObj},τ[o]? = some z→(τ++t)[o]? = some z :=fun hz =>by rw [List.getElem?_append_left (List.getElem?_eq_some_iff.1 hz).1];exact hz
 exact⟨by rw [List.take_append_of_le_length h.len];exact h.top,by have :=h.len;simp only [List.length_append];omega,g h.v2,g h.v3,g h.v4,g h.fe,g h.fx,g h.fy,h.flm.ext t,h.o2,h.o3,h.o4,h.oe,h.ox,h.oy,h.n23⟩
theorem DrI.draw (h :DrI σ b cv W H wr sp lo t2 t3 t4 s l fb τ p d f e x y fs R)(hb :b < σ.length)(p' d' :Int) :DrI σ b cv W H wr sp lo t2 t3 t4 s l fb (τ.set b (srcO cv p' d')) p' d' f e x y fs R :=by
 have g :∀ {o :Nat} {z :AObj},σ.length ≤ o→τ[o]? = some z→(τ.set b (srcO cv p' d'))[o]? = some z :=fun ho hz =>by rw [List.getElem?_set_ne (by omega)];exact hz
 exact⟨by rw [List.take_set,h.top,List.set_set],by rw [List.length_set];exact h.len,g h.o2 h.v2,g h.o3 h.v3,g h.o4 h.v4,g h.oe h.fe,g h.ox h.fx,g h.oy h.fy,h.flm.keep fun o ho _ =>List.getElem?_set_ne (by omega),h.o2,h.o3,h.o4,h.oe,h.ox,h.oy,h.n23⟩
theorem DrI.put (h :DrI σ b cv W H wr sp lo t2 t3 t4 s l fb τ p d f e x y fs R){f' :Fld}{e' x' y' :Nat}(g1 :τ[e']? = some (rowO f'.e))(g2 :τ[x']? = some (rowO f'.x))(g3 :τ[y']? = some (rowO f'.y))(k1 :σ.length ≤ e')(k2 :σ.length ≤ x')(k3 :σ.length ≤ y') :
 DrI σ b cv W H wr sp lo t2 t3 t4 s l fb (τ.set t4 ⟨[slV e' f'.e.length,slV x' f'.x.length,slV y' f'.y.length],0,true⟩) p d f' e' x' y' fs R :=by
 have g :∀ {o :Nat} {z :AObj},o ≠ t4→τ[o]? = some z→(τ.set t4 ⟨[slV e' f'.e.length,slV x' f'.x.length,slV y' f'.y.length],0,true⟩)[o]? = some z :=fun ho hz =>by rw [List.getElem?_set_ne (Ne.symm ho)];exact hz
 have n24 :=ne_of_len h.v2 h.v4 (by simp)
 have n34 :=ne_of_len h.v3 h.v4 (by simp)
 obtain⟨q1,q2⟩ :=h.flm.notIn h.v4 rfl
 refine⟨by rw [List.take_set_of_le h.o4];exact h.top,by rw [List.length_set];exact h.len,g n24 h.v2,g n34 h.v3,List.getElem?_set_self (List.getElem?_eq_some_iff.1 h.v4).1,g (ne_of_esz g1 h.v4 (by simp)) g1,g (ne_of_esz g2 h.v4 (by simp)) g2,g (ne_of_esz g3 h.v4 (by simp)) g3,?_,h.o2,h.o3,h.o4,k1,k2,k3,h.n23⟩
 exact⟨g (Ne.symm q1) h.flm.row,h.flm.inv.setOut q2 fun o ho _ =>List.getElem?_set_ne (Ne.symm ho),h.flm.con,h.flm.bl,h.flm.bn⟩
theorem DrI.push (h :DrI σ b cv W H wr sp lo t2 t3 t4 s l fb τ p d f e x y fs R)(T :Heap) :
 DrI σ b cv W H wr sp lo t2 t3 t4 s l fb ((τ.set fb ⟨R.map slOf++[slV τ.length f.e.length,slV (τ.length+1) f.x.length,slV (τ.length+2) f.y.length],3,true⟩).set t3 ⟨[.int .i64 W,.int .i64 H,.bool wr,slV s sp.length,slV l lo.length,slV fb (fs.length+1)],0,true⟩++(rowO f.e::rowO f.x::rowO f.y::T)) p d f e x y (fs++[f]) (R++[(τ.length,f.e),(τ.length+1,f.x),(τ.length+2,f.y)]) :=by
 obtain⟨X,hX⟩ :∃ X,X=(⟨R.map slOf++[slV τ.length f.e.length,slV (τ.length+1) f.x.length,slV (τ.length+2) f.y.length],3,true⟩ :AObj) :=⟨_,rfl⟩
 obtain⟨Y,hY⟩ :∃ Y,Y=(⟨[.int .i64 W,.int .i64 H,.bool wr,slV s sp.length,slV l lo.length,slV fb (fs.length+1)],0,true⟩ :AObj) :=⟨_,rfl⟩
 rw [← hX,← hY]
 obtain⟨q1,q2⟩ :=h.flm.notIn h.v3 rfl
 obtain⟨q3,_⟩ :=h.flm.notIn h.v2 rfl
 obtain⟨q4,_⟩ :=h.flm.notIn h.v4 rfl
 have n34 :=ne_of_len h.v3 h.v4 (by simp)
 have l3 :=(List.getElem?_eq_some_iff.1 h.v3).1
 have lb :=(List.getElem?_eq_some_iff.1 h.flm.row).1
 have L :((τ.set fb X).set t3 Y).length=τ.length :=by rw [List.length_set,List.length_set]
 have g :∀ {o :Nat} {z :AObj} (T' :Heap),o ≠ fb→o ≠ t3→τ[o]? = some z→((τ.set fb X).set t3 Y++T')[o]? = some z :=fun T' h1 h2 hz =>by
  rw [List.getElem?_append_left (by rw [L];exact (List.getElem?_eq_some_iff.1 hz).1),List.getElem?_set_ne (Ne.symm h2),List.getElem?_set_ne (Ne.symm h1)];exact hz
 have kf :∀ {o :Nat} {z :List Nat},τ[o]? = some (rowO z)→o ≠ fb∧o ≠ t3 :=fun hz =>⟨ne_of_esz hz h.flm.row (by simp),ne_of_esz hz h.v3 (by simp)⟩
 refine⟨?_,by have :=h.len;simp only [List.length_append,L];omega,g _ q3 h.n23 h.v2,?_,g _ q4 (Ne.symm n34) h.v4,g _ (kf h.fe).1 (kf h.fe).2 h.fe,g _ (kf h.fx).1 (kf h.fx).2 h.fx,g _ (kf h.fy).1 (kf h.fy).2 h.fy,?_,h.o2,h.o3,h.o4,h.oe,h.ox,h.oy,h.n23⟩
 ·rw [List.take_append_of_le_length (by rw [L];exact h.len),List.take_set_of_le h.o3,List.take_set_of_le h.flm.bl];exact h.top
 ·rw [List.getElem?_append_left (by rw [L];exact l3),List.getElem?_set_self (by rw [List.length_set];exact l3),hY,List.length_append];rfl
 ·have i0 :RInv ((τ.set fb X).set t3 Y) σ.length ((s,sp)::(l,lo)::R) :=by
   refine RInv.setOut (H :=τ.set fb X) (RInv.setOut h.flm.inv ?_ fun o ho _ =>List.getElem?_set_ne (Ne.symm ho)) q2 fun o ho _ =>List.getElem?_set_ne (Ne.symm ho)
   have :=h.flm.bn
   simpa using this
  have i1 :=i0.snoc3 (by rw [L];exact h.len) f T
  rw [L] at i1
  refine⟨?_,i1,by rw [List.map_append,h.flm.con,rowsOf_append];rfl,h.flm.bl,?_⟩
  ·rw [List.getElem?_append_left (by rw [L];exact lb),List.getElem?_set_ne q1,List.getElem?_set_self lb,hX,List.map_append];rfl
  ·have hb :=h.flm.bn
   simp only [List.mem_cons,not_or,List.map_append,List.mem_append,List.map_cons,List.map_nil] at hb ⊢
   refine⟨hb.1,hb.2.1,hb.2.2,by omega,by omega,by omega,by simp⟩
theorem DrI.fin (h :DrI σ b cv W H wr sp lo t2 t3 t4 s l fb τ p d f e x y fs R)(cells :List Value) :(τ.set t2 ⟨cells,0,true⟩).take σ.length=σ.set b (srcO cv p d)∧FilmO (τ.set t2 ⟨cells,0,true⟩) σ.length s l fb R sp lo fs :=by
 obtain⟨q1,q2⟩ :=h.flm.notIn h.v2 rfl
 refine⟨by rw [List.take_set_of_le h.o2];exact h.top,?_⟩
 exact⟨by rw [List.getElem?_set_ne q1];exact h.flm.row,h.flm.inv.setOut q2 fun o ho _ =>List.getElem?_set_ne (Ne.symm ho),h.flm.con,h.flm.bl,h.flm.bn⟩
end
theorem isFilm_snoc {w h :Int}{wr :Bool}{sp lo :List Nat}{fs :List Fld}{f :Fld}(h1 :isFilm w h wr sp lo fs=true)(h2 :isField w h wr sp lo f.e f.x f.y=true)(h3 :fs.length ≤ 15) :isFilm w h wr sp lo (fs++[f])=true :=by
 unfold isFilm at h1 ⊢
 rw [Bool.and_eq_true,Bool.and_eq_true] at h1 ⊢
 refine⟨⟨h1.1.1,decide_eq_true (by rw [List.length_append];simp;omega)⟩,?_⟩
 rw [List.all_append,h1.2];simp [h2]
theorem newM_low {g :Nat→Nat}{xs :List Nat}(h :∀ i,g i < 4294967296) :in32N (newM g xs) :=fun i =>by
 by_cases hi :i < xs.length
 ·rw [newM_get hi];exact h i
 ·rw [List.getD_eq_getElem?_getD,List.getElem?_eq_none (by rw [newM_length];omega)];decide
theorem halfX_low {W H :Nat}{wr :Bool}{e x :List Nat}(h :in32N x) :in32N (halfX W H wr e x) :=newM_low fun i =>by
 unfold hxF hxC;split
 ·exact fbin_lt _ _ _
 ·exact h i
theorem halfY_low {W H :Nat}{wr :Bool}{e y :List Nat}(h :in32N y) :in32N (halfY W H wr e y) :=newM_low fun i =>by
 unfold hyF hyC;split
 ·exact fbin_lt _ _ _
 ·exact h i
theorem stepF_low {W H :Nat}{wr :Bool}{sp lo :List Nat}{f :Fld}(h :lowF1 f) :lowF1 (stepF W H wr sp lo f) :=
 ⟨newM_low fun i =>by
  unfold seF seC;split
  ·exact h.1 i
  ·exact fbin_lt _ _ _,halfX_low h.2.1,halfY_low h.2.2⟩
theorem stepF_field {W H :Nat}{wr :Bool}{sp lo :List Nat}{f :Fld}(hf :isField W H wr sp lo f.e f.x f.y=true) :isField W H wr sp lo (stepF W H wr sp lo f).e (stepF W H wr sp lo f).x (stepF W H wr sp lo f).y=true :=by
 obtain⟨hs,_,_,_⟩ :=isField_len hf
 rw [isField_fits hs] at hf ⊢
 exact fits_run (k :=1) hf
def spec_l10DrawOk_ok (c :Contract) :Prop :=∀ (σ :Heap)(b :Nat)(cv :Value)(code :List UInt8)(p d :Int),Src σ b cv code p d→0 ≤ p→p ≤ 400000→code.length ≤ 1048576 →
 Ret c [.pointer (some ⟨b,0,none⟩)] σ fun v σ' =>∃ (W H :Nat) (wr :Bool) (sp lo :List Nat) (fs :List Fld) (s l fb :Nat) (R :Rws) (p' d' :Int),isFilm W H wr sp lo fs=true∧fs.length ≤ 3∧lowF fs∧in32 sp∧in32 lo ∧
  v=fmV W H wr (slV s sp.length) (slV l lo.length) (slV fb fs.length)∧σ'.take σ.length=σ.set b (srcO cv p' d')∧σ.length ≤ σ'.length∧FilmO σ' σ.length s l fb R sp lo fs
theorem spec_l10DrawOk_law {C :Ctab}{i1 i2 i3 i4 i5 i6 :FuncId}{c1 c2 c3 c4 c5 c6 :Contract}(h1 :HasW C i1 c1 spec_l02DrawOk_ok)(h2 :HasW C i2 c2 spec_l02DrawField_ok)(h3 :HasW C i3 c3 spec_l00Src_pick_ok)(h4 :Has C i4 c4 spec_l02Own_ok)(h5 :HasW C i5 c5 spec_l00Src_one_ok)(h6 :Has C i6 c6 spec_l03Step_ok) :
 spec_l10DrawOk_ok (bodyC C (spec_l10DrawOk i1 i2 i3 i4 i5 i6) false) :=by
 intro σ b cv code p d hs p0 p1 hc
 have hblt :=hs.lt
 refine ret_bw rfl rfl ?_
 repeat' (first | refine ff ?_ | ((first | refine sR ?_ ?_ | refine sC ?_ ?_) <;> (intro hb;(try rw [hb]);(try simp only [bb] at hb);(try (exfalso;first | omega | exact hb trivial)))) | (apply endS trivial;rotate_left;(· exact eva);(· rfl);try refine⟨?_,rfl⟩) | fail)
 apply EvR.aCall h1.at_;(· exact eva);(· exact h1.ok _ b cv code p d (hs.ext _) p0 (by omega) hc)
 rintro _ _ ⟨W,H,wr,sp,lo,s,l,q1,d1,rub,hsh,w1,w2,u0,u1,rfl,rfl,ho⟩
 obtain⟨a1,a2,a3,a4,z1,z2⟩ :=isSheet_sides hsh
 have hN2 :W * H ≤ 256 :=Nat.mul_le_mul (show W ≤ 16 by omega) (show H ≤ 16 by omega)
 have hWH :(W :Int) * (H :Int)=((W * H :Nat) :Int) :=(Int.natCast_mul _ _).symm
 refine EvR.base fun τ hτ =>?_
 rw [← hτ] at ho
 have hl0 :(σ++[(⟨[.int .i64 0,.int .i64 0,.bool false,.slice none 0 0,.slice none 0 0,.slice none 0 0],0,true⟩ :AObj)]).length=σ.length+1 :=by simp
 have ht :τ.take σ.length=σ.set b (srcO cv q1 d1) :=by
  rw [hτ,List.set_append_left _ _ hblt,List.append_assoc,List.take_append_of_le_length (by rw [List.length_set];exact Nat.le_refl _),List.take_of_length_le (by rw [List.length_set];exact Nat.le_refl _)]
 have hv2 :τ[σ.length]? = some ⟨[.int .i64 0,.int .i64 0,.bool false,.slice none 0 0,.slice none 0 0,.slice none 0 0],0,true⟩ :=by
  rw [hτ,List.set_append_left _ _ hblt,List.append_assoc,List.getElem?_append_right (by rw [List.length_set];exact Nat.le_refl _),List.length_set,Nat.sub_self];rfl
 have hle :σ.length+1 ≤ τ.length :=by
  have :=(List.getElem?_eq_some_iff.1 hv2).1;omega
 have hs1 :Src τ b cv code q1 d1 :=by
  rw [← List.take_append_drop σ.length τ,ht];exact (hs.step _ _).ext _
 have ho1 :=ho.slo
 have ho2 :=ho.llo
 rw [hl0] at ho1 ho2
 have rS :ShR τ (slV s sp.length) (slV l lo.length) sp lo :=⟨Row.whole ho.s_ (by omega) (by rw [f32s_length];omega),Row.whole ho.l_ (by omega) (by rw [f32s_length];omega)⟩
 have rs1 :=rS.s
 have rs2 :=rS.l
 clear hτ
 refine EvR.nrm ?_
 repeat' (first | refine ff ?_ | ((first | refine sR ?_ ?_ | refine sC ?_ ?_) <;> (intro hb;(try rw [hb]);(try simp only [bb] at hb);(try (exfalso;first | omega | exact hb trivial)))) | (apply endS trivial;rotate_left;(· exact eva);(· rfl);try refine⟨?_,rfl⟩) | fail)
 apply EvR.aCall h2.at_;(· exact eva);(· exact h2.ok _ b (τ.length+1) 0 cv code q1 d1 W H wr _ _ sp lo (hs1.ext _) (PtAt.part (by rw [hget];rfl) 0 _ rfl) ⟨rs1.ext _,rs2.ext _⟩ hsh (by omega) (by omega) hc)
 rintro _ _ ⟨f,e,x,y,q2,d2,rub2,hf,lf,u2,u3,rfl,rfl,hN⟩
 refine EvR.base fun S hS =>?_
 rw [← hS] at hN
 obtain⟨U,hU⟩ :∃ U,U=τ++[(⟨[],3,true⟩ :AObj),⟨[.int .i64 W,.int .i64 H,.bool wr,slV s sp.length,slV l lo.length,slV τ.length 0],0,true⟩] :=⟨_,rfl⟩
 have hUl :U.length=τ.length+2 :=by rw [hU];simp
 have hS2 :S=U.set b (srcO cv q2 d2)++rub2 :=by rw [hS,hU];rfl
 have hbU :b < U.length :=by omega
 have gU :∀ {o :Nat} {z :AObj},o ≠ b→U[o]? = some z→S[o]? = some z :=fun h1 h2 =>by
  rw [hS2,List.getElem?_append_left (by rw [List.length_set];exact (List.getElem?_eq_some_iff.1 h2).1),List.getElem?_set_ne (Ne.symm h1)];exact h2
 have gT :∀ {o :Nat} {z :AObj},τ[o]? = some z→U[o]? = some z :=fun h1 =>by
  rw [hU,List.getElem?_append_left (List.getElem?_eq_some_iff.1 h1).1];exact h1
 have hs2 :Src S b cv code q2 d2 :=by
  rw [hS2]
  have :Src U b cv code q1 d1 :=by rw [hU];exact hs1.ext _
  exact (this.step _ _).ext _
 have hSl :τ.length+2 ≤ S.length :=by rw [hS2,List.length_append,List.length_set,hUl];omega
 have hle2 :=ho.s_
 have ls_ :s < τ.length :=(List.getElem?_eq_some_iff.1 ho.s_).1
 have ll_ :l < τ.length :=(List.getElem?_eq_some_iff.1 ho.l_).1
 have I0 :DrI σ b cv W H wr sp lo σ.length (τ.length+1) (S.length+0) s l τ.length (S++[(⟨[slV e f.e.length,slV x f.x.length,slV y f.y.length],0,true⟩ :AObj)]) q2 d2 f e x y [] [] :=by
  have g :∀ {o :Nat} {z :AObj},S[o]? = some z→(S++[(⟨[slV e f.e.length,slV x f.x.length,slV y f.y.length],0,true⟩ :AObj)])[o]? = some z :=fun h1 =>by
   rw [List.getElem?_append_left (List.getElem?_eq_some_iff.1 h1).1];exact h1
  have hb3 :S[τ.length]? = some ⟨[],3,true⟩ :=gU (by omega) (by rw [hU];exact hget τ _ 0)
  have elo :=hN.elo
  have ex :=hN.ex
  have xy :=hN.xy
  have hl9 :(τ++[(⟨[],3,true⟩ :AObj),⟨[.int .i64 W,.int .i64 H,.bool wr,slV s sp.length,slV l lo.length,slV τ.length 0],0,true⟩]).length=τ.length+2 :=by simp
  have elo2 :τ.length+2 ≤ e :=by rw [← hl9];exact elo
  refine⟨?_,by simp only [List.length_append];omega,g (gU (by omega) (gT hv2)),g (gU (by omega) (by rw [hU];exact hget τ _ 1)),by rw [hget];rfl,g hN.e_,g hN.x_,g hN.y_,⟨g hb3,⟨?_,?_,?_⟩,rfl,by omega,?_⟩,by omega,by omega,by omega,by omega,by omega,by omega,by omega⟩
  ·rw [List.take_append_of_le_length (by omega),hS2,List.take_append_of_le_length (by rw [List.length_set];omega),List.take_set,hU,List.take_append_of_le_length (by omega),ht,List.set_set]
  ·intro p hp
   simp only [List.mem_cons,List.not_mem_nil,or_false] at hp
   rcases hp with rfl | rfl
   ·exact g (gU (by dsimp only;omega) (gT ho.s_))
   ·exact g (gU (by dsimp only;omega) (gT ho.l_))
  ·intro p hp
   simp only [List.mem_cons,List.not_mem_nil,or_false] at hp
   rcases hp with rfl | rfl
   ·dsimp only;omega
   ·dsimp only;omega
  ·simp only [List.map_cons,List.map_nil,List.nodup_cons,List.mem_singleton,List.not_mem_nil,not_false_eq_true,List.nodup_nil,and_true]
   exact ho.ne
  ·simp only [List.map_nil,List.mem_cons,List.not_mem_nil,or_false,not_or]
   omega
 clear hS hU
 refine EvR.nrm ?_
 repeat' (first | refine ff ?_ | ((first | refine sR ?_ ?_ | refine sC ?_ ?_) <;> (intro hb;(try rw [hb]);(try simp only [bb] at hb);(try (exfalso;first | omega | exact hb trivial)))) | (apply endS trivial;rotate_left;(· exact eva);(· rfl);try refine⟨?_,rfl⟩) | fail)
 apply EvR.aCall h3.at_;(· exact eva);(· exact h3.ok _ b cv code q2 d2 4 (hs2.ext _) (by omega) (by omega) hc (by omega) (by omega))
 rintro _ _ ⟨kk,q3,d3,ukk0,ukk1,vq0,vq1,rfl,rfl⟩
 obtain⟨k0,rfl⟩ :=Int.eq_ofNat_of_zero_le ukk0
 have I1 :=I0.draw hblt q3 d3
 refine EvR.base fun T hT =>?_
 rw [← hT] at I1
 clear hT I0
 generalize τ.length=tn at *
 generalize S.length+0=t4 at *
 refine EvR.nrm ?_
 repeat' (first | refine ff ?_ | ((first | refine sR ?_ ?_ | refine sC ?_ ?_) <;> (intro hb;(try rw [hb]);(try simp only [bb] at hb);(try (exfalso;first | omega | exact hb trivial)))) | (apply endS trivial;rotate_left;(· exact eva);(· rfl);try refine⟨?_,rfl⟩) | fail)
 refine Ev.whlH (S :=Nat × Heap × (Int × Int) × (Fld × Nat × Nat × Nat) × List Fld × Rws) (fun st =>st.1) (fun st =>[(5,.int .i64 st.1)]) (fun st =>st.2.1++[])
  (fun st =>st.1+st.2.2.2.2.1.length ≤ 3∧isFilm W H wr sp lo st.2.2.2.2.1=true∧lowF st.2.2.2.2.1∧isField W H wr sp lo st.2.2.2.1.1.e st.2.2.2.1.1.x st.2.2.2.1.1.y=true∧lowF1 st.2.2.2.1.1∧q3 ≤ st.2.2.1.1∧st.2.2.1.1 ≤ q3+10100 * st.2.2.2.2.1.length ∧
   DrI σ b cv W H wr sp lo σ.length (tn+1) t4 s l tn st.2.1 st.2.2.1.1 st.2.2.1.2 st.2.2.2.1.1 st.2.2.2.1.2.1 st.2.2.2.1.2.2.1 st.2.2.2.1.2.2.2 st.2.2.2.2.1 st.2.2.2.2.2)
  (k0,T,(q3,d3),(f,e,x,y),[],[]) (by exact tF) rfl ⟨by dsimp only [List.length_nil];omega,by unfold isFilm;rw [hsh];rfl,fun g hg =>by simp at hg,hf,lf,by dsimp only;omega,by dsimp only;simp,I1⟩ ?_
 rintro⟨k,T,⟨p4,d4⟩,⟨f,e,x,y⟩,fs,R⟩ F hF ⟨hk,hI,lF,hf,lf,w3,w4,I⟩
 dsimp only at hF hk hI lF hf lf w3 w4 I ⊢
 (simp only [List.cons_append,List.nil_append,↓fget_cons,fkeep_cons,fkeep_nil,Nat.reduceEqDiff,reduceIte] at hF;subst hF)
 have pv3 :=PtAt.whole I.v3
 have pv4 :=PtAt.whole I.v4
 obtain⟨r1,r2⟩ :=I.sh
 obtain⟨r3,r4,r5⟩ :=I.fl
 have hRl :=I.flm.flds.len
 obtain⟨_,e1,e2,e3⟩ :=isField_len hf
 have l1 :f.e.length ≤ 1048576 :=by omega
 have l2 :f.x.length ≤ 1048576 :=by omega
 have l3 :f.y.length ≤ 1048576 :=by omega
 cases k with
 | zero =>
  repeat' (first | refine ff ?_ | ((first | refine sR ?_ ?_ | refine sC ?_ ?_) <;> (intro hb;(try rw [hb]);(try simp only [bb] at hb);(try (exfalso;first | omega | exact hb trivial)))) | (apply endS trivial;rotate_left;(· exact eva);(· rfl);try refine⟨?_,rfl⟩) | fail)
  refine EvR.stVx (b :=σ.length+0) (H :=T++[]) (by rw [List.append_nil];exact I.v2) rfl rfl rfl (by simp) (by rfl) ?_
  refine EvR.base fun V hV =>?_
  have hV2 :V=T.set σ.length ⟨[.int .i64 W,.int .i64 H,.bool wr,slV s sp.length,slV l lo.length,slV tn fs.length],0,true⟩ :=by rw [hV,List.append_nil];rfl
  obtain⟨g1,g2⟩ :=I.fin [.int .i64 W,.int .i64 H,.bool wr,slV s sp.length,slV l lo.length,slV tn fs.length]
  have g3 :=I.len
  have pv2 :PtAt V (σ.length+0) 0 [.int .i64 W,.int .i64 H,.bool wr,slV s sp.length,slV l lo.length,slV tn fs.length] :=PtAt.whole (r :=true) (by rw [hV2];exact List.getElem?_set_self (List.getElem?_eq_some_iff.1 I.v2).1)
  have g4 :V.length=T.length :=by rw [hV2,List.length_set]
  rw [← hV2] at g1 g2
  clear hV hV2 pv3 pv4 I
  refine EvR.nrm ?_
  repeat' (first | refine ff ?_ | ((first | refine sR ?_ ?_ | refine sC ?_ ?_) <;> (intro hb;(try rw [hb]);(try simp only [bb] at hb);(try (exfalso;first | omega | exact hb trivial)))) | (apply endS trivial;rotate_left;(· exact eva);(· rfl);try refine⟨?_,rfl⟩) | fail)
  apply atEnd_ret
  ·show aLoadN (V++[]) 6 (.pointer (some ⟨σ.length+0,0,none⟩))=some _
   exact pv2.loadNR (l :=[]) rfl (by omega)
  ·exact⟨W,H,wr,sp,lo,fs,s,l,tn,R,p4,d4,hI,by omega,lF,w1,w2,rfl,by rw [List.append_nil];exact g1,by rw [List.append_nil];omega,by rw [List.append_nil];exact g2⟩
 | succ k =>
  repeat' (first | refine ff ?_ | ((first | refine sR ?_ ?_ | refine sC ?_ ?_) <;> (intro hb;(try rw [hb]);(try simp only [bb] at hb);(try (exfalso;first | omega | exact hb trivial)))) | (apply endS trivial;rotate_left;(· exact eva);(· rfl);try refine⟨?_,rfl⟩) | fail)
  (apply EvR.aCall h4.at_;(· exact eva);(· exact  h4.ok _ t4 _ _ _ f.e f.x f.y (pv4.ext _) ⟨r3.ext _,r4.ext _,r5.ext _⟩ l1 l2 l3);(rintro _ _ ⟨rfl,rfl⟩;refine EvR.nrm ?_))
  repeat' (first | refine ff ?_ | ((first | refine sR ?_ ?_ | refine sC ?_ ?_) <;> (intro hb;(try rw [hb]);(try simp only [bb] at hb);(try (exfalso;first | omega | exact hb trivial)))) | (apply endS trivial;rotate_left;(· exact eva);(· rfl);try refine⟨?_,rfl⟩) | fail)
  refine EvR.ap3O (τ :=T) (b :=tn) (j :=3) (m :=fs.length) I.flm.row (by rw [List.length_map];exact hRl) rfl rfl rfl (by omega) rfl rfl rfl ?_
  repeat' (first | refine ff ?_ | ((first | refine sR ?_ ?_ | refine sC ?_ ?_) <;> (intro hb;(try rw [hb]);(try simp only [bb] at hb);(try (exfalso;first | omega | exact hb trivial)))) | (apply endS trivial;rotate_left;(· exact eva);(· rfl);try refine⟨?_,rfl⟩) | fail)
  refine EvR.stvx (b :=tn+1) (off :=5) (by rw [List.getElem?_set_ne (by omega)];exact I.v3) (by simp) rfl rfl rfl rfl rfl ?_
  refine EvR.base fun V hV =>?_
  have J :=I.push [⟨[slV (T.length+0) f.e.length,slV (T.length+1) f.x.length,slV (T.length+2) f.y.length],3,true⟩]
  have hV2 :V=(T.set tn ⟨R.map slOf++[slV T.length f.e.length,slV (T.length+1) f.x.length,slV (T.length+2) f.y.length],3,true⟩).set (tn+1) ⟨[.int .i64 W,.int .i64 H,.bool wr,slV s sp.length,slV l lo.length,slV tn (fs.length+1)],0,true⟩++(rowO f.e::rowO f.x::rowO f.y::[⟨[slV (T.length+0) f.e.length,slV (T.length+1) f.x.length,slV (T.length+2) f.y.length],3,true⟩]) :=by rw [hV];rfl
  rw [← hV2] at J
  have hI1 :isFilm W H wr sp lo (fs++[f])=true :=isFilm_snoc hI hf (by omega)
  have lF1 :lowF (fs++[f]) :=fun g hg =>by
   rcases List.mem_append.1 hg with hg | hg
   ·exact lF g hg
   ·rw [List.mem_singleton.1 hg];exact lf
  have hl1 :(fs++[f]).length=fs.length+1 :=by simp
  generalize fs++[f]=fs1 at *
  generalize R++[(T.length,f.e),(T.length+1,f.x),(T.length+2,f.y)]=R1 at *
  clear hV hV2 I pv3 pv4 r1 r2 r3 r4 r5 hRl
  refine EvR.nrm ?_
  repeat' (first | refine ff ?_ | ((first | refine sR ?_ ?_ | refine sC ?_ ?_) <;> (intro hb;(try rw [hb]);(try simp only [bb] at hb);(try (exfalso;first | omega | exact hb trivial)))) | (apply endS trivial;rotate_left;(· exact eva);(· rfl);try refine⟨?_,rfl⟩) | fail)
  apply EvR.aCall h5.at_;(· exact eva);(· exact h5.ok _ b cv code p4 d4 2 ((J.src hs).ext _) (by omega) (by omega) hc (by omega) (by omega))
  rintro _ _ ⟨tt,p5,d5,v0,v1,rfl,rfl⟩
  refine EvR.base fun V2 hV2 =>?_
  have J2 :=J.draw hblt p5 d5
  rw [List.append_nil] at hV2
  rw [← hV2] at J2
  clear hV2 J
  have pv3 :=PtAt.whole J2.v3
  have pv4 :=PtAt.whole J2.v4
  obtain⟨r1,r2⟩ :=J2.sh
  obtain⟨r3,r4,r5⟩ :=J2.fl
  refine EvR.nrm ?_
  cases tt
  ·repeat' (first | refine ff ?_ | ((first | refine sR ?_ ?_ | refine sC ?_ ?_) <;> (intro hb;(try rw [hb]);(try simp only [bb] at hb);(try (exfalso;first | omega | exact hb trivial)))) | (apply endS trivial;rotate_left;(· exact eva);(· rfl);try refine⟨?_,rfl⟩) | fail)
   apply EvR.aCall h2.at_;(· exact eva);(· exact h2.ok _ b (tn+1) 0 cv code p5 d5 W H wr _ _ sp lo ((J2.src hs).ext _) (PtAt.part (by rw [List.append_nil];exact J2.v3) 0 _ rfl) ⟨r1.ext _,r2.ext _⟩ hsh (by omega) (by omega) hc)
   rintro _ _ ⟨f',e',x',y',p6,d6,rub6,hf',lf',v2,v3,rfl,rfl,hN'⟩
   rw [List.append_nil] at hN' ⊢
   have J3 :=(J2.draw hblt p6 d6).ext rub6
   have hle3 :=J2.len
   have elo :=hN'.elo
   have ex :=hN'.ex
   have xy :=hN'.xy
   have J4 :=J3.put hN'.e_ hN'.x_ hN'.y_ (by omega) (by omega) (by omega)
   clear pv3 pv4 r1 r2 r3 r4 r5
   refine EvR.stVx (b :=t4) J3.v4 rfl rfl rfl (by simp) (by rfl) ?_
   refine EvR.base fun V4 hV4 =>?_
   have hV5 :V4=(V2.set b (srcO cv p6 d6)++rub6).set t4 ⟨[slV e' f'.e.length,slV x' f'.x.length,slV y' f'.y.length],0,true⟩ :=by rw [hV4];rfl
   rw [← hV5] at J4
   clear hV4 hV5 J3 J2 hN'
   refine EvR.nrm ?_
   repeat' (first | refine ff ?_ | ((first | refine sR ?_ ?_ | refine sC ?_ ?_) <;> (intro hb;(try rw [hb]);(try simp only [bb] at hb);(try (exfalso;first | omega | exact hb trivial)))) | (apply endS trivial;rotate_left;(· exact eva);(· rfl);try refine⟨?_,rfl⟩) | fail)
   exact⟨(k,V4,(p6,d6),(f',e',x',y'),fs1,R1),by dsimp only;omega,by first | (rw [show ((k+1 :Nat) :Int) - 1=(k :Int) from by omega];exact tF) | (rw [show (k :Int)+1 - 1=(k :Int) from by omega];exact tF),rfl,by dsimp only;omega,hI1,lF1,hf',lf',by dsimp only;omega,by dsimp only;omega,J4⟩
  ·repeat' (first | refine ff ?_ | ((first | refine sR ?_ ?_ | refine sC ?_ ?_) <;> (intro hb;(try rw [hb]);(try simp only [bb] at hb);(try (exfalso;first | omega | exact hb trivial)))) | (apply endS trivial;rotate_left;(· exact eva);(· rfl);try refine⟨?_,rfl⟩) | fail)
   (apply EvR.aCall h6.at_;(· exact eva);(· exact  h6.ok _ (tn+1) 0 t4 W H wr _ _ _ _ _ (W * H) sp lo f.e f.x f.y (PtAt.part (by rw [List.append_nil];exact J2.v3) 0 _ rfl) (PtAt.whole (by rw [List.append_nil];exact J2.v4)) ⟨r1.ext _,r2.ext _⟩ ⟨r3.ext _,r4.ext _,r5.ext _⟩ (by omega) (by omega) (by omega) (by omega) rfl (by omega) (by omega) (by omega) (by omega) (by omega));(rintro _ _ ⟨rfl,rfl⟩;refine EvR.nrm ?_))
   obtain⟨g,hg⟩ :∃ g,g=stepF W H wr sp lo f :=⟨_,rfl⟩
   have hle3 :=J2.len
   have J3 :=J2.ext [rowO g.e,rowO g.x,rowO g.y]
   have J4 :=J3.put (f' :=g) (e' :=V2.length+0) (x' :=V2.length+1) (y' :=V2.length+2) (hget _ _ 0) (hget _ _ 1) (hget _ _ 2) (by omega) (by omega) (by omega)
   obtain⟨n1,n2,n3⟩ :lenF (W * H) g :=by rw [hg];exact stepF_len ⟨by omega,by omega,by omega⟩
   have ge :stepE W H wr sp lo f.e (halfX W H wr f.e f.x) (halfY W H wr f.e f.y)=g.e :=by rw [hg];rfl
   have gx :halfX W H wr f.e f.x=g.x :=by rw [hg];rfl
   have gy :halfY W H wr f.e f.y=g.y :=by rw [hg];rfl
   have hf' :isField W H wr sp lo g.e g.x g.y=true :=by rw [hg];exact stepF_field hf
   have lf' :lowF1 g :=by rw [hg];exact stepF_low lf
   rw [ge,gx,gy]
   clear pv3 pv4 r1 r2 r3 r4 r5 hg ge gx gy
   refine EvR.stVx (b :=t4) J3.v4 rfl rfl rfl (by simp) (by rfl) ?_
   refine EvR.base fun V4 hV4 =>?_
   have hV5 :V4=(V2++[rowO g.e,rowO g.x,rowO g.y]).set t4 ⟨[slV (V2.length+0) g.e.length,slV (V2.length+1) g.x.length,slV (V2.length+2) g.y.length],0,true⟩ :=by rw [hV4,n1,n2,n3];rfl
   rw [← hV5] at J4
   clear hV4 hV5 J3 J2
   refine EvR.nrm ?_
   repeat' (first | refine ff ?_ | ((first | refine sR ?_ ?_ | refine sC ?_ ?_) <;> (intro hb;(try rw [hb]);(try simp only [bb] at hb);(try (exfalso;first | omega | exact hb trivial)))) | (apply endS trivial;rotate_left;(· exact eva);(· rfl);try refine⟨?_,rfl⟩) | fail)
   exact⟨(k,V4,(p5,d5),(g,V2.length+0,V2.length+1,V2.length+2),fs1,R1),by dsimp only;omega,by first | (rw [show ((k+1 :Nat) :Int) - 1=(k :Int) from by omega];exact tF) | (rw [show (k :Int)+1 - 1=(k :Int) from by omega];exact tF),rfl,by dsimp only;omega,hI1,lF1,hf',lf',by dsimp only;omega,by dsimp only;omega,J4⟩
end Go.Abs
