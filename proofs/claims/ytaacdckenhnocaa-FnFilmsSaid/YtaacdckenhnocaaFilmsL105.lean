/- Plain law: films of bytes, and heaps while they are recovered. No condition beyond those written. -/
import Derived.Test.YtaacdckenhnocaaFilmsL104
import Derived.Test.YtaacdckenhnocaaFilmsL99
import Derived.Test.YtaacdckenhnocaaFilmsL78
import Derived.Test.YtaacdckenhnocaaFilmsL69
namespace Go.Abs
set_option linter.unusedSimpArgs false
set_option linter.unusedVariables false
set_option maxHeartbeats 8000000
def fldOf (N :Nat)(now :List Nat) :Fld :=⟨now.take N,(now.take (2 * N)).drop N,now.drop (2 * N)⟩
def recF (W H :Nat)(wr :Bool)(sp lo :List Nat)(N :Nat)(s :List UInt8) :Nat→List Nat→Nat→List Fld→List Fld × Nat
 | 0,_,p,fs =>(fs,p)
 | k+1,last,p,fs =>
  match frAt last s p with
  | none =>(fs,p)
  | some now =>if isField W H wr sp lo (fldOf N now).e (fldOf N now).x (fldOf N now).y=true then recF W H wr sp lo N s k now (frEnd s p+2) (fs++[fldOf N now]) else (fs,p)
def rcOk (s :List UInt8) :Bool :=ahOk s && decide (s.length ≤ 65536)
def rcAll (s :List UInt8) :List Fld × Nat :=recF (byAt s 4) (byAt s 5) (shWr s) (shSp s) (shLo s) (shN s) s 16 (List.replicate (3 * shN s) 0) (shEnd s) []
theorem recF_none {W H :Nat}{wr :Bool}{sp lo :List Nat}{N :Nat}{s :List UInt8}{k p :Nat}{last :List Nat}{fs :List Fld}(h :frAt last s p=none) :recF W H wr sp lo N s k last p fs=(fs,p) :=by
 cases k with
 | zero =>rfl
 | succ k =>unfold recF;rw [h]
theorem recF_bad {W H :Nat}{wr :Bool}{sp lo :List Nat}{N :Nat}{s :List UInt8}{k p :Nat}{last now :List Nat}{fs :List Fld}(h :frAt last s p=some now)(hf :isField W H wr sp lo (fldOf N now).e (fldOf N now).x (fldOf N now).y=false) :recF W H wr sp lo N s k last p fs=(fs,p) :=by
 cases k with
 | zero =>rfl
 | succ k =>unfold recF;rw [h];simp [hf]
theorem recF_step {W H :Nat}{wr :Bool}{sp lo :List Nat}{N :Nat}{s :List UInt8}{k p :Nat}{last now :List Nat}{fs :List Fld}(h :frAt last s p=some now)(hf :isField W H wr sp lo (fldOf N now).e (fldOf N now).x (fldOf N now).y=true) :recF W H wr sp lo N s (k+1) last p fs=recF W H wr sp lo N s k now (frEnd s p+2) (fs++[fldOf N now]) :=by
 rw [recF,h];simp [hf]
theorem frAt_some {last now :List Nat}{s :List UInt8}{p :Nat}(h :frAt last s p=some now) :now.length=last.length∧(lows last→lows now)∧p+4 ≤ s.length∧frEnd s p+2 ≤ s.length :=by
 unfold frAt at h
 split at h
 ·rename_i h1
  cases hA :acOk last (frCh s p) with
  | none =>rw [hA] at h;cases h
  | some w =>
   rw [hA] at h
   simp only [frOf] at h
   split at h
   ·simp only [Option.some.injEq] at h;subst h;exact⟨acOk_len4 hA,fun hl =>acOk_lows hl hA,h1.1,h1.2⟩
   ·cases h
 ·cases h
theorem fldOf_lens {N :Nat}{now :List Nat}(h :now.length=3 * N) :(fldOf N now).e.length=N∧(fldOf N now).x.length=N∧(fldOf N now).y.length=N :=by
 unfold fldOf
 simp only [List.length_take,List.length_drop]
 omega
section
variable {C :Ctab} {F :Frame} {τ l :Heap}
theorem EvR.stV5 {Q}{n m :Nat}{rest :List SOper}{x y :Operand}{b o :Nat}{v :Value}{cells :List Value}{H :Heap}(h2 :H[b]? = some ⟨cells,0,true⟩)(h1 :eval F x = .pointer (some ⟨b,o,none⟩))(h3 :eval F y=v)(hm :v.cells.toList.length=m)(ho :o+m ≤ cells.length)(hv :v.cells.toList.all cellOk=true)
 (h :EvR C rest F (H.set b ⟨splice cells o v.cells.toList,0,true⟩) Q) :EvR C (⟨none,none,.store m x y,n⟩::rest) F H Q :=by
 refine EvR.opN (v :=undef) (σ' :=H.set b ⟨splice cells o v.cells.toList,0,true⟩) ?_ h
 subst hm
 have :aStore H v.cells.toList.length (.pointer (some ⟨b,o,none⟩)) v=some (H.set b ⟨splice cells o v.cells.toList,0,true⟩) :=by
  simp only [aStore,h2]
  rw [if_pos (by rw [hv,decide_eq_true ho,Nat.beq_refl];rfl)]
 simp only [evOp,h1,h3,this,Option.map_some]
theorem EvR.stv5 {Q}{n b off :Nat}{rest :List SOper}{x y :Operand}{v :Value}{cells cells' :List Value}(h2 :τ[b]? = some ⟨cells,0,true⟩)(ho :off < cells.length)(h1 :eval F x = .pointer (some ⟨b,off,none⟩))(h3 :eval F y=v)(hv :cellOk v=true)(hc :v.cells = #[v])(h4 :cells.set off v=cells')
 (h :EvR C rest F (τ.set b ⟨cells',0,true⟩++l) Q) :EvR C (⟨none,none,.store 1 x y,n⟩::rest) F (τ++l) Q :=by
 subst h4
 have hlt :=(List.getElem?_eq_some_iff.1 h2).1
 have e :(τ++l)[b]? = some ⟨cells,0,true⟩ :=by rw [List.getElem?_append_left hlt];exact h2
 refine EvR.opN (v :=undef) (σ' :=τ.set b ⟨cells.set off v,0,true⟩++l) ?_ h
 have hs :splice cells off [v]=cells.set off v :=by
  unfold splice
  rw [List.set_eq_take_append_cons_drop,if_pos ho]
  simp
 simp only [evOp,h1,h3,aStore,e,hc]
 rw [if_pos (by simp [ptrOk,hv];omega)]
 simp only [hs,Option.map_some]
 rw [List.set_append_left _ _ hlt]
end
theorem EvR.ap3o5 {C :Ctab}{F :Frame}{τ l :Heap} {Q}{d n b j m :Nat}{rest :List SOper}{x y :Operand}{a b' c :Value}{cells :List Value}{r :Bool}(h2 :τ[b]? = some ⟨cells,3,true⟩)(h3 :cells.length=m * 3)(h1 :eval F x = .slice (some ⟨b,0,none⟩) m m)
 (h4 :eval F y = .slice (some ⟨τ.length+j,0,none⟩) 1 1) (h5 :l[j]? = some ⟨[a,b',c],3,r⟩) (hm :m ≤ 1048576) (ha :cellOk a=true) (hb :cellOk b'=true) (hc :cellOk c=true)
 (h :EvR C rest ((d,.slice (some ⟨b,0,none⟩) (m+1) (m+1))::F) (τ.set b ⟨cells++[a,b',c],3,true⟩++l) Q) :EvR C (⟨some d,none,.append 3 72 x y,n⟩::rest) F (τ++l) Q :=by
 have hlt :=(List.getElem?_eq_some_iff.1 h2).1
 have hrow :rowAt (τ++l) 3 ⟨b,0,none⟩ m=some ⟨cells,3,true⟩ :=rowAt_mk (by rw [List.getElem?_append_left hlt];exact h2) rfl (by simp [h3]) (by omega)
 have hx :appCells (τ++l) 3 (.slice (some ⟨τ.length+j,0,none⟩) 1 1)=some ([a,b',c],1) :=by
  have hrow :Row (τ++l) 3 (.slice (some ⟨τ.length+j,0,none⟩) 1 1) 1 [a,b',c] :=Row.own h5 (by omega) rfl
  simp only [appCells,hrow.cells,Option.map_some]
 have h44 :(2 :Nat) ^ 44=17592186044416 :=by decide
 refine EvR.opS (σ' :=τ.set b ⟨cells++[a,b',c],3,true⟩++l) ?_ h
 simp only [evOp,h1,h4,aAppend,hx,hrow]
 rw [if_pos ⟨trivial,trivial,trivial,by omega,by omega,by simp [ha,hb,hc]⟩,List.set_append_left _ _ hlt]
structure RcI (σ :Heap)(W H :Nat)(wr :Bool)(sp lo :List Nat)(t2 t5 t8 s l :Nat)(τ :Heap)(q :Nat)(last :List Nat)(fv :Value) :Prop where
 top :τ.take σ.length=σ
 len :σ.length ≤ τ.length
 v2 :τ[t2]? = some ⟨[.int .i64 0,.int .i64 0,.bool false,.slice none 0 0,.slice none 0 0,.slice none 0 0],0,true⟩
 v5 :τ[t5]? = some ⟨[.int .i64 W,.int .i64 H,.bool wr,slV s sp.length,slV l lo.length],0,true⟩
 v8 :τ[t8]? = some ⟨[.int .i64 W,.int .i64 H,.bool wr,slV s sp.length,slV l lo.length,fv],0,true⟩
 rs :τ[s]? = some (rowO sp)
 rl :τ[l]? = some (rowO lo)
 lst :τ[q]? = some (rowO last)
 o2 :σ.length ≤ t2
 o5 :σ.length ≤ t5
 o8 :σ.length ≤ t8
 os :σ.length ≤ s
 sl :s < l
 n28 :t2 ≠ t8
theorem nes {τ :Heap}{a b :Nat}{x y :AObj}(h1 :τ[a]? = some x)(h2 :τ[b]? = some y)(h :x.esz ≠ y.esz∨x.cells.length ≠ y.cells.length) :a ≠ b :=by
 rintro rfl;rw [h1] at h2;cases h2;rcases h with h | h <;> exact h rfl
theorem FilmO.notIn2 {H :Heap}{lo s l b t :Nat}{R :Rws}{sp ls :List Nat}{fs :List Fld}{x :AObj}(h :FilmO H lo s l b R sp ls fs)(ht :H[t]? = some x)(hx :x.esz=0) :t ≠ b∧t ∉ ((s,sp)::(l,ls)::R).map Prod.fst :=by
 refine⟨nes ht h.row (.inl (by rw [hx];simp)),fun hc =>?_⟩
 obtain⟨p,hp,rfl⟩ :=List.mem_map.1 hc
 exact nes ht (h.inv.own p hp) (.inl (by rw [hx];simp)) rfl
section
variable {σ :Heap} {W H :Nat} {wr :Bool} {sp lo :List Nat} {t2 t5 t8 s l :Nat} {τ :Heap} {q :Nat} {last :List Nat} {fv :Value}
theorem RcI.ext (h :RcI σ W H wr sp lo t2 t5 t8 s l τ q last fv)(t :Heap) :RcI σ W H wr sp lo t2 t5 t8 s l (τ++t) q last fv :=by
 have g :∀ {o :Nat} {z :AObj},τ[o]? = some z→(τ++t)[o]? = some z :=fun hz =>by rw [List.getElem?_append_left (List.getElem?_eq_some_iff.1 hz).1];exact hz
 exact⟨by rw [List.take_append_of_le_length h.len];exact h.top,by have :=h.len;simp only [List.length_append];omega,g h.v2,g h.v5,g h.v8,g h.rs,g h.rl,g h.lst,h.o2,h.o5,h.o8,h.os,h.sl,h.n28⟩
theorem RcI.next (h :RcI σ W H wr sp lo t2 t5 t8 s l τ q last fv){q' :Nat}{last' :List Nat}(hq :τ[q']? = some (rowO last')) :RcI σ W H wr sp lo t2 t5 t8 s l τ q' last' fv :=
 ⟨h.top,h.len,h.v2,h.v5,h.v8,h.rs,h.rl,hq,h.o2,h.o5,h.o8,h.os,h.sl,h.n28⟩
theorem RcI.set8 (h :RcI σ W H wr sp lo t2 t5 t8 s l τ q last fv)(fv' :Value) :RcI σ W H wr sp lo t2 t5 t8 s l (τ.set t8 ⟨[.int .i64 W,.int .i64 H,.bool wr,slV s sp.length,slV l lo.length,fv'],0,true⟩) q last fv' :=by
 have g :∀ {o :Nat} {z :AObj},o ≠ t8→τ[o]? = some z→(τ.set t8 ⟨[.int .i64 W,.int .i64 H,.bool wr,slV s sp.length,slV l lo.length,fv'],0,true⟩)[o]? = some z :=fun ho hz =>by rw [List.getElem?_set_ne (Ne.symm ho)];exact hz
 have kr :∀ {o :Nat} {z :List Nat},τ[o]? = some (rowO z)→o ≠ t8 :=fun hz =>nes hz h.v8 (.inl (by simp))
 exact⟨by rw [List.take_set_of_le h.o8];exact h.top,by rw [List.length_set];exact h.len,g h.n28 h.v2,g (nes h.v5 h.v8 (.inr (by simp))) h.v5,List.getElem?_set_self (List.getElem?_eq_some_iff.1 h.v8).1,g (kr h.rs) h.rs,g (kr h.rl) h.rl,g (kr h.lst) h.lst,h.o2,h.o5,h.o8,h.os,h.sl,h.n28⟩
theorem RcI.setRow (h :RcI σ W H wr sp lo t2 t5 t8 s l τ q last fv){b :Nat}{cs :List Value}{r :Bool}(hb :τ[b]? = some ⟨cs,3,r⟩)(ho :σ.length ≤ b)(X :AObj) :RcI σ W H wr sp lo t2 t5 t8 s l (τ.set b X) q last fv :=by
 have g :∀ {o :Nat} {z :AObj},z.esz ≠ 3→τ[o]? = some z→(τ.set b X)[o]? = some z :=fun hz h1 =>by rw [List.getElem?_set_ne (Ne.symm (nes h1 hb (.inl hz)))];exact h1
 exact⟨by rw [List.take_set_of_le ho];exact h.top,by rw [List.length_set];exact h.len,g (by simp) h.v2,g (by simp) h.v5,g (by simp) h.v8,g (by simp) h.rs,g (by simp) h.rl,g (by simp) h.lst,h.o2,h.o5,h.o8,h.os,h.sl,h.n28⟩
theorem RcI.sh (h :RcI σ W H wr sp lo t2 t5 t8 s l τ q last fv) :ShR τ (slV s sp.length) (slV l lo.length) sp lo :=
 ⟨Row.whole h.rs (by omega) (by rw [f32s_length];omega),Row.whole h.rl (by omega) (by rw [f32s_length];omega)⟩
theorem RcI.lr (h :RcI σ W H wr sp lo t2 t5 t8 s l τ q last fv) :Row τ 1 (slV q last.length) last.length (f32s last) :=Row.whole h.lst (by omega) (by rw [f32s_length];omega)
end
section
variable {H :Heap} {lo s l b :Nat} {R :Rws} {sp ls :List Nat} {fs :List Fld}
theorem FilmO.set0 (h :FilmO H lo s l b R sp ls fs){t :Nat}{x X :AObj}(ht :H[t]? = some x)(hx :x.esz=0) :FilmO (H.set t X) lo s l b R sp ls fs :=by
 obtain⟨q1,q2⟩ :=h.notIn2 ht hx
 exact⟨by rw [List.getElem?_set_ne q1];exact h.row,h.inv.setOut q2 fun o ho _ =>List.getElem?_set_ne (Ne.symm ho),h.con,h.bl,h.bn⟩
theorem FilmO.snoc (h :FilmO H lo s l b R sp ls fs)(hlo :lo ≤ H.length)(f :Fld)(Z :Heap) :FilmO (H.set b ⟨R.map slOf++[slV H.length f.e.length,slV (H.length+1) f.x.length,slV (H.length+2) f.y.length],3,true⟩++(rowO f.e::rowO f.x::rowO f.y::Z)) lo s l b (R++[(H.length,f.e),(H.length+1,f.x),(H.length+2,f.y)]) sp ls (fs++[f]) :=by
 obtain⟨X,hX⟩ :∃ X,X=(⟨R.map slOf++[slV H.length f.e.length,slV (H.length+1) f.x.length,slV (H.length+2) f.y.length],3,true⟩ :AObj) :=⟨_,rfl⟩
 rw [← hX]
 have lb :=(List.getElem?_eq_some_iff.1 h.row).1
 have L :(H.set b X).length=H.length :=List.length_set
 have i0 :RInv (H.set b X) lo ((s,sp)::(l,ls)::R) :=h.inv.setOut (by have :=h.bn;simpa using this) fun o ho _ =>List.getElem?_set_ne (Ne.symm ho)
 have i1 :=i0.snoc3 (by rw [L];exact hlo) f Z
 rw [L] at i1
 refine⟨?_,i1,by rw [List.map_append,h.con,rowsOf_append];rfl,h.bl,?_⟩
 ·rw [List.getElem?_append_left (by rw [L];exact lb),List.getElem?_set_self lb,hX,List.map_append];rfl
 ·have hb :=h.bn
  simp only [List.mem_cons,not_or,List.map_append,List.mem_append,List.map_cons,List.map_nil] at hb ⊢
  refine⟨hb.1,hb.2.1,hb.2.2,by omega,by omega,by omega,by simp⟩
theorem filmO_new {H :Heap}{lo s l :Nat}{sp ls :List Nat}(hs :H[s]? = some (rowO sp))(hl :H[l]? = some (rowO ls))(h1 :lo ≤ s)(h2 :s < l)(f :Fld)(Y Y2 :AObj)(Z :Heap) :FilmO (H++(rowO f.e::rowO f.x::rowO f.y::Y::Y2::⟨[slV H.length f.e.length,slV (H.length+1) f.x.length,slV (H.length+2) f.y.length],3,true⟩::Z)) lo s l (H.length+5) [(H.length,f.e),(H.length+1,f.x),(H.length+2,f.y)] sp ls [f] :=by
 have ls_ :=(List.getElem?_eq_some_iff.1 hs).1
 have ll_ :=(List.getElem?_eq_some_iff.1 hl).1
 refine⟨hget _ _ 5,⟨fun p hp =>?_,fun p hp =>?_,?_⟩,rfl,by omega,?_⟩
 ·simp only [List.mem_cons,List.not_mem_nil,or_false] at hp
  rcases hp with rfl | rfl | rfl | rfl | rfl
  ·dsimp only;rw [List.getElem?_append_left ls_];exact hs
  ·dsimp only;rw [List.getElem?_append_left ll_];exact hl
  ·exact hget _ _ 0
  ·exact hget _ _ 1
  ·exact hget _ _ 2
 ·simp only [List.mem_cons,List.not_mem_nil,or_false] at hp
  rcases hp with rfl | rfl | rfl | rfl | rfl <;> dsimp only <;> omega
 ·simp only [List.map_cons,List.map_nil,List.nodup_cons,List.mem_cons,List.not_mem_nil,or_false,not_or,not_false_eq_true,List.nodup_nil,and_true]
  omega
 ·simp only [List.map_cons,List.map_nil,List.mem_cons,List.not_mem_nil,or_false,not_or]
  omega
end
def FlsA (H :Heap)(lo s l :Nat)(sp ls :List Nat)(fv :Value)(fb :Nat)(R :Rws)(fs :List Fld) :Prop :=
 (fs=[]∧fv = .slice none 0 0)∨(fs ≠ []∧fv=slV fb fs.length∧FilmO H lo s l fb R sp ls fs)
structure FmRes3 (nil ok :Bool)(σ σ' :Heap)(v :Value)(w h :Int)(wr :Bool)(sp lo :List Nat)(gs :List Fld)(n :Nat) :Prop where
 t :ok=true→(nil=false∨gs ≠ []) → ∃ τ s l b R,σ'=σ++τ∧v = .tuple #[fmV w h wr (slV s sp.length) (slV l lo.length) (slV b gs.length),.int .i64 n,.bool true]∧FilmO σ' σ.length s l b R sp lo gs
 n :ok=true→nil=true→gs=[] → ∃ τ s l,σ'=σ++τ∧v = .tuple #[fmV w h wr (slV s sp.length) (slV l lo.length) (.slice none 0 0),.int .i64 n,.bool true]∧FilmN σ' σ.length s l sp lo
 f :ok=false→(∃ τ,σ'=σ++τ) ∧ ∃ fm,v = .tuple #[fm,.int .i64 0,.bool false]∧(nil=true→fm=noFilm)∧(nil=false → ∃ (w h :Int) (wr :Bool) (sv lv :Value) (fb :Nat) (xs ys :List Nat) (H :Heap),fm=fmV w h wr sv lv (slV fb 0)∧ShR H sv lv xs ys)
structure FmR3N (ok :Bool)(σ σ' :Heap)(v :Value)(w h :Int)(wr :Bool)(sp lo :List Nat)(gs :List Fld)(n :Nat) :Prop where
 t :ok=true→gs ≠ [] → ∃ τ s l b R,σ'=σ++τ∧v = .tuple #[fmV w h wr (slV s sp.length) (slV l lo.length) (slV b gs.length),.int .i64 n,.bool true]∧FilmO σ' σ.length s l b R sp lo gs
 n :ok=true→gs=[] → ∃ τ s l,σ'=σ++τ∧v = .tuple #[fmV w h wr (slV s sp.length) (slV l lo.length) (.slice none 0 0),.int .i64 n,.bool true]∧FilmN σ' σ.length s l sp lo
 f :ok=false→(∃ τ,σ'=σ++τ)∧v = .tuple #[noFilm,.int .i64 0,.bool false]
theorem FmRes3.toN {ok :Bool}{σ σ' :Heap}{v :Value}{w h :Int}{wr :Bool}{sp lo :List Nat}{gs :List Fld}{n :Nat}(hr :FmRes3 true ok σ σ' v w h wr sp lo gs n) :FmR3N ok σ σ' v w h wr sp lo gs n :=
 ⟨fun h1 h2 =>hr.t h1 (.inr h2),fun h1 h2 =>hr.n h1 rfl h2,fun h1 =>by
  obtain⟨h2,fm,h3,h4,_⟩ :=hr.f h1
  exact⟨h2,by rw [h3,h4 rfl]⟩⟩
end Go.Abs
