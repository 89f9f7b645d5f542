/- Laws of functions, some texts put together. Conditions: the laws of what they call. -/
import Derived.Test.YtaacdckenhnocaaFilmsL61
import Derived.Test.YtaacdckenhnocaaFilmsL07
import Derived.Test.YtaacdckenhnocaaFilmsL12
namespace Go.Abs
set_option linter.unusedSimpArgs false
set_option linter.unusedVariables false
set_option maxHeartbeats 8000000
set_option maxRecDepth 20000
def markH :Heap→Int→Rws→Heap
 | σ,_,[] =>σ
 | σ,k,p::R =>markH (σ.set p.1 (rowO (marks k p.2.length))) (k+p.2.length) R
def markR :Int→Rws→Rws
 | _,[] =>[]
 | k,p::R =>(p.1,marks k p.2.length)::markR (k+p.2.length) R
theorem markH_len :∀ (R :Rws)(σ :Heap)(k :Int),(markH σ k R).length=σ.length
 | [],σ,k =>rfl
 | p::R,σ,k =>by unfold markH;rw [markH_len R,List.length_set]
theorem markH_out :∀ {R :Rws}{σ :Heap}{k :Int}{o :Nat},o ∉ R.map Prod.fst→(markH σ k R)[o]? = σ[o]?
 | [],σ,k,o,_ =>rfl
 | p::R,σ,k,o,h =>by
  simp only [List.map_cons,List.mem_cons,not_or] at h
  unfold markH
  rw [markH_out h.2,List.getElem?_set_ne (Ne.symm h.1)]
theorem markR_fst :∀ (R :Rws)(k :Int),(markR k R).map Prod.fst=R.map Prod.fst
 | [],k =>rfl
 | p::R,k =>by unfold markR;simp only [List.map_cons,markR_fst R]
theorem markH_in :∀ {R :Rws}{σ :Heap}{k :Int},(∀ p ∈ R,p.1 < σ.length)→(R.map Prod.fst).Nodup → ∀ p ∈ markR k R,(markH σ k R)[p.1]? = some (rowO p.2)
 | [],σ,k,_,_,p,hp =>by simp [markR] at hp
 | q::R,σ,k,hl,hn,p,hp =>by
  simp only [List.map_cons,List.nodup_cons] at hn
  unfold markR at hp
  unfold markH
  rcases List.mem_cons.1 hp with rfl | hp
  ·rw [markH_out hn.1,List.getElem?_set_self (hl q (by simp))]
  ·exact markH_in (fun r hr =>by rw [List.length_set];exact hl r (by simp [hr])) hn.2 p hp
theorem RInv.mark {H :Heap}{lo :Nat}{R :Rws}(h :RInv H lo R)(k :Int) :RInv (markH H k R) lo (markR k R) :=by
 have hf :=markR_fst R k
 refine⟨markH_in (fun p hp =>h.lt hp) h.nod,fun p hp =>?_,by rw [hf];exact h.nod⟩
 have :p.1 ∈ R.map Prod.fst :=by rw [← hf];exact List.mem_map_of_mem hp
 obtain⟨q,hq,he⟩ :=List.mem_map.1 this
 rw [← he];exact h.low q hq
theorem RInv.other {H :Heap}{lo :Nat}{R S :Rws}(h :RInv H lo R)(hd :∀ p ∈ R,p.1 ∉ S.map Prod.fst)(k :Int) :RInv (markH H k S) lo R :=
 ⟨fun p hp =>by rw [markH_out (hd p hp)];exact h.own p hp,h.low,h.nod⟩
theorem ret_bx {C :Ctab}{S :SFunc}{args :List Value}{σ :Heap}{Q :Value→Heap→Prop}{n :Nat}{rs :List SRes}{body :SCode}(hS :S=⟨n,rs,body⟩)(hn :Nat.ble args.length n=true)
 (h :Ev C body (argFrame 0 args) (σ++[]) (atEnd rs Q)) :Ret (bodyC C S false) args σ Q :=by
 subst hS
 rw [List.append_nil] at h
 exact ret_of_ev (Nat.le_of_ble_eq_true hn) (fun hq =>by cases hq) h
section
variable {C :Ctab} {F :Frame} {τ l :Heap}
end
end Go.Abs
namespace Go.Abs
set_option linter.unusedSimpArgs false
set_option linter.unusedVariables false
set_option maxHeartbeats 8000000
set_option maxRecDepth 20000
abbrev fmV (w h :Int)(wr :Bool)(sv lv fv :Value) :Value :=.agg #[.int .i64 w,.int .i64 h,.bool wr,sv,lv,fv]
abbrev noFilm :Value :=fmV 0 0 false (.slice none 0 0) (.slice none 0 0) (.slice none 0 0)
structure FilmO (H :Heap)(lo s l b :Nat)(R :Rws)(sp ls :List Nat)(fs :List Fld) :Prop where
 row :H[b]? = some ⟨R.map slOf,3,true⟩
 inv :RInv H lo ((s,sp)::(l,ls)::R)
 con :R.map Prod.snd=rowsOf fs
 bl :lo ≤ b
 bn :b ∉ s::l::R.map Prod.fst
section
variable {H :Heap} {lo s l b :Nat} {R :Rws} {sp ls :List Nat} {fs :List Fld}
theorem FilmO.tail (h :FilmO H lo s l b R sp ls fs) :RInv H lo R :=⟨fun p hp =>h.inv.own p (by simp [hp]),fun p hp =>h.inv.low p (by simp [hp]),by
 have :=h.inv.nod
 simp only [List.map_cons,List.nodup_cons] at this
 exact this.2.2⟩
theorem FilmO.flds (h :FilmO H lo s l b R sp ls fs) :FlsO H lo b R fs :=⟨h.row,h.tail,h.con,h.bl,fun hc =>h.bn (by simp only [List.mem_cons];exact .inr (.inr hc))⟩
theorem FilmO.sheet (h :FilmO H lo s l b R sp ls fs) :ShR H (slV s sp.length) (slV l ls.length) sp ls :=
 ⟨Row.whole (h.inv.own (s,sp) (by simp)) (by omega) (by rw [f32s_length];omega),Row.whole (h.inv.own (l,ls) (by simp)) (by omega) (by rw [f32s_length];omega)⟩
theorem FilmO.ext (h :FilmO H lo s l b R sp ls fs)(t :Heap) :FilmO (H++t) lo s l b R sp ls fs :=
 ⟨by rw [List.getElem?_append_left (List.getElem?_eq_some_iff.1 h.row).1];exact h.row,h.inv.ext t,h.con,h.bl,h.bn⟩
theorem FilmO.keep {H' :Heap}(h :FilmO H lo s l b R sp ls fs)(hk :∀ o,lo ≤ o→o < H.length→H'[o]? = H[o]?) :FilmO H' lo s l b R sp ls fs :=
 ⟨by rw [hk _ h.bl (List.getElem?_eq_some_iff.1 h.row).1];exact h.row,h.inv.keep hk,h.con,h.bl,h.bn⟩
theorem FilmO.less {lo' :Nat}(h :FilmO H lo s l b R sp ls fs)(hl :lo' ≤ lo) :FilmO H lo' s l b R sp ls fs :=⟨h.row,h.inv.less hl,h.con,Nat.le_trans hl h.bl,h.bn⟩
end
theorem FlsO.keep {H H' :Heap}{lo b :Nat}{R :Rws}{fs :List Fld}(h :FlsO H lo b R fs)(hk :∀ o,lo ≤ o→o < H.length→H'[o]? = H[o]?) :FlsO H' lo b R fs :=
 ⟨by rw [hk _ h.bl (List.getElem?_eq_some_iff.1 h.row).1];exact h.row,h.inv.keep hk,h.con,h.bl,h.bn⟩
theorem filmO_of {H :Heap}{lo lo2 s l b :Nat}{R :Rws}{sp ls :List Nat}{fs :List Fld}(h :FlsO H lo2 b R fs)(hs :H[s]? = some (rowO sp))(hl :H[l]? = some (rowO ls))(h1 :lo ≤ s)(h2 :s < l)(h3 :l < lo2) :FilmO H lo s l b R sp ls fs :=by
 have hlow :∀ x ∈ R.map Prod.fst,lo2 ≤ x :=fun x hx =>by
  obtain⟨p,hp,rfl⟩ :=List.mem_map.1 hx
  exact h.inv.low p hp
 refine⟨h.row,⟨fun p hp =>?_,fun p hp =>?_,?_⟩,h.con,Nat.le_trans (by omega) h.bl,fun hc =>?_⟩
 ·simp only [List.mem_cons] at hp
  rcases hp with rfl | rfl | hp
  ·exact hs
  ·exact hl
  ·exact h.inv.own p hp
 ·simp only [List.mem_cons] at hp
  rcases hp with rfl | rfl | hp
  ·exact h1
  ·dsimp only;omega
  ·have :=h.inv.low p hp;omega
 ·simp only [List.map_cons,List.nodup_cons,List.mem_cons,not_or]
  exact⟨⟨by omega,fun hc =>by have :=hlow _ hc;omega⟩,fun hc =>by have :=hlow _ hc;omega,h.inv.nod⟩
 ·have hb :=h.bl
  simp only [List.mem_cons] at hc
  rcases hc with rfl | rfl | hc
  ·omega
  ·omega
  ·exact h.bn hc
end Go.Abs
