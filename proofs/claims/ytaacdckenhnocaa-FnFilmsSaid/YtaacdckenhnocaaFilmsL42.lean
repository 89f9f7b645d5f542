/- Laws of functions, some texts put together. Conditions: the laws of what they call. -/
import Derived.Test.YtaacdckenhnocaaFilmsL41
namespace Go.Abs
set_option linter.unusedSimpArgs false
set_option linter.unusedVariables false
set_option maxHeartbeats 8000000
set_option maxRecDepth 20000
def full (a u :List Nat) :List Nat :=u++a.drop u.length
end Go.Abs
namespace Go.Abs
set_option maxHeartbeats 4000000
theorem runZ_all {q :Nat→Bool}{n :Nat} :∀ f a j,j < runZ q n f a→q (a+j)=true
 | 0,a,j,h =>by simp [runZ] at h
 | f+1,a,j,h =>by
  unfold runZ at h
  split at h
  ·rename_i hc
   cases j with
   | zero =>exact hc.2
   | succ j =>
    have :=runZ_all (q :=q) (n :=n) f (a+1) j (by omega)
    rwa [show a+(j+1)=a+1+j from by omega]
  ·omega
theorem numB_lowB {y :Nat}(h :y < 4294967296) :numB (lowB y 4)=y :=by
 have e :∀ k,(byteOf ((y / 256 ^ k :Nat) :Int)).toNat=y / 256 ^ k % 256 :=by
  intro k
  rw [← byteOf_mod,byteOf_toNat (by omega)]
 have e0 :=e 0
 have e1 :=e 1
 have e2 :=e 2
 have e3 :=e 3
 have hl :lowB y 4=[byteOf ((y / 256 ^ 0 :Nat) :Int),byteOf ((y / 256 ^ 1 :Nat) :Int),byteOf ((y / 256 ^ 2 :Nat) :Int),byteOf ((y / 256 ^ 3 :Nat) :Int)] :=rfl
 rw [hl]
 show (((0 * 256+(byteOf ((y / 256 ^ 3 :Nat) :Int)).toNat) * 256+(byteOf ((y / 256 ^ 2 :Nat) :Int)).toNat) * 256+(byteOf ((y / 256 ^ 1 :Nat) :Int)).toNat) * 256+(byteOf ((y / 256 ^ 0 :Nat) :Int)).toNat=y
 rw [e0,e1,e2,e3]
 simp only [Nat.pow_zero,Nat.div_one,Nat.reducePow]
 omega
theorem words_at (x :Nat→Nat)(a :Nat) :∀ o k,k < o→((words x a o).drop (4 * k)).take 4=lowB (x (a+k)) 4
 | 0,k,h =>by omega
 | o+1,k,h =>by
  rw [words_succ]
  by_cases hk :k < o
  ·rw [List.drop_append_of_le_length (by rw [words_length];omega),List.take_append_of_le_length (by rw [List.length_drop,words_length];omega)]
   exact words_at x a o k hk
  ·obtain rfl :k=o :=by omega
   rw [List.drop_append,words_length,List.drop_of_length_le (by rw [words_length];omega),Nat.sub_self,List.nil_append,List.drop_zero,List.take_of_length_le (by rw [lowB_length];omega)]
def mixed (a :List Nat)(x :Nat→Nat)(i :Nat) :List Nat :=(List.range i).map fun k =>if x k=0 then a.getD k 0 else bitsC (a.getD k 0) ^^^ x k
theorem mixed_length (a :List Nat)(x :Nat→Nat)(i :Nat) :(mixed a x i).length=i :=by simp [mixed]
theorem mixed_add (a :List Nat)(x :Nat→Nat)(i j :Nat) :mixed a x (i+j)=mixed a x i++(List.range j).map fun k =>if x (i+k)=0 then a.getD (i+k) 0 else bitsC (a.getD (i+k) 0) ^^^ x (i+k) :=by
 unfold mixed
 rw [List.range_add,List.map_append,List.map_map]
 rfl
theorem take_drop_map {a :List Nat}{i z :Nat}(h :i+z ≤ a.length) :(a.drop i).take z=(List.range z).map fun k =>a.getD (i+k) 0 :=by
 apply List.ext_getElem
 ·simp;omega
 ·intro k h1 h2
  rw [List.getElem_take,List.getElem_drop,List.getElem_map,List.getElem_range,List.getD_eq_getElem?_getD,List.getElem?_eq_getElem]
  rfl
theorem appl_chg {a :List Nat}{s :List UInt8}{x :Nat→Nat}(hx :∀ k,k < a.length→x k < 4294967296) :∀ (f p i f2 :Nat),s.drop p=chg x a.length f2 i→p ≤ s.length→i ≤ a.length→a.length < i+f2→s.length ≤ p+f→appl a s (f+1) p (mixed a x i)=some (mixed a x a.length)
 | f,p,i,f2,h1,hp0,h2,h3,h4 =>by
  obtain⟨f3,rfl⟩ :∃ f3,f2=f3+1 :=⟨f2 - 1,by omega⟩
  by_cases hu :i < a.length
  ·obtain⟨Z,hZ⟩ :∃ Z,runZ (isZ x) a.length 255 i=Z :=⟨_,rfl⟩
   obtain⟨O,hO⟩ :∃ O,runZ (notZ x) a.length 255 (i+Z)=O :=⟨_,rfl⟩
   have hpr :=run_progress x hu
   have b1 :=runZ_le (isZ x) a.length 255 i
   have b2 :=runZ_le (notZ x) a.length 255 (i+Z)
   have az :=runZ_all (q :=isZ x) (n :=a.length) 255 i
   have ao :=runZ_all (q :=notZ x) (n :=a.length) 255 (i+Z)
   rw [hZ,hO] at hpr
   rw [hZ] at b1 az
   rw [hO] at b2 ao
   rw [chg_step hu hZ hO] at h1
   have hl :=congrArg List.length h1
   simp only [List.length_drop,List.length_append,List.length_cons,words_length] at hl
   have e0 :s.getD p 0=byteOf (Z :Nat) :=by
    have :=congrArg (fun l =>l.getD 0 0) h1
    simp only [List.getD_eq_getElem?_getD,List.getElem?_drop,Nat.add_zero] at this
    rw [List.getD_eq_getElem?_getD,this];rfl
   have e1 :s.getD (p+1) 0=byteOf (O :Nat) :=by
    have :=congrArg (fun l =>l.getD 1 0) h1
    simp only [List.getD_eq_getElem?_getD,List.getElem?_drop] at this
    rw [List.getD_eq_getElem?_getD,this];rfl
   have z0 :zAt s p=Z :=by unfold zAt;rw [e0,byteOf_toNat b1.1]
   have z1 :zAt s (p+1)=O :=by unfold zAt;rw [e1,byteOf_toNat b2.1]
   have hw :∀ k,k < O→(s.drop (p+2+4 * k)).take 4=lowB (x (i+Z+k)) 4 :=by
    intro k hk
    rw [← words_at x (i+Z) O k hk,show p+2+4 * k=p+(2+4 * k) from by omega,← List.drop_drop,h1]
    rw [List.drop_append_of_le_length (by simp only [List.length_cons,words_length];omega),List.take_append_of_le_length (by simp only [List.length_drop,List.length_cons,words_length];omega)]
    rw [show 2+4 * k=4 * k+1+1 from by omega]
    rfl
   rw [appl_go (by omega) (by omega) (by rw [mixed_length,z0,z1];omega),z0,z1,mixed_length]
   have hm :mixed a x i++(a.drop i).take Z++news a s (i+Z) (p+2) O=mixed a x (i+Z+O) :=by
    rw [mixed_add,mixed_add,take_drop_map (by omega)]
    congr 1
    ·congr 1
     apply List.map_congr_left
     intro k hk
     have :=az k (List.mem_range.1 hk)
     simp only [isZ,decide_eq_true_eq] at this
     rw [if_pos this]
    ·unfold news
     apply List.map_congr_left
     intro k hk
     have hk' :=List.mem_range.1 hk
     have :=ao k hk'
     simp only [notZ,Bool.not_eq_true',decide_eq_false_iff_not] at this
     rw [if_neg this,hw k hk',numB_lowB (hx _ (by omega))]
   rw [hm]
   obtain⟨f',rfl⟩ :∃ f',f=f'+1 :=⟨f - 1,by omega⟩
   refine appl_chg hx f' _ (i+Z+O) f3 ?_ (by omega) (by omega) (by omega) (by omega)
   have :=congrArg (List.drop (2+4 * O)) h1
   rw [List.drop_drop] at this
   rw [show p+2+4 * O=p+(2+4 * O) from by omega,this]
   rw [List.drop_append_of_le_length (by simp only [List.length_cons,words_length];omega),List.drop_of_length_le (by simp only [List.length_cons,words_length];omega)]
   rfl
  ·rw [chg_end (by omega)] at h1
   have hl :=congrArg List.length h1
   simp only [List.length_drop,List.length_nil] at hl
   obtain rfl :i=a.length :=by omega
   rw [appl_end (by omega)]
termination_by f =>f
end Go.Abs
namespace Go.Abs
set_option maxHeartbeats 4000000
theorem bitsC_idem (a :Nat) :bitsC (bitsC a)=bitsC a :=by
 unfold bitsC
 by_cases h :isNaN .f32 a=true
 ·rw [if_pos h];split <;> rfl
 ·rw [if_neg h,if_neg h]
theorem runZ_congr {q r :Nat→Bool}{n :Nat}(h :∀ k,k < n→q k=r k) :∀ f a,runZ q n f a=runZ r n f a
 | 0,a =>rfl
 | f+1,a =>by
  unfold runZ
  by_cases ha :a < n
  ·rw [h a ha,runZ_congr h f (a+1)]
  ·rw [if_neg (fun h2 =>ha h2.1),if_neg (fun h2 =>ha h2.1)]
theorem words_congr {x y :Nat→Nat}{n a o :Nat}(h :∀ k,k < n→x k=y k)(ho :a+o ≤ n) :words x a o=words y a o :=by
 unfold words
 have :∀ k ∈ List.range o,lowB (x (a+k)) 4=lowB (y (a+k)) 4 :=fun k hk =>by rw [h _ (by have :=List.mem_range.1 hk;omega)]
 rw [List.flatMap_def,List.flatMap_def,List.map_congr_left this]
theorem chg_congr {x y :Nat→Nat}{n :Nat}(h :∀ k,k < n→x k=y k) :∀ f a,chg x n f a=chg y n f a
 | 0,a =>rfl
 | f+1,a =>by
  by_cases ha :a < n
  ·have e1 :runZ (isZ x) n 255 a=runZ (isZ y) n 255 a :=runZ_congr (fun k hk =>by unfold isZ;rw [h k hk]) 255 a
   have e2 :runZ (notZ x) n 255 (a+runZ (isZ x) n 255 a)=runZ (notZ y) n 255 (a+runZ (isZ y) n 255 a) :=by
    rw [e1];exact runZ_congr (fun k hk =>by unfold notZ;rw [h k hk]) 255 _
   have b1 :=(runZ_le (isZ y) n 255 a).2 (by omega)
   have b2 :=(runZ_le (notZ y) n 255 (a+runZ (isZ y) n 255 a)).2 b1
   rw [e1] at e2
   rw [chg_step (O :=runZ (notZ y) n 255 (a+runZ (isZ y) n 255 a)) ha e1 e2,chg_step ha rfl rfl,words_congr h b2,chg_congr h f]
  ·rw [chg_end ha,chg_end ha]
theorem mixed_get {a :List Nat}{x :Nat→Nat}{n k :Nat}(h :k < n) :(mixed a x n).getD k 0=if x k=0 then a.getD k 0 else bitsC (a.getD k 0) ^^^ x k :=by
 rw [List.getD_eq_getElem?_getD,mixed,List.getElem?_map,List.getElem?_range h];rfl
theorem mixed_bits {a b :List Nat}{n k :Nat}(h :k < n) :bitsC ((mixed a (xb a b) n).getD k 0)=bitsC (b.getD k 0) :=by
 rw [mixed_get h]
 by_cases h0 :xb a b k=0
 ·rw [if_pos h0]
  exact xor_zero.1 h0
 ·rw [if_neg h0]
  unfold xb
  rw [← Nat.xor_assoc,Nat.xor_self,Nat.zero_xor,bitsC_idem]
theorem apply_change {a b :List Nat}(la :lows a)(lb :lows b)(hn :a.length ≤ 768) :acOk a (chg (xb a b) a.length (a.length+1) 0)=some (mixed a (xb a b) a.length) :=by
 unfold acOk
 rw [if_pos hn]
 have hx :∀ k,k < a.length→xb a b k < 4294967296 :=fun k hk =>xb_lt (lows_all la k) (lows_all lb k)
 have h :=appl_chg (a :=a) (s :=chg (xb a b) a.length (a.length+1) 0) (x :=xb a b) hx (chg (xb a b) a.length (a.length+1) 0).length 0 0 (a.length+1) (List.drop_zero) (Nat.zero_le _) (Nat.zero_le _) (by omega) (by omega)
 rw [show mixed a (xb a b) 0=[] from rfl] at h
 rw [h]
 refine acOf_t (mixed_length _ _ _) ?_
 exact chg_congr (fun k hk =>by show bitsC (a.getD k 0) ^^^ bitsC ((mixed a (xb a b) a.length).getD k 0)=bitsC (a.getD k 0) ^^^ bitsC (b.getD k 0);rw [mixed_bits hk]) _ _
end Go.Abs
