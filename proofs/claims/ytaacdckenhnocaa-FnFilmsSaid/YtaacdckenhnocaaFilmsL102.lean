/- Laws of functions: films and fields that bytes choose. Conditions: the laws of what they call. -/
import Derived.Test.YtaacdckenhnocaaFilmsL101
import Derived.Test.YtaacdckenhnocaaFilmsL48
import Derived.Test.YtaacdckenhnocaaFilmsL69
import Derived.Test.YtaacdckenhnocaaFilmsL88
namespace Go.Abs
set_option linter.unusedSimpArgs false
set_option linter.unusedVariables false
set_option maxHeartbeats 8000000
set_option maxRecDepth 20000
def spec_R8Film_r0 :List SOper :=[
 ⟨some 2,none,.alloc [(.int .i64 0),(.int .i64 0),(.bool false),(.slice none 0 0),(.slice none 0 0),(.slice none 0 0)],0⟩]
def spec_R8Film_r1 (i_spec_l00From :FuncId) :List SOper :=[
 ⟨some 4,none,.mov (.tmp 0),0⟩,
 ⟨some 5,none,.call (.func i_spec_l00From) [(.tmp 4)],1⟩,
 ⟨some 3,none,.mov (.tmp 5),3⟩]
def spec_R8Film_r2 (i_spec_l10DrawOk :FuncId) :List SOper :=[
 ⟨some 6,none,.mov (.tmp 3),0⟩,
 ⟨some 7,none,.call (.func i_spec_l10DrawOk) [(.tmp 6)],1⟩,
 ⟨none,none,.store 6 (.tmp 2) (.tmp 7),3⟩]
def spec_R8Film (i_spec_l00From i_spec_l10DrawOk :FuncId) :SFunc :=⟨8,[.cellN 2 6],(.kp [0] (.seq (.region spec_R8Film_r0 false) (.kp [0,2] (.seq (.region (spec_R8Film_r1 i_spec_l00From) false) (.kp [2,3] (.seq (.region (spec_R8Film_r2 i_spec_l10DrawOk) false) .ret))))))⟩
theorem take_drop_app {α :Type}{A B :List α}{n :Nat}(h :B.take n=A) :B=A++B.drop n :=by rw [← h,List.take_append_drop]
def spec_R8Film_ok (c :Contract) :Prop :=∀ (σ :Heap)(cv :Value)(code :List UInt8),Row σ 1 cv code.length (b8s code)→code.length ≤ 1048576 →
 Ret c [cv] σ fun v σ' =>∃ (W H :Nat) (wr :Bool) (sp lo :List Nat) (fs :List Fld) (s l fb :Nat) (R :Rws) (τ :Heap),isFilm W H wr sp lo fs=true∧fs.length ≤ 3∧lowF fs∧in32 sp∧in32 lo ∧
  v=fmV W H wr (slV s sp.length) (slV l lo.length) (slV fb fs.length)∧σ'=σ++τ∧FilmO σ' σ.length s l fb R sp lo fs
theorem spec_R8Film_law {C :Ctab}{i1 i2 :FuncId}{c1 c2 :Contract}(h1 :Has C i1 c1 spec_l00From_ok)(h2 :HasW C i2 c2 spec_l10DrawOk_ok) :spec_R8Film_ok (bodyC C (spec_R8Film i1 i2) true) :=by
 intro σ cv code hr hc
 have k1 :=hr.ok
 refine ret_bd rfl rfl ?_
 repeat' (first | refine ff ?_ | ((first | refine sR ?_ ?_ | refine sC ?_ ?_) <;> (intro hb;(try rw [hb]);(try simp only [bb] at hb);(try (exfalso;first | omega | exact hb trivial)))) | (apply endS trivial;rotate_left;(· exact eva);(· rfl);try refine⟨?_,rfl⟩) | fail)
 (apply EvR.aCall h1.at_;(· exact eva);(· exact  h1.ok _ cv k1);(rintro _ _ ⟨rfl,rfl⟩;refine EvR.nrm ?_))
 repeat' (first | refine ff ?_ | ((first | refine sR ?_ ?_ | refine sC ?_ ?_) <;> (intro hb;(try rw [hb]);(try simp only [bb] at hb);(try (exfalso;first | omega | exact hb trivial)))) | (apply endS trivial;rotate_left;(· exact eva);(· rfl);try refine⟨?_,rfl⟩) | fail)
 apply EvR.aCall h2.at_;(· exact eva);(· exact h2.ok _ (σ.length+1) cv code 0 0 ⟨hget _ _ 1,hr.ext _⟩ (by omega) (by omega) hc)
 rintro _ T ⟨W,H,wr,sp,lo,fs,s,l,fb,R,p',d',hI,hlen,lF,w1,w2,rfl,ht,hle,ho⟩
 obtain⟨X,hX⟩ :∃ X,T=σ++(⟨[.int .i64 0,.int .i64 0,.bool false,.slice none 0 0,.slice none 0 0,.slice none 0 0],0,true⟩::X) :=by
  have h1 :=take_drop_app ht
  refine⟨srcO cv p' d'::T.drop (σ++[(⟨[.int .i64 0,.int .i64 0,.bool false,.slice none 0 0,.slice none 0 0,.slice none 0 0],0,true⟩ :AObj),srcO cv 0 0]).length,?_⟩
  conv =>lhs;rw [h1]
  rw [set_app]
  simp
 have hl2 :(σ++[(⟨[.int .i64 0,.int .i64 0,.bool false,.slice none 0 0,.slice none 0 0,.slice none 0 0],0,true⟩ :AObj),srcO cv 0 0]).length=σ.length+2 :=by simp
 rw [hl2] at ho
 clear ht hle
 subst hX
 have hv2 :(σ++((⟨[.int .i64 0,.int .i64 0,.bool false,.slice none 0 0,.slice none 0 0,.slice none 0 0],0,true⟩ :AObj)::X))[σ.length+0]? = some ⟨[.int .i64 0,.int .i64 0,.bool false,.slice none 0 0,.slice none 0 0,.slice none 0 0],0,true⟩ :=hget _ _ 0
 have ho2 :=(ho.keep (H' :=σ++((⟨[.int .i64 W,.int .i64 H,.bool wr,slV s sp.length,slV l lo.length,slV fb fs.length],0,true⟩ :AObj)::X)) fun o h1 h2 =>by
  obtain⟨j,rfl⟩ :∃ j,o=σ.length+(j+1) :=⟨o - σ.length - 1,by omega⟩
  rw [hget,hget];rfl).less (show σ.length ≤ σ.length+2 by omega)
 refine EvR.nrm ?_
 repeat' (first | refine ff ?_ | ((first | refine sR ?_ ?_ | refine sC ?_ ?_) <;> (intro hb;(try rw [hb]);(try simp only [bb] at hb);(try (exfalso;first | omega | exact hb trivial)))) | (apply endS trivial;rotate_left;(· exact eva);(· rfl);try refine⟨?_,rfl⟩) | fail)
 apply endB trivial
 ·exact eva
 ·exact⟨W,H,wr,sp,lo,fs,s,l,fb,R,_,hI,hlen,lF,w1,w2,rfl,rfl,ho2⟩
theorem nums_in {xs :List Nat}(h :nums xs) :in32N xs :=fun i =>by
 rcases Nat.lt_or_ge i xs.length with h' | h'
 ·exact (h i h').1
 ·rw [List.getD_eq_getElem?_getD,List.getElem?_eq_none h'];simp
end Go.Abs
