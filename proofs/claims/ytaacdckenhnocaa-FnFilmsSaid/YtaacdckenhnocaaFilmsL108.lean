/- Laws of functions, some texts put together. Conditions: the laws of what they call. -/
import Derived.Test.YtaacdckenhnocaaFilmsL106
import Derived.Test.YtaacdckenhnocaaFilmsL27
import Derived.Test.YtaacdckenhnocaaFilmsL12
import Derived.Test.YtaacdckenhnocaaFilmsL69
namespace Go.Abs
set_option linter.unusedSimpArgs false
set_option linter.unusedVariables false
set_option maxHeartbeats 8000000
set_option maxRecDepth 20000
def impl_LoadFilm_r0 :List SOper :=[
 ⟨some 2,none,.alloc [(.int .i64 0),(.int .i64 0),(.bool false),(.slice none 0 0),(.slice none 0 0),(.slice none 0 0)],0⟩,
 ⟨some 3,none,.mov (.const (.bool false)),0⟩]
def impl_LoadFilm_r1 (i_impl_RecoverFilm :FuncId) :List SOper :=[
 ⟨some 8,none,.mov (.tmp 0),0⟩,
 ⟨some 9,none,.call (.func i_impl_RecoverFilm) [(.tmp 8)],1⟩,
 ⟨some 7,none,.mov (.tmp 9),3⟩,
 ⟨some 10,none,.extract (.tmp 7) 0,7⟩,
 ⟨some 11,none,.extract (.tmp 7) 1,7⟩,
 ⟨some 12,none,.extract (.tmp 7) 2,7⟩,
 ⟨some 4,none,.alloc [(.int .i64 0),(.int .i64 0),(.bool false),(.slice none 0 0),(.slice none 0 0),(.slice none 0 0)],0⟩,
 ⟨none,none,.store 6 (.tmp 4) (.tmp 10),79⟩,
 ⟨some 5,none,.mov (.tmp 11),223⟩,
 ⟨some 6,none,.mov (.tmp 12),511⟩]
def impl_LoadFilm_r2 :List SOper :=[
 ⟨some 13,none,.mov (.tmp 6),0⟩,
 ⟨some 14,none,.un .not (.tmp 13),1⟩,
 ⟨some 15,none,.mov (.tmp 14),3⟩,
  ⟨(some 16),(some (15,false)),.mov (.tmp 5),7⟩,
  ⟨(some 17),(some (15,false)),.mov (.tmp 0),7⟩,
  ⟨(some 18),(some (15,false)),.len true (.tmp 17),23⟩,
  ⟨(some 19),(some (15,false)),.bin .neq .other (.tmp 16) (.tmp 18),63⟩,
 ⟨some 20,none,.pick (.tmp 15) (.const (.bool true)) (.tmp 19),127⟩]
def impl_LoadFilm_r3 :List SOper :=[
 ⟨some 21,none,.build [(.int .i64 0),(.int .i64 0),(.bool false),(.slice none 0 0),(.slice none 0 0),(.slice none 0 0)] [],0⟩,
 ⟨none,none,.store 6 (.tmp 2) (.tmp 21),1⟩,
 ⟨some 3,none,.mov (.const (.bool false)),3⟩]
def impl_LoadFilm_r4 :List SOper :=[
 ⟨some 22,none,.loadN 6 (.tmp 4),0⟩,
 ⟨none,none,.store 6 (.tmp 2) (.tmp 22),1⟩,
 ⟨some 3,none,.mov (.const (.bool true)),3⟩]
def impl_LoadFilm (i_impl_RecoverFilm :FuncId) :SFunc :=⟨23,[.cellN 2 6,.tmp 3],(.kp [0] (.seq (.region impl_LoadFilm_r0 false) (.kp [0,2] (.seq (.region (impl_LoadFilm_r1 i_impl_RecoverFilm) false) (.kp [0,2,4,5,6] (.seq (.seq (.region impl_LoadFilm_r2 false) (.kp [2,4,20] (.cond (.tmp 20) (.seq (.region impl_LoadFilm_r3 false) .ret) .skip))) (.kp [2,4] (.seq (.region impl_LoadFilm_r4 false) .ret))))))))⟩
theorem film_behind {σ A :Heap}{x y :AObj}{s l b :Nat}{R :Rws}{sp lo :List Nat}{fs :List Fld}(ho :FilmO (σ++[x]++A) (σ++[x]).length s l b R sp lo fs)(Z :Heap) :FilmO (σ++y::(A++Z)) σ.length s l b R sp lo fs :=by
 rw [show (σ++[x]).length=σ.length+1 from by simp] at ho
 have h1 :=ho.ext Z
 have h2 :FilmO (σ++y::(A++Z)) (σ.length+1) s l b R sp lo fs :=h1.keep fun o h0 _ =>by
  obtain⟨j,rfl⟩ :∃ j,o=σ.length+(j+1) :=⟨o - σ.length - 1,by omega⟩
  rw [hget,List.append_assoc,List.append_assoc,hget];rfl
 exact h2.less (by omega)
theorem filmN_behind {σ A :Heap}{x y :AObj}{s l :Nat}{sp lo :List Nat}(ho :FilmN (σ++[x]++A) (σ++[x]).length s l sp lo)(Z :Heap) :FilmN (σ++y::(A++Z)) σ.length s l sp lo :=by
 rw [show (σ++[x]).length=σ.length+1 from by simp] at ho
 have h1 :=ho.ext Z
 have h2 :FilmN (σ++y::(A++Z)) (σ.length+1) s l sp lo :=h1.keep fun o h0 _ =>by
  obtain⟨j,rfl⟩ :∃ j,o=σ.length+(j+1) :=⟨o - σ.length - 1,by omega⟩
  rw [hget,List.append_assoc,List.append_assoc,hget];rfl
 exact h2.less (by omega)
def ldfOk (s :List UInt8) :Bool :=rcOk s && decide ((rcAll s).2=s.length)
def impl_LoadFilm_ok (c :Contract) :Prop :=∀ (σ :Heap)(s :List UInt8),s.length ≤ 1048576→Ret c [.string (str s)] σ fun v σ' =>FmResN (ldfOk s) σ σ' v (byAt s 4) (byAt s 5) (shWr s) (shSp s) (shLo s) (rcAll s).1
theorem impl_LoadFilm_law {C :Ctab}{i1 :FuncId}{c1 :Contract}(h1 :Has C i1 c1 impl_RecoverFilm_ok) :impl_LoadFilm_ok (bodyC C (impl_LoadFilm i1) true) :=by
 intro σ s hs
 cases hok :rcOk s
 ·have hld :ldfOk s=false :=by unfold ldfOk;rw [hok];rfl
  refine ret_bd rfl rfl ?_
  repeat' (first | refine ff ?_ | ((first | refine sR ?_ ?_ | refine sC ?_ ?_) <;> (intro hb;(try rw [hb]);(try simp only [bb] at hb);(try (exfalso;first | omega | exact hb trivial)))) | (apply endS trivial;rotate_left;(· exact eva);(· rfl);try refine⟨?_,rfl⟩) | fail)
  apply EvR.aCall h1.at_;(· exact eva);(· exact h1.ok _ s hs);rintro _ _ hres
  obtain⟨⟨τ,rfl⟩,rfl⟩ :=hres.f hok
  clear hres
  refine EvR.nrm ?_
  repeat' (first | refine ff ?_ | ((first | refine sR ?_ ?_ | refine sC ?_ ?_) <;> (intro hb;(try rw [hb]);(try simp only [bb] at hb);(try (exfalso;first | omega | exact hb trivial)))) | (apply endS trivial;rotate_left;(· exact eva);(· rfl);try refine⟨?_,rfl⟩) | fail)
  apply endB trivial
  ·exact eva
  ·rw [hld];exact FmResN.no rfl
 obtain⟨G,hG⟩ :∃ G,rcAll s=G :=⟨_,rfl⟩
 by_cases hn :G.2=s.length
 rotate_left
 ·have hld :ldfOk s=false :=by unfold ldfOk;rw [hok,hG,decide_eq_false hn];rfl
  have hni :¬ ((G.2 :Nat) :Int)=s.length :=by omega
  by_cases hg :G.1=[]
  ·refine ret_bd rfl rfl ?_
   repeat' (first | refine ff ?_ | ((first | refine sR ?_ ?_ | refine sC ?_ ?_) <;> (intro hb;(try rw [hb]);(try simp only [bb] at hb);(try (exfalso;first | omega | exact hb trivial)))) | (apply endS trivial;rotate_left;(· exact eva);(· rfl);try refine⟨?_,rfl⟩) | fail)
   apply EvR.aCall h1.at_;(· exact eva);(· exact h1.ok _ s hs);rintro _ _ hres
   obtain⟨τ,s',l,rfl,rfl,ho⟩ :=hres.n hok (by rw [hG];exact hg)
   clear hres
   rw [hG]
   refine EvR.nrm ?_
   repeat' (first | refine ff ?_ | ((first | refine sR ?_ ?_ | refine sC ?_ ?_) <;> (intro hb;(try rw [hb]);(try simp only [bb] at hb);(try (exfalso;first | omega | exact hb trivial)))) | (apply endS trivial;rotate_left;(· exact eva);(· rfl);try refine⟨?_,rfl⟩) | fail)
   apply endB trivial
   ·exact eva
   ·rw [hld];exact FmResN.no rfl
  ·refine ret_bd rfl rfl ?_
   repeat' (first | refine ff ?_ | ((first | refine sR ?_ ?_ | refine sC ?_ ?_) <;> (intro hb;(try rw [hb]);(try simp only [bb] at hb);(try (exfalso;first | omega | exact hb trivial)))) | (apply endS trivial;rotate_left;(· exact eva);(· rfl);try refine⟨?_,rfl⟩) | fail)
   apply EvR.aCall h1.at_;(· exact eva);(· exact h1.ok _ s hs);rintro _ _ hres
   obtain⟨τ,s',l,b,R,rfl,rfl,ho⟩ :=hres.t hok (by rw [hG];exact hg)
   clear hres
   rw [hG] at ho ⊢
   refine EvR.nrm ?_
   repeat' (first | refine ff ?_ | ((first | refine sR ?_ ?_ | refine sC ?_ ?_) <;> (intro hb;(try rw [hb]);(try simp only [bb] at hb);(try (exfalso;first | omega | exact hb trivial)))) | (apply endS trivial;rotate_left;(· exact eva);(· rfl);try refine⟨?_,rfl⟩) | fail)
   apply endB trivial
   ·exact eva
   ·rw [hld];exact FmResN.no rfl
 ·have hld :ldfOk s=true :=by unfold ldfOk;rw [hok,hG,decide_eq_true hn];rfl
  have hni :((G.2 :Nat) :Int)=s.length :=by omega
  by_cases hg :G.1=[]
  ·refine ret_bd rfl rfl ?_
   repeat' (first | refine ff ?_ | ((first | refine sR ?_ ?_ | refine sC ?_ ?_) <;> (intro hb;(try rw [hb]);(try simp only [bb] at hb);(try (exfalso;first | omega | exact hb trivial)))) | (apply endS trivial;rotate_left;(· exact eva);(· rfl);try refine⟨?_,rfl⟩) | fail)
   apply EvR.aCall h1.at_;(· exact eva);(· exact h1.ok _ s hs);rintro _ _ hres
   obtain⟨τ,s',l,rfl,rfl,ho⟩ :=hres.n hok (by rw [hG];exact hg)
   clear hres
   rw [hG]
   refine EvR.nrm ?_
   repeat' (first | refine ff ?_ | ((first | refine sR ?_ ?_ | refine sC ?_ ?_) <;> (intro hb;(try rw [hb]);(try simp only [bb] at hb);(try (exfalso;first | omega | exact hb trivial)))) | (apply endS trivial;rotate_left;(· exact eva);(· rfl);try refine⟨?_,rfl⟩) | fail)
   apply endB trivial
   ·exact eva
   ·rw [hld];exact⟨fun _ h =>absurd hg h,fun _ _ =>⟨_,_,_,rfl,rfl,filmN_behind ho _⟩,(fun h =>by cases h)⟩
  ·refine ret_bd rfl rfl ?_
   repeat' (first | refine ff ?_ | ((first | refine sR ?_ ?_ | refine sC ?_ ?_) <;> (intro hb;(try rw [hb]);(try simp only [bb] at hb);(try (exfalso;first | omega | exact hb trivial)))) | (apply endS trivial;rotate_left;(· exact eva);(· rfl);try refine⟨?_,rfl⟩) | fail)
   apply EvR.aCall h1.at_;(· exact eva);(· exact h1.ok _ s hs);rintro _ _ hres
   obtain⟨τ,s',l,b,R,rfl,rfl,ho⟩ :=hres.t hok (by rw [hG];exact hg)
   clear hres
   rw [hG] at ho ⊢
   refine EvR.nrm ?_
   repeat' (first | refine ff ?_ | ((first | refine sR ?_ ?_ | refine sC ?_ ?_) <;> (intro hb;(try rw [hb]);(try simp only [bb] at hb);(try (exfalso;first | omega | exact hb trivial)))) | (apply endS trivial;rotate_left;(· exact eva);(· rfl);try refine⟨?_,rfl⟩) | fail)
   apply endB trivial
   ·exact eva
   ·rw [hld];exact⟨fun _ _ =>⟨_,_,_,_,_,rfl,rfl,film_behind ho _⟩,(fun _ h =>absurd h hg),(fun h =>by cases h)⟩
end Go.Abs
namespace Go.Abs
set_option linter.unusedSimpArgs false
set_option linter.unusedVariables false
def lenN (N :Nat)(f :Fld) :Prop :=f.e.length ≤ N∧f.x.length ≤ N∧f.y.length ≤ N
theorem recF_lens (W H :Nat)(wr :Bool)(sp lo :List Nat)(N :Nat)(s :List UInt8) :∀ (k :Nat)(last :List Nat)(p :Nat)(fs :List Fld)(m :Nat),last.length ≤ 3 * N→fs.length ≤ m→(∀ f ∈ fs,lenN N f) →
 (recF W H wr sp lo N s k last p fs).1.length ≤ m+k ∧ ∀ f ∈ (recF W H wr sp lo N s k last p fs).1,lenN N f
 | 0,last,p,fs,m,hl,hm,hf =>⟨hm,hf⟩
 | k+1,last,p,fs,m,hl,hm,hf =>by
  unfold recF
  cases hA :frAt last s p with
  | none =>exact⟨by show fs.length ≤ _;omega,hf⟩
  | some now =>
   dsimp only
   split
   ·have h1 :=(frAt_some hA).1
    have h2 :=recF_lens W H wr sp lo N s k now (frEnd s p+2) (fs++[fldOf N now]) (m+1) (by omega) (by simp;omega) fun f hf' =>by
     rcases List.mem_append.1 hf' with h | h
     ·exact hf f h
     ·rw [List.mem_singleton] at h;subst h
      exact⟨by show (now.take N).length ≤ N;rw [List.length_take];omega,by show ((now.take (2 * N)).drop N).length ≤ N;rw [List.length_drop,List.length_take];omega,by show (now.drop (2 * N)).length ≤ N;rw [List.length_drop];omega⟩
    exact⟨by omega,h2.2⟩
   ·exact⟨by show fs.length ≤ _;omega,hf⟩
theorem sumF_lenN {N :Nat} :∀ fs :List Fld,(∀ f ∈ fs,lenN N f)→sumF fs ≤ fs.length * (3 * N)
 | [],_ =>by simp [sumF]
 | f::fs,h =>by
  have h1 :=h f (by simp)
  have h2 :=sumF_lenN fs fun g hg =>h g (by simp [hg])
  obtain⟨u1,u2,u3⟩ :=h1
  simp only [sumF,List.length_cons,Nat.add_mul]
  omega
theorem rcAll_fit (s :List UInt8) :fitsF (rcAll s).1∧sumF (rcAll s).1 ≤ 4194304 :=by
 have hN2 :=shN_le s
 obtain⟨h1,h2⟩ :=recF_lens (byAt s 4) (byAt s 5) (shWr s) (shSp s) (shLo s) (shN s) s 16 (List.replicate (3 * shN s) 0) (shEnd s) [] 0 (by rw [List.length_replicate];exact Nat.le_refl _) (by simp) (by simp)
 have h3 :=sumF_lenN _ h2
 unfold rcAll
 refine⟨⟨by omega,fun f hf =>?_⟩,?_⟩
 ·obtain⟨u1,u2,u3⟩ :=h2 f hf
  exact⟨by omega,by omega,by omega⟩
 ·have h4 :=Nat.mul_le_mul h1 (show 3 * shN s ≤ 196000 by omega)
  omega
end Go.Abs
