/- Laws of functions, some texts put together. Conditions: the laws of what they call. -/
import Derived.Test.YtaacdckenhnocaaFilmsL26
import Derived.Test.YtaacdckenhnocaaFilmsL65
import Derived.Test.YtaacdckenhnocaaFilmsL84
namespace Go.Abs
set_option linter.unusedSimpArgs false
set_option linter.unusedVariables false
set_option maxHeartbeats 8000000
section
variable {C :Ctab} {F :Frame} {τ l :Heap}
theorem EvR.slo {Q}{d k n at_ b :Nat}{rest :List SOper}{x y :Operand}{cells :List Value}{r :Bool}(h2 :τ[b]? = some ⟨cells,1,r⟩)(hl :cells.length=n)(hat :at_ ≤ n)(h1 :eval F x = .slice (some ⟨b,0,none⟩) n n)(h3 :eval F y = .int .i64 (at_ :Nat))
 (h :EvR C rest ((d,.slice (some ⟨b,at_,none⟩) (n - at_) (n - at_))::F) (τ++l) Q) :EvR C (⟨some d,none,.sliceSl 1 x (some y) none,k⟩::rest) F (τ++l) Q :=by
 refine EvR.opS (evL_ok ?_) h
 have hlt :=(List.getElem?_eq_some_iff.1 h2).1
 have e :(τ++l)[b]? = some ⟨cells,1,r⟩ :=by rw [List.getElem?_append_left hlt];exact h2
 have e2 :rowAt (τ++l) 1 ⟨b,0,none⟩ n=some ⟨cells,1,r⟩ :=by simp [rowAt,e,hl]
 simp only [evL,h1,Option.map_some,Option.map_none,h3,aSliceSl,e2,idx]
 rw [if_pos (by omega)]
 have g1 :0+(at_ :Int).toNat * 1=at_ :=by omega
 have g2 :((n :Int) - (at_ :Int)).toNat=n - at_ :=by omega
 have g3 :n - (at_ :Int).toNat=n - at_ :=by omega
 rw [g1,g2,g3]
end
theorem isField_len {w h :Int}{wr :Bool}{sp lo e x y :List Nat}(h1 :isField w h wr sp lo e x y=true) :isSheet w h sp lo=true∧(e.length :Int)=w * h∧(x.length :Int)=w * h∧(y.length :Int)=w * h :=by
 simp only [isField,Bool.and_eq_true] at h1
 obtain⟨hs,hf⟩ :=h1
 obtain⟨a1,a2,a3,a4,q1,q2⟩ :=isSheet_sides hs
 obtain⟨W,rfl⟩ :=Int.eq_ofNat_of_zero_le (show 0 ≤ w by omega)
 obtain⟨H,rfl⟩ :=Int.eq_ofNat_of_zero_le (show 0 ≤ h by omega)
 have hWH :((W * H :Nat) :Int)=(W :Int) * (H :Int) :=Int.natCast_mul _ _
 refine⟨hs,?_⟩
 by_cases hl :e.length=W * H∧x.length=W * H∧y.length=W * H
 ·omega
 ·have :=fits_len (wr :=wr) hl
  rw [Int.toNat_natCast,Int.toNat_natCast,this] at hf
  cases hf
end Go.Abs
namespace Go.Abs
set_option linter.unusedSimpArgs false
set_option linter.unusedVariables false
set_option maxHeartbeats 8000000
set_option maxRecDepth 20000
theorem isField_fits {W H :Nat}{wr :Bool}{sp lo e x y :List Nat}(hs :isSheet W H sp lo=true) :isField W H wr sp lo e x y=fits W H wr e x y :=by simp [isField,hs]
end Go.Abs
namespace Go.Abs
set_option linter.unusedSimpArgs false
set_option linter.unusedVariables false
set_option maxHeartbeats 8000000
set_option maxRecDepth 20000
def PtE (σ :Heap)(b o c :Nat)(cs :List Value) :Prop :=∃ cells e r,σ[b]? = some (⟨cells,e,r⟩ :AObj)∧e ≠ 0∧cells.length=c∧(cells.drop o).take cs.length=cs
theorem PtE.ext {σ :Heap}{b o c :Nat}{cs :List Value}(h :PtE σ b o c cs)(t :Heap) :PtE (σ++t) b o c cs :=by
 obtain⟨cells,e,r,h1,h2⟩ :=h
 exact⟨cells,e,r,by rw [List.getElem?_append_left (List.getElem?_eq_some_iff.1 h1).1];exact h1,h2⟩
theorem PtE.load1R {σ :Heap}{b o c k :Nat}{cs :List Value}{l :Heap}(h :PtE σ b o c cs)(hk :k < cs.length) :aLoad1 (σ++l) (.pointer (some ⟨b,o+k,some c⟩))=cs[k]? :=by
 obtain⟨cells,e,r,h1,h2,h3,h4⟩ :=h.ext l
 rw [load1_obj h1 h3 h2,← h4,List.getElem?_take,if_pos hk,List.getElem?_drop]
theorem PtE.loadNR {σ :Heap}{b o c n :Nat}{cs :List Value}{l :Heap}(h :PtE σ b o c cs)(hk :cs.length=n)(hn :0 < n) :aLoadN (σ++l) n (.pointer (some ⟨b,o,some c⟩))=some (.agg cs.toArray) :=by
 obtain⟨cells,e,r,h1,h2,h3,h4⟩ :=h.ext l
 subst hk
 have hlen :o+cs.length ≤ cells.length :=by
  have :=congrArg List.length h4
  rw [List.length_take,List.length_drop] at this
  omega
 simp only [aLoadN,h1]
 rw [if_pos (by simp [ptrOk,h3,h2];exact⟨by cases e with | zero =>exact absurd rfl h2 | succ n =>rfl,by omega⟩),h4]
attribute [push_cast] PtE.load1R PtE.loadNR
theorem PtAt.first {σ :Heap}{b o :Nat}{cs ds :List Value}(h :PtAt σ b o (cs++ds)) :PtAt σ b o cs :=by
 obtain⟨cells,r,h1,h2⟩ :=h
 refine⟨cells,r,h1,?_⟩
 have :=congrArg (List.take cs.length) h2
 rw [List.take_take,List.take_left] at this
 have hl :=congrArg List.length h2
 rw [List.length_take,List.length_append,List.length_drop] at hl
 rw [← this]
 congr 1
 rw [List.length_append]
 simp only [List.length_take,List.length_drop]
 omega
end Go.Abs
namespace Go.Abs
set_option linter.unusedSimpArgs false
set_option linter.unusedVariables false
set_option maxHeartbeats 8000000
set_option maxRecDepth 20000
def impl_CheckOf_r0 :List SOper :=[
 ⟨some 4,none,.mov (.const (.int .i64 0)),0⟩,
 ⟨some 5,none,.mov (.const (.bool false)),1⟩]
def impl_CheckOf_r1 (i_impl_within :FuncId) :List SOper :=[
 ⟨some 7,none,.mov (.tmp 0),0⟩,
 ⟨some 8,none,.call (.func i_impl_within) [(.tmp 7),(.const (.int .i64 0)),(.const (.int .i64 65002))],1⟩,
 ⟨some 9,none,.un .not (.tmp 8),3⟩]
def impl_CheckOf_r2 :List SOper :=[
 ⟨some 4,none,.mov (.const (.int .i64 0)),0⟩,
 ⟨some 5,none,.mov (.const (.bool false)),1⟩]
def impl_CheckOf_r3 :List SOper :=[
 ⟨some 10,none,.mov (.tmp 1),0⟩,
 ⟨some 11,none,.len true (.tmp 10),1⟩,
 ⟨some 12,none,.mov (.const (.int .i64 0)),0⟩]
def impl_CheckOf_r4 :List SOper :=[
 ⟨some 13,none,.bin .lss .other (.tmp 12) (.tmp 11),0⟩]
def impl_CheckOf_r5 :List SOper :=[
 ⟨some 14,none,.mov (.tmp 12),0⟩,
 ⟨some 6,none,.mov (.tmp 14),1⟩]
def impl_CheckOf_r6 :List SOper :=[
 ⟨some 15,none,.mov (.tmp 0),0⟩,
 ⟨some 16,none,.bin .mul .other (.const (.int .i64 677)) (.tmp 15),1⟩,
 ⟨some 17,none,.mov (.tmp 1),0⟩,
 ⟨some 18,none,.mov (.tmp 6),0⟩,
 ⟨some 19,none,.indexStr (.tmp 17) (.tmp 18),12⟩,
 ⟨some 20,none,.conv (.toInt .i64) (.tmp 19),28⟩,
 ⟨some 21,none,.bin .add .other (.tmp 16) (.tmp 20),63⟩,
 ⟨some 22,none,.bin .add .other (.tmp 21) (.const (.int .i64 31)),127⟩,
 ⟨some 23,none,.bin .rem .other (.tmp 22) (.const (.int .i64 65003)),255⟩,
 ⟨some 0,none,.mov (.tmp 23),511⟩]
def impl_CheckOf_r7 :List SOper :=[
 ⟨some 24,none,.bin .add .other (.tmp 12) (.const (.int .i64 1)),0⟩,
 ⟨some 12,none,.mov (.tmp 24),1⟩]
def impl_CheckOf_l8 :SCode :=(.kp [0,1,11,12] (.seq (.region impl_CheckOf_r4 false) (.kp [0,1,11,12,13] (.seq (.cond (.tmp 13) .skip (.exit 0)) (.kp [0,1,11,12] (.seq (.block 1 (.seq (.region impl_CheckOf_r5 false) (.kp [0,1,6,11,12] (.region impl_CheckOf_r6 false)))) (.kp [0,1,11,12] (.region impl_CheckOf_r7 false))))))))
def impl_CheckOf_r9 :List SOper :=[
 ⟨some 25,none,.mov (.tmp 0),0⟩,
 ⟨some 4,none,.mov (.tmp 25),1⟩,
 ⟨some 5,none,.mov (.const (.bool true)),3⟩]
def impl_CheckOf (i_impl_within :FuncId) :SFunc :=⟨26,[.tmp 4,.tmp 5],(.kp [0,1] (.seq (.region impl_CheckOf_r0 false) (.kp [0,1] (.seq (.seq (.region (impl_CheckOf_r1 i_impl_within) false) (.kp [0,1,9] (.cond (.tmp 9) (.seq (.region impl_CheckOf_r2 false) .ret) .skip))) (.kp [0,1] (.seq (.seq (.region impl_CheckOf_r3 false) (.kp [0,1,11,12] (.block 0 (.loop impl_CheckOf_l8)))) (.kp [0] (.seq (.region impl_CheckOf_r9 false) .ret))))))))⟩
def impl_numbersOf_r0 :List SOper :=[
 ⟨some 1,none,.box (.tmp 0),0⟩,
 ⟨some 2,none,.mov (.const (.slice none 0 0)),0⟩]
def impl_numbersOf_r1 (i_slices_Concat_float32 :FuncId) :List SOper :=[
 ⟨some 3,none,.fieldAddr 0 (.tmp 1),0⟩,
 ⟨some 4,none,.load1 (.tmp 3),1⟩,
 ⟨some 5,none,.fieldAddr 1 (.tmp 1),0⟩,
 ⟨some 6,none,.load1 (.tmp 5),4⟩,
 ⟨some 7,none,.fieldAddr 2 (.tmp 1),0⟩,
 ⟨some 8,none,.load1 (.tmp 7),16⟩,
 ⟨some 9,none,.buildSlice 1 3 [(.slice none 0 0),(.slice none 0 0),(.slice none 0 0)] [(0,1,(.tmp 4)),(1,1,(.tmp 6)),(2,1,(.tmp 8))],63⟩,
 ⟨some 10,none,.call (.func i_slices_Concat_float32) [(.tmp 9)],127⟩,
 ⟨some 2,none,.mov (.tmp 10),255⟩]
def impl_numbersOf (i_slices_Concat_float32 :FuncId) :SFunc :=⟨11,[.tmp 2],(.kp [0] (.seq (.region impl_numbersOf_r0 false) (.kp [1] (.seq (.region (impl_numbersOf_r1 i_slices_Concat_float32) false) .ret))))⟩
def impl_zeroField_r0 :List SOper :=[
 ⟨some 1,none,.box (.tmp 0),0⟩,
 ⟨some 2,none,.alloc [(.slice none 0 0),(.slice none 0 0),(.slice none 0 0)],0⟩]
def impl_zeroField_r1 :List SOper :=[
 ⟨some 4,none,.fieldAddr 0 (.tmp 1),0⟩,
 ⟨some 5,none,.load1 (.tmp 4),1⟩,
 ⟨some 6,none,.fieldAddr 1 (.tmp 1),0⟩,
 ⟨some 7,none,.load1 (.tmp 6),4⟩,
 ⟨some 8,none,.bin .mul .other (.tmp 5) (.tmp 7),15⟩,
 ⟨some 3,none,.mov (.tmp 8),31⟩]
def impl_zeroField_r2 :List SOper :=[
 ⟨some 9,none,.mov (.tmp 3),0⟩,
 ⟨some 10,none,.makeSlice 1 4 [(.float .f32 0)] (.tmp 9) (.tmp 9),1⟩,
 ⟨some 11,none,.mov (.tmp 3),0⟩,
 ⟨some 12,none,.makeSlice 1 4 [(.float .f32 0)] (.tmp 11) (.tmp 11),4⟩,
 ⟨some 13,none,.mov (.tmp 3),0⟩,
 ⟨some 14,none,.makeSlice 1 4 [(.float .f32 0)] (.tmp 13) (.tmp 13),16⟩,
 ⟨some 15,none,.build [(.slice none 0 0),(.slice none 0 0),(.slice none 0 0)] [(0,1,(.tmp 10)),(1,1,(.tmp 12)),(2,1,(.tmp 14))],63⟩,
 ⟨none,none,.store 3 (.tmp 2) (.tmp 15),127⟩]
def impl_zeroField :SFunc :=⟨16,[.cellN 2 3],(.kp [0] (.seq (.region impl_zeroField_r0 false) (.kp [1,2] (.seq (.region impl_zeroField_r1 false) (.kp [2,3] (.seq (.region impl_zeroField_r2 true) .ret))))))⟩
theorem impl_zeroField_r2_dr :(drawOkS impl_zeroField_r2 && storesOnly impl_zeroField_r2)=true :=by kernel_rfl
attribute [push_cast] impl_zeroField_r2_dr
def ckS (c :Nat)(bs :List UInt8) :Nat :=bs.foldl (fun c b =>(677 * c+b.toNat+31) % 65003) c
theorem ckS_take {bs :List UInt8}{i :Nat}(h :i < bs.length) :ckS 0 (bs.take (i+1))=(677 * ckS 0 (bs.take i)+(bs.getD i 0).toNat+31) % 65003 :=by
 unfold ckS
 rw [List.take_add_one,List.getElem?_eq_getElem h,List.foldl_append,List.getD_eq_getElem?_getD,List.getElem?_eq_getElem h]
 rfl
theorem ckS_lt (bs :List UInt8)(c :Nat)(hc :c < 65003) :ckS c bs < 65003 :=by
 unfold ckS
 induction bs generalizing c with
 | nil =>exact hc
 | cons b bs ih =>exact ih _ (Nat.mod_lt _ (by omega))
theorem ck_val {q b :Nat} :(677 * (q :Int)+(b :Int)+31) % 65003=(((677 * q+b+31) % 65003 :Nat) :Int) :=by omega
def impl_CheckOf_ok (c :Contract) :Prop :=∀ (σ :Heap)(bs :List UInt8),bs.length ≤ 1048576→Ret c [.int .i64 0,.string (str bs)] σ fun v σ' =>v = .tuple #[.int .i64 (ckS 0 bs),.bool true]∧σ'=σ
theorem impl_CheckOf_law {C :Ctab}{i1 :FuncId}{c1 :Contract}(h1 :Has C i1 c1 impl_within_ok) :impl_CheckOf_ok (gcC C (impl_CheckOf i1) true) :=by
 intro σ bs hn
 have hR :inR 0 0 65002=true :=by decide
 refine ret_gc rfl rfl ?_
 repeat' (first | refine ff ?_ | (apply EvR.aCall h1.at_;(· exact eva);(· apply h1.ok <;> exact sid);(rintro _ _ ⟨rfl,rfl⟩;refine EvR.nrm ?_;try simp only [hR])) | ((first | refine sR ?_ ?_ | refine sC ?_ ?_) <;> (intro hb;(try rw [hb]);(try simp only [bb] at hb);(try (exfalso;first | omega | exact hb trivial)))) | (apply endS trivial;rotate_left;(· exact eva);(· rfl);try refine⟨?_,rfl⟩) | fail)
 refine Ev.whlC (S :=Nat) (fun i =>bs.length - i) (fun i =>[(0,.int .i64 (ckS 0 (bs.take i) :Nat)),(12,.int .i64 i)]) (fun i =>i ≤ bs.length) 0 (by exact tF) (Nat.zero_le _) ?_
 rintro i F hF hi
 (simp only [List.cons_append,List.nil_append,↓fget_cons,fkeep_cons,fkeep_nil,Nat.reduceEqDiff,reduceIte] at hF;subst hF)
 have hlt65 :=ckS_lt (bs.take i) 0 (by omega)
 by_cases hlt :i < bs.length
 ·have hs :=ckS_take hlt
  have hbt :=UInt8.toNat_lt (bs.getD i 0)
  generalize ckS 0 (bs.take i)=q at *
  repeat' (first | refine ff ?_ | ((first | refine sR ?_ ?_ | refine sC ?_ ?_) <;> (intro hb;(try rw [hb]);(try simp only [bb] at hb);(try (exfalso;first | omega | exact hb trivial)))) | (apply endS trivial;rotate_left;(· exact eva);(· rfl);try refine⟨?_,rfl⟩) | fail)
  exact⟨i+1,by omega,by rw [hs,← ck_val];exact tF,rfl,by omega⟩
 ·obtain rfl :i=bs.length :=by omega
  rw [List.take_length]
  repeat' (first | refine ff ?_ | ((first | refine sR ?_ ?_ | refine sC ?_ ?_) <;> (intro hb;(try rw [hb]);(try simp only [bb] at hb);(try (exfalso;first | omega | exact hb trivial)))) | (apply endS trivial;rotate_left;(· exact eva);(· rfl);try refine⟨?_,rfl⟩) | fail)
  all_goals (try rfl)
def flat (f :Fld) :List Nat :=f.e++(f.x++f.y)
theorem flat_length (f :Fld) :(flat f).length=f.e.length+f.x.length+f.y.length :=by simp [flat];omega
def impl_numbersOf_ok (c :Contract) :Prop :=∀ (σ :Heap)(a b d :Value)(f :Fld),FlR σ a b d f.e f.x f.y→0 < f.e.length→f.e.length+f.x.length+f.y.length ≤ 1048576 →
 Ret c [fV a b d] σ fun v σ' =>v=slV σ.length (flat f).length∧σ'=σ++[rowO (flat f)]
theorem impl_numbersOf_law {C :Ctab}{i1 :FuncId}{c1 :Contract}(h1 :Has C i1 c1 slices_Concat_float32_ok) :impl_numbersOf_ok (gcC C (impl_numbersOf i1) true) :=by
 intro σ a b d f ⟨r1,r2,r3⟩ h0 hn
 have k1 :=r1.ok
 have k2 :=r2.ok
 have k3 :=r3.ok
 have hj :joinR [(a,f.e),(b,f.x),(d,f.y)]=flat f :=by simp [joinR,flat]
 have hl :=flat_length f
 refine ret_gc rfl rfl ?_
 repeat' (first | refine ff ?_ | ((first | refine sR ?_ ?_ | refine sC ?_ ?_) <;> (intro hb;(try rw [hb]);(try simp only [bb] at hb);(try (exfalso;first | omega | exact hb trivial)))) | (apply endS trivial;rotate_left;(· exact eva);(· rfl);try refine⟨?_,rfl⟩) | fail)
 (apply EvR.aCall h1.at_;(· exact eva);(· exact  h1.ok _ (slV (σ.length+1) 3) [(a,f.e),(b,f.x),(d,f.y)] (Row.own rfl (by omega) rfl) (by intro r hr;simp only [List.mem_cons,List.not_mem_nil,or_false] at hr;rcases hr with rfl | rfl | rfl;exact r1.ext _;exact r2.ext _;exact r3.ext _) (by simp) (by rw [hj,hl];omega) (by rw [hj,hl];omega));(rintro _ _ ⟨rfl,rfl⟩;refine EvR.nrm ?_))
 rw [hj]
 simp only [slV]
 repeat' (first | refine ff ?_ | ((first | refine sR ?_ ?_ | refine sC ?_ ?_) <;> (intro hb;(try rw [hb]);(try simp only [bb] at hb);(try (exfalso;first | omega | exact hb trivial)))) | (apply endS trivial;rotate_left;(· exact eva);(· rfl);try refine⟨?_,rfl⟩) | fail)
 (apply endR [2] trivial ⟨rfl,rfl⟩;(· exact eva);(· simp [gcTop,gcVal,gcLeaf,gcLeaves,gcVals,constOk,gc_lt,gc_lt0]);(· rfl);(· decide);(· simp [allConst,f32s,i64s,b8s,bools,constOk]))
def impl_zeroField_ok (c :Contract) :Prop :=∀ (σ :Heap)(W H N :Nat)(wr :Bool)(sv lv :Value),cellOk sv=true→cellOk lv=true→W ≤ 16→H ≤ 16→W * H=N →
 Ret c [shV W H wr sv lv] σ fun v σ' =>v=fV (slV σ.length N) (slV (σ.length+1) N) (slV (σ.length+2) N)∧σ'=σ++[rowO (List.replicate N 0),rowO (List.replicate N 0),rowO (List.replicate N 0)]
theorem impl_zeroField_law {C :Ctab} :impl_zeroField_ok (gcC C impl_zeroField true) :=by
 intro σ W H N wr sv lv k1 k2 hW hH hN
 have hN2 :W * H ≤ 256 :=Nat.mul_le_mul hW hH
 have hWH :(W :Int) * (H :Int)=(N :Int) :=by rw [← hN,Int.natCast_mul]
 refine ret_gc rfl rfl ?_
 repeat' (first | refine ff ?_ | ((first | refine sR ?_ ?_ | refine sC ?_ ?_) <;> (intro hb;(try rw [hb]);(try simp only [bb] at hb);(try (exfalso;first | omega | exact hb trivial)))) | (apply endS trivial;rotate_left;(· exact eva);(· rfl);try refine⟨?_,rfl⟩) | fail)
 rw [hWH,Int.toNat_natCast,show List.replicate N (Value.float .f32 0)=f32s (List.replicate N 0) from by simp [f32s]]
 (apply endR [2,3,4] trivial ⟨rfl,rfl⟩;(· exact eva);(· simp [gcTop,gcVal,gcLeaf,gcLeaves,gcVals,constOk,gc_lt,gc_lt0]);(· rfl);(· decide);(· simp [allConst,f32s,i64s,b8s,bools,constOk]))
end Go.Abs
