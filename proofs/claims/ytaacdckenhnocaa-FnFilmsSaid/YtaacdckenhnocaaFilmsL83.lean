/- Laws of functions: rows of numbers joined. Conditions: the laws of what they call. -/
import Derived.Test.YtaacdckenhnocaaFilmsWvH3
import Derived.Test.YtaacdckenhnocaaFilmsL12
namespace Go.Abs
set_option linter.unusedSimpArgs false
set_option linter.unusedVariables false
set_option maxHeartbeats 8000000
set_option maxRecDepth 20000
def slices_Grow_float32_r0 :List SOper :=[
 ⟨some 4,none,.mov (.const (.slice none 0 0)),0⟩]
def slices_Grow_float32_r1 :List SOper :=[
 ⟨some 5,none,.mov (.tmp 1),0⟩,
 ⟨some 6,none,.bin .lss .other (.tmp 5) (.const (.int .i64 0)),1⟩]
def slices_Grow_float32_r2 :List SOper :=[
 ⟨some 7,none,.extract (.const (.bool false)) 0,0⟩,
 ⟨none,none,.extract (.const (.bool false)) 0,1⟩]
def slices_Grow_float32_r3 :List SOper :=[
 ⟨some 8,none,.mov (.tmp 1),0⟩,
 ⟨some 9,none,.mov (.tmp 0),0⟩,
 ⟨some 10,none,.cap (.tmp 9),2⟩,
 ⟨some 11,none,.mov (.tmp 0),0⟩,
 ⟨some 12,none,.len false (.tmp 11),8⟩,
 ⟨some 13,none,.bin .sub .other (.tmp 10) (.tmp 12),30⟩,
 ⟨some 14,none,.bin .sub .other (.tmp 8) (.tmp 13),63⟩,
 ⟨some 1,none,.mov (.tmp 14),127⟩]
def slices_Grow_float32_r4 :List SOper :=[
 ⟨some 15,none,.mov (.tmp 1),0⟩,
 ⟨some 16,none,.bin .gtr .other (.tmp 15) (.const (.int .i64 0)),1⟩]
def slices_Grow_float32_r5 :List SOper :=[
 ⟨some 17,none,.mov (.tmp 0),0⟩,
 ⟨some 18,none,.mov (.tmp 0),0⟩,
 ⟨some 19,none,.cap (.tmp 18),2⟩,
 ⟨some 20,none,.sliceSl 1 (.tmp 17) none (some (.tmp 19)),7⟩,
 ⟨some 21,none,.mov (.tmp 1),0⟩,
 ⟨some 22,none,.appendZ 1 4 [(.float .f32 0)] (.tmp 20) (.tmp 21),31⟩,
 ⟨some 23,none,.mov (.tmp 0),0⟩,
 ⟨some 24,none,.len false (.tmp 23),64⟩,
 ⟨some 25,none,.sliceSl 1 (.tmp 22) none (some (.tmp 24)),255⟩,
 ⟨some 0,none,.mov (.tmp 25),511⟩]
def slices_Grow_float32_r6 :List SOper :=[
 ⟨some 26,none,.mov (.tmp 0),0⟩,
 ⟨some 4,none,.mov (.tmp 26),1⟩]
def slices_Grow_float32 :SFunc :=⟨27,[.tmp 4],(.kp [0,1] (.seq (.region slices_Grow_float32_r0 false) (.kp [0,1] (.seq (.seq (.region slices_Grow_float32_r1 false) (.kp [0,1,6] (.cond (.tmp 6) (.region slices_Grow_float32_r2 false) .skip))) (.kp [0,1] (.seq (.seq (.region slices_Grow_float32_r3 false) (.kp [0,1] (.seq (.region slices_Grow_float32_r4 false) (.kp [0,1,16] (.cond (.tmp 16) (.region slices_Grow_float32_r5 false) .skip))))) (.kp [0] (.seq (.region slices_Grow_float32_r6 false) .ret))))))))⟩
def slices_Concat_float32_r0 :List SOper :=[
 ⟨some 2,none,.mov (.const (.slice none 0 0)),0⟩]
def slices_Concat_float32_r1 :List SOper :=[
 ⟨some 3,none,.mov (.const (.int .i64 0)),0⟩]
def slices_Concat_float32_r2 :List SOper :=[
 ⟨some 9,none,.mov (.tmp 0),0⟩,
 ⟨some 10,none,.len false (.tmp 9),1⟩,
 ⟨some 11,none,.mov (.const (.int .i64 0)),0⟩]
def slices_Concat_float32_r3 :List SOper :=[
 ⟨some 12,none,.bin .lss .other (.tmp 11) (.tmp 10),0⟩]
def slices_Concat_float32_r4 :List SOper :=[
 ⟨some 13,none,.indexAddrS 1 (.tmp 9) (.tmp 11),0⟩,
 ⟨some 14,none,.load1 (.tmp 13),1⟩,
 ⟨some 5,none,.mov (.tmp 14),3⟩]
def slices_Concat_float32_r5 :List SOper :=[
 ⟨some 15,none,.mov (.tmp 3),0⟩,
 ⟨some 16,none,.mov (.tmp 5),0⟩,
 ⟨some 17,none,.len false (.tmp 16),2⟩,
 ⟨some 18,none,.bin .add .other (.tmp 15) (.tmp 17),7⟩,
 ⟨some 3,none,.mov (.tmp 18),15⟩]
def slices_Concat_float32_r6 :List SOper :=[
 ⟨some 19,none,.mov (.tmp 3),0⟩,
 ⟨some 20,none,.bin .lss .other (.tmp 19) (.const (.int .i64 0)),1⟩]
def slices_Concat_float32_r7 :List SOper :=[
 ⟨some 21,none,.extract (.const (.bool false)) 0,0⟩,
 ⟨none,none,.extract (.const (.bool false)) 0,1⟩]
def slices_Concat_float32_r8 :List SOper :=[
 ⟨some 22,none,.bin .add .other (.tmp 11) (.const (.int .i64 1)),0⟩,
 ⟨some 11,none,.mov (.tmp 22),1⟩]
def slices_Concat_float32_l9 :SCode :=(.kp [0,3,9,10,11] (.seq (.region slices_Concat_float32_r3 false) (.kp [0,3,9,10,11,12] (.seq (.cond (.tmp 12) .skip (.exit 0)) (.kp [0,3,9,10,11] (.seq (.block 1 (.seq (.region slices_Concat_float32_r4 false) (.kp [0,3,5,9,10,11] (.seq (.region slices_Concat_float32_r5 false) (.kp [0,3,9,10,11] (.seq (.region slices_Concat_float32_r6 false) (.kp [0,3,9,10,11,20] (.cond (.tmp 20) (.region slices_Concat_float32_r7 false) .skip)))))))) (.kp [0,3,9,10,11] (.region slices_Concat_float32_r8 false))))))))
def slices_Concat_float32_r10 (i_slices_Grow_float32 :FuncId) :List SOper :=[
 ⟨some 23,none,.mov (.tmp 3),0⟩,
 ⟨some 24,none,.call (.func i_slices_Grow_float32) [(.const (.slice none 0 0)),(.tmp 23)],1⟩,
 ⟨some 6,none,.mov (.tmp 24),3⟩]
def slices_Concat_float32_r11 :List SOper :=[
 ⟨some 25,none,.mov (.tmp 0),0⟩,
 ⟨some 26,none,.len false (.tmp 25),1⟩,
 ⟨some 27,none,.mov (.const (.int .i64 0)),0⟩]
def slices_Concat_float32_r12 :List SOper :=[
 ⟨some 28,none,.bin .lss .other (.tmp 27) (.tmp 26),0⟩]
def slices_Concat_float32_r13 :List SOper :=[
 ⟨some 29,none,.indexAddrS 1 (.tmp 25) (.tmp 27),0⟩,
 ⟨some 30,none,.load1 (.tmp 29),1⟩,
 ⟨some 8,none,.mov (.tmp 30),3⟩]
def slices_Concat_float32_r14 :List SOper :=[
 ⟨some 31,none,.mov (.tmp 6),0⟩,
 ⟨some 32,none,.mov (.tmp 8),0⟩,
 ⟨some 33,none,.append 1 4 (.tmp 31) (.tmp 32),3⟩,
 ⟨some 6,none,.mov (.tmp 33),7⟩]
def slices_Concat_float32_r15 :List SOper :=[
 ⟨some 34,none,.bin .add .other (.tmp 27) (.const (.int .i64 1)),0⟩,
 ⟨some 27,none,.mov (.tmp 34),1⟩]
def slices_Concat_float32_l16 :SCode :=(.kp [6,25,26,27] (.seq (.region slices_Concat_float32_r12 false) (.kp [6,25,26,27,28] (.seq (.cond (.tmp 28) .skip (.exit 2)) (.kp [6,25,26,27] (.seq (.block 3 (.seq (.region slices_Concat_float32_r13 false) (.kp [6,8,25,26,27] (.region slices_Concat_float32_r14 false)))) (.kp [6,25,26,27] (.region slices_Concat_float32_r15 false))))))))
def slices_Concat_float32_r17 :List SOper :=[
 ⟨some 35,none,.mov (.tmp 6),0⟩,
 ⟨some 2,none,.mov (.tmp 35),1⟩]
def slices_Concat_float32 (i_slices_Grow_float32 :FuncId) :SFunc :=⟨36,[.tmp 2],(.kp [0] (.seq (.region slices_Concat_float32_r0 false) (.kp [0] (.seq (.region slices_Concat_float32_r1 false) (.kp [0,3] (.seq (.seq (.region slices_Concat_float32_r2 false) (.kp [0,3,9,10,11] (.block 0 (.loop slices_Concat_float32_l9)))) (.kp [0,3] (.seq (.region (slices_Concat_float32_r10 i_slices_Grow_float32) false) (.kp [0,6] (.seq (.seq (.region slices_Concat_float32_r11 false) (.kp [6,25,26,27] (.block 2 (.loop slices_Concat_float32_l16)))) (.kp [6] (.seq (.region slices_Concat_float32_r17 false) .ret))))))))))))⟩
section
variable {C :Ctab} {F :Frame} {τ l :Heap}
theorem EvR.leG {Q}{d n i m :Nat}{rest :List SOper}{x :Operand}{v a :Value}{cs :List Value}(hr :Row τ 1 v m cs)(hi :i < m)(hc :cs[i]? = some a)(h1 :eval F x=elemP 1 v i)
 (h :EvR C rest ((d,a)::F) (τ++l) Q) :EvR C (⟨some d,none,.load1 x,n⟩::rest) F (τ++l) Q :=by
 refine EvR.opS (evL_ok ?_) h
 rw [evL,h1,(hr.ext l).load hi,hc]
theorem EvR.cpN {Q}{σ :Heap}{d n m c :Nat}{rest :List SOper}{x :Operand}(h1 :eval F x = .slice none m c)(h :EvR C rest ((d,.int .i64 c)::F) σ Q) :EvR C (⟨some d,none,.cap x,n⟩::rest) F σ Q :=
 EvR.opS (by simp only [evOp,h1,aCap,Option.map_some]) h
theorem EvR.slN {Q}{σ :Heap}{d n :Nat}{rest :List SOper}{x y :Operand}{k :IntKind}(h1 :eval F x = .slice none 0 0)(h2 :eval F y = .int k 0)(h :EvR C rest ((d,.slice none 0 0)::F) σ Q) :EvR C (⟨some d,none,.sliceSl 1 x none (some y),n⟩::rest) F σ Q :=
 EvR.opS (by simp [evOp,h1,h2,aSliceSl,Abs.idx]) h
theorem EvR.slZ {Q}{d n i k :Nat}{rest :List SOper}{x y :Operand}{kk :IntKind}{cells :List Value}{r :Bool}(h1 :eval F x = .slice (some ⟨τ.length+i,0,none⟩) k k)(h2 :eval F y = .int kk 0)(h3 :l[i]? = some ⟨cells,1,r⟩)(h4 :cells.length=k)
 (h :EvR C rest ((d,.slice (some ⟨τ.length+i,0,none⟩) 0 k)::F) (τ++l) Q) :EvR C (⟨some d,none,.sliceSl 1 x none (some y),n⟩::rest) F (τ++l) Q :=by
 refine EvR.opS ?_ h
 have hrow :rowAt (τ++l) 1 ⟨τ.length+i,0,none⟩ k=some ⟨cells,1,r⟩ :=rowAt_mk (by rw [hget];exact h3) rfl (by simp [h4]) (by omega)
 simp [evOp,h1,h2,aSliceSl,Abs.idx,hrow]
theorem EvR.apZ {Q}{d n k :Nat}{rest :List SOper}{x y :Operand}{kk :IntKind}(h1 :eval F x = .slice none 0 0)(h2 :eval F y = .int kk (k :Nat))(h0 :0 < k)(hk :k ≤ 1048576)
 (h :EvR C rest ((d,.slice (some ⟨τ.length+l.length,0,none⟩) k k)::F) (τ++(l++[rowO (List.replicate k 0)])) Q) :EvR C (⟨some d,none,.appendZ 1 4 [.float .f32 0] x y,n⟩::rest) F (τ++l) Q :=by
 refine EvR.opS (σ' :=τ++(l++[rowO (List.replicate k 0)])) ?_ h
 have h44 :(2 :Int) ^ 44=17592186044416 :=by decide
 simp only [evOp,h1,h2,aAppendZ]
 rw [if_pos ⟨trivial,trivial,by omega,by rw [h44];omega,by rw [h44];omega,by omega,rfl⟩,Int.toNat_natCast]
 simp only [newRow,rowO,f32s,List.map_replicate,List.flatten_replicate_singleton,List.length_append,List.append_assoc]
theorem EvR.apI {Q}{d n i m c k :Nat}{rest :List SOper}{x y :Operand}{cells ys :List Value}{yv :Value}(h1 :eval F x = .slice (some ⟨τ.length+i,0,none⟩) m c)(h2 :l[i]? = some ⟨cells,1,true⟩)(h3 :cells.length=c)(h4 :eval F y=yv)
 (hr :Row (τ++l) 1 yv k ys) (hk :m+k ≤ c) (hc :c ≤ 1048576) (ha :ys.all cellOk=true) (h :EvR C rest ((d,.slice (some ⟨τ.length+i,0,none⟩) (m+k) c)::F) (τ++l.set i ⟨splice cells m ys,1,true⟩) Q) :
 EvR C (⟨some d,none,.append 1 4 x y,n⟩::rest) F (τ++l) Q :=by
 have hx :=hr.app
 have hyl :=hr.length
 have hrow :rowAt (τ++l) 1 ⟨τ.length+i,0,none⟩ c=some ⟨cells,1,true⟩ :=rowAt_mk (by rw [hget];exact h2) rfl (by simp [h3]) (by omega)
 have h44 :(2 :Nat) ^ 44=17592186044416 :=by decide
 refine EvR.opS (σ' :=τ++l.set i ⟨splice cells m ys,1,true⟩) ?_ h
 rcases Nat.lt_or_ge m c with hlt | hge
 ·simp only [evOp,h1,h4,aAppend,hx,hrow]
  rw [if_neg (by rintro⟨_,_,h,_⟩;omega),if_pos ⟨trivial,hlt,hk,ha⟩]
  rw [set_app,Nat.zero_add,Nat.mul_one]
 ·obtain rfl :m=c :=by omega
  obtain rfl :k=0 :=by omega
  have hy0 :ys=[] :=List.length_eq_zero_iff.1 (by omega)
  subst hy0
  simp only [evOp,h1,h4,aAppend,hx,hrow]
  rw [if_pos ⟨trivial,trivial,trivial,by omega,by omega,ha⟩]
  rw [set_app]
  unfold splice
  rw [← h3]
  simp
end
def slices_Grow_float32_ok (c :Contract) :Prop :=∀ (σ :Heap)(n :Nat),0 < n→n ≤ 1048576→Ret c [.slice none 0 0,.int .i64 n] σ fun v σ' =>v = .slice (some ⟨σ.length,0,none⟩) 0 n∧σ'=σ++[rowO (List.replicate n 0)]
theorem slices_Grow_float32_law {C :Ctab} :slices_Grow_float32_ok (gcC C slices_Grow_float32 true) :=by
 intro σ n h0 hn
 refine ret_gc rfl rfl ?_
 repeat' (first | refine ff ?_ | ((first | refine sR ?_ ?_ | refine sC ?_ ?_) <;> (intro hb;(try rw [hb]);(try simp only [bb] at hb);(try (exfalso;first | omega | exact hb trivial)))) | (apply endS trivial;rotate_left;(· exact eva);(· rfl);try refine⟨?_,rfl⟩) | fail)
 refine EvR.cpN rfl ?_
 repeat' (first | refine ff ?_ | ((first | refine sR ?_ ?_ | refine sC ?_ ?_) <;> (intro hb;(try rw [hb]);(try simp only [bb] at hb);(try (exfalso;first | omega | exact hb trivial)))) | (apply endS trivial;rotate_left;(· exact eva);(· rfl);try refine⟨?_,rfl⟩) | fail)
 refine EvR.cpN rfl ?_
 repeat' (first | refine ff ?_ | ((first | refine sR ?_ ?_ | refine sC ?_ ?_) <;> (intro hb;(try rw [hb]);(try simp only [bb] at hb);(try (exfalso;first | omega | exact hb trivial)))) | (apply endS trivial;rotate_left;(· exact eva);(· rfl);try refine⟨?_,rfl⟩) | fail)
 refine EvR.slN rfl rfl ?_
 repeat' (first | refine ff ?_ | ((first | refine sR ?_ ?_ | refine sC ?_ ?_) <;> (intro hb;(try rw [hb]);(try simp only [bb] at hb);(try (exfalso;first | omega | exact hb trivial)))) | (apply endS trivial;rotate_left;(· exact eva);(· rfl);try refine⟨?_,rfl⟩) | fail)
 refine EvR.apZ (k :=n) (l :=[]) rfl (by show Value.int .i64 ((n :Int) - (((0 :Nat) :Int) - ((0 :Nat) :Int))) = .int .i64 (n :Int);simp) h0 hn ?_
 repeat' (first | refine ff ?_ | ((first | refine sR ?_ ?_ | refine sC ?_ ?_) <;> (intro hb;(try rw [hb]);(try simp only [bb] at hb);(try (exfalso;first | omega | exact hb trivial)))) | (apply endS trivial;rotate_left;(· exact eva);(· rfl);try refine⟨?_,rfl⟩) | fail)
 refine EvR.slZ (i :=0) (k :=n) rfl rfl (by exact rfl) (by rw [f32s_length,List.length_replicate]) ?_
 repeat' (first | refine ff ?_ | ((first | refine sR ?_ ?_ | refine sC ?_ ?_) <;> (intro hb;(try rw [hb]);(try simp only [bb] at hb);(try (exfalso;first | omega | exact hb trivial)))) | (apply endS trivial;rotate_left;(· exact eva);(· rfl);try refine⟨?_,rfl⟩) | fail)
 (apply endR [0] trivial ⟨rfl,rfl⟩;(· exact eva);(· simp [gcTop,gcVal,gcLeaf,gcLeaves,gcVals,constOk,gc_lt,gc_lt0]);(· rfl);(· decide);(· simp [allConst,f32s,i64s,b8s,bools,constOk]))
def joinR (rows :List (Value × List Nat)) :List Nat :=(rows.map Prod.snd).flatten
theorem joinR_take {rows :List (Value × List Nat)}{i :Nat}{r :Value × List Nat}(h :rows[i]? = some r) :joinR (rows.take (i+1))=joinR (rows.take i)++r.2 :=by
 unfold joinR
 rw [List.take_add_one,h,List.map_append,List.flatten_append]
 simp
theorem joinR_le (rows :List (Value × List Nat))(i :Nat) :(joinR (rows.take i)).length ≤ (joinR rows).length :=by
 unfold joinR
 conv =>rhs;rw [← List.take_append_drop i rows,List.map_append,List.flatten_append,List.length_append]
 omega
theorem splice_join {pre ys :List Nat}{n :Nat}(h :pre.length+ys.length ≤ n) :splice (f32s (pre++List.replicate (n - pre.length) 0)) pre.length (f32s ys)=f32s ((pre++ys)++List.replicate (n - (pre++ys).length) 0) :=by
 unfold splice f32s
 rw [List.length_append,List.map_append,List.take_left' (by simp),List.drop_append]
 simp only [List.length_map,List.map_append,List.map_replicate,List.drop_replicate]
 rw [List.drop_eq_nil_of_le (by simp)]
 simp
 omega
def slices_Concat_float32_ok (c :Contract) :Prop :=∀ (σ :Heap)(v :Value)(rows :List (Value × List Nat)),Row σ 1 v rows.length (rows.map Prod.fst)→(∀ r ∈ rows,Row σ 1 r.1 r.2.length (f32s r.2))→rows.length ≤ 1048576→0 < (joinR rows).length→(joinR rows).length ≤ 1048576 →
 Ret c [v] σ fun v' σ' =>v'=slV σ.length (joinR rows).length∧σ'=σ++[rowO (joinR rows)]
theorem slices_Concat_float32_law {C :Ctab}{i1 :FuncId}{c1 :Contract}(h1 :Has C i1 c1 slices_Grow_float32_ok) :slices_Concat_float32_ok (gcC C (slices_Concat_float32 i1) true) :=by
 intro σ v rows hrow hrs hn h0 hle
 have k1 :=hrow.ok
 obtain⟨n,hN⟩ :∃ n,n=(joinR rows).length :=⟨_,rfl⟩
 rw [← hN] at h0 hle ⊢
 refine ret_gc rfl rfl ?_
 repeat' (first | refine ff ?_ | ((first | refine sR ?_ ?_ | refine sC ?_ ?_) <;> (intro hb;(try rw [hb]);(try simp only [bb] at hb);(try (exfalso;first | omega | exact hb trivial)))) | (apply endS trivial;rotate_left;(· exact eva);(· rfl);try refine⟨?_,rfl⟩) | fail)
 refine Ev.whlC (S :=Nat) (fun i =>rows.length - i) (fun i =>[(3,.int .i64 (joinR (rows.take i)).length),(11,.int .i64 i)]) (fun i =>i ≤ rows.length) 0 (by exact tF) (Nat.zero_le _) ?_
 rintro i F hF hi
 (simp only [List.cons_append,List.nil_append,↓fget_cons,fkeep_cons,fkeep_nil,Nat.reduceEqDiff,reduceIte] at hF;subst hF)
 by_cases hlt :i < rows.length
 ·obtain⟨⟨rv,xs⟩,hr⟩ :∃ r,rows[i]? = some r :=⟨_,List.getElem?_eq_getElem hlt⟩
  have hx :Row σ 1 rv xs.length (f32s xs) :=hrs _ (List.mem_of_getElem? hr)
  have kx :=hx.ok
  have hj :=joinR_take hr
  have hjl :=joinR_le rows (i+1)
  rw [hj,List.length_append] at hjl
  dsimp only at hj hjl
  repeat' (first | refine ff ?_ | ((first | refine sR ?_ ?_ | refine sC ?_ ?_) <;> (intro hb;(try rw [hb]);(try simp only [bb] at hb);(try (exfalso;first | omega | exact hb trivial)))) | (apply endS trivial;rotate_left;(· exact eva);(· rfl);try refine⟨?_,rfl⟩) | fail)
  refine EvR.leG hrow hlt (a :=rv) (by rw [List.getElem?_map,hr];rfl) rfl ?_
  repeat' (first | refine ff ?_ | ((first | refine sR ?_ ?_ | refine sC ?_ ?_) <;> (intro hb;(try rw [hb]);(try simp only [bb] at hb);(try (exfalso;first | omega | exact hb trivial)))) | (apply endS trivial;rotate_left;(· exact eva);(· rfl);try refine⟨?_,rfl⟩) | fail)
  exact⟨i+1,by omega,by rw [hj,List.length_append];exact tF,rfl,by omega⟩
 ·obtain rfl :i=rows.length :=by omega
  rw [List.take_length,← hN]
  repeat' (first | refine ff ?_ | ((first | refine sR ?_ ?_ | refine sC ?_ ?_) <;> (intro hb;(try rw [hb]);(try simp only [bb] at hb);(try (exfalso;first | omega | exact hb trivial)))) | (apply endS trivial;rotate_left;(· exact eva);(· rfl);try refine⟨?_,rfl⟩) | fail)
  (apply EvR.aCall h1.at_;(· exact eva);(· exact  h1.ok _ n h0 hle);(rintro _ _ ⟨rfl,rfl⟩;refine EvR.nrm ?_))
  repeat' (first | refine ff ?_ | ((first | refine sR ?_ ?_ | refine sC ?_ ?_) <;> (intro hb;(try rw [hb]);(try simp only [bb] at hb);(try (exfalso;first | omega | exact hb trivial)))) | (apply endS trivial;rotate_left;(· exact eva);(· rfl);try refine⟨?_,rfl⟩) | fail)
  refine Ev.whlH (S :=Nat) (fun i =>rows.length - i) (fun i =>[(6,.slice (some ⟨σ.length+0,0,none⟩) (joinR (rows.take i)).length n),(27,.int .i64 i)]) (fun i =>σ++[rowO (joinR (rows.take i)++List.replicate (n - (joinR (rows.take i)).length) 0)]) (fun i =>i ≤ rows.length) 0 (by exact tF) rfl (Nat.zero_le _) ?_
  rintro i F hF hi
  (simp only [List.cons_append,List.nil_append,↓fget_cons,fkeep_cons,fkeep_nil,Nat.reduceEqDiff,reduceIte] at hF;subst hF)
  by_cases hlt :i < rows.length
  ·obtain⟨⟨rv,xs⟩,hr⟩ :∃ r,rows[i]? = some r :=⟨_,List.getElem?_eq_getElem hlt⟩
   have hx :Row σ 1 rv xs.length (f32s xs) :=hrs _ (List.mem_of_getElem? hr)
   have kx :=hx.ok
   have hj :=joinR_take hr
   have hjl :=joinR_le rows (i+1)
   have hjl0 :=joinR_le rows i
   rw [hj,List.length_append] at hjl
   dsimp only at hj hjl
   repeat' (first | refine ff ?_ | ((first | refine sR ?_ ?_ | refine sC ?_ ?_) <;> (intro hb;(try rw [hb]);(try simp only [bb] at hb);(try (exfalso;first | omega | exact hb trivial)))) | (apply endS trivial;rotate_left;(· exact eva);(· rfl);try refine⟨?_,rfl⟩) | fail)
   refine EvR.leG hrow hlt (a :=rv) (by rw [List.getElem?_map,hr];rfl) rfl ?_
   repeat' (first | refine ff ?_ | ((first | refine sR ?_ ?_ | refine sC ?_ ?_) <;> (intro hb;(try rw [hb]);(try simp only [bb] at hb);(try (exfalso;first | omega | exact hb trivial)))) | (apply endS trivial;rotate_left;(· exact eva);(· rfl);try refine⟨?_,rfl⟩) | fail)
   refine EvR.apI (τ :=σ) (i :=0) (m :=(joinR (rows.take i)).length) (c :=n) (k :=xs.length) rfl (by exact rfl) (by rw [f32s_length,List.length_append,List.length_replicate];omega) rfl (hx.ext _) (by omega) hle (f32s_ok _) ?_
   rw [splice_join (by omega),← hj]
   repeat' (first | refine ff ?_ | ((first | refine sR ?_ ?_ | refine sC ?_ ?_) <;> (intro hb;(try rw [hb]);(try simp only [bb] at hb);(try (exfalso;first | omega | exact hb trivial)))) | (apply endS trivial;rotate_left;(· exact eva);(· rfl);try refine⟨?_,rfl⟩) | fail)
   exact⟨i+1,by omega,by rw [hj,List.length_append];exact tF,rfl,by omega⟩
  ·obtain rfl :i=rows.length :=by omega
   rw [List.take_length,← hN,Nat.sub_self,List.replicate_zero,List.append_nil]
   repeat' (first | refine ff ?_ | ((first | refine sR ?_ ?_ | refine sC ?_ ?_) <;> (intro hb;(try rw [hb]);(try simp only [bb] at hb);(try (exfalso;first | omega | exact hb trivial)))) | (apply endS trivial;rotate_left;(· exact eva);(· rfl);try refine⟨?_,rfl⟩) | fail)
   (apply endR [0] trivial ⟨rfl,rfl⟩;(· exact eva);(· simp [gcTop,gcVal,gcLeaf,gcLeaves,gcVals,constOk,gc_lt,gc_lt0]);(· rfl);(· decide);(· simp [allConst,f32s,i64s,b8s,bools,constOk]))
end Go.Abs
