/- Laws of functions, some texts put together. Conditions: the laws of what they call. -/
import Derived.Test.YtaacdckenhnocaaFilmsL38
import Derived.Test.YtaacdckenhnocaaFilmsL48
import Derived.Test.YtaacdckenhnocaaFilmsL42
import Derived.Test.YtaacdckenhnocaaFilmsL88
import Derived.Test.YtaacdckenhnocaaFilmsL69
import Derived.Test.YtaacdckenhnocaaFilmsL102
import Derived.Test.YtaacdckenhnocaaFilmsL78
import Derived.Test.YtaacdckenhnocaaFilmsL89
namespace Go.Abs
set_option linter.unusedSimpArgs false
set_option linter.unusedVariables false
set_option maxHeartbeats 8000000
set_option maxRecDepth 20000
theorem chRes_f (t :List UInt8) :chRes false t = .tuple #[.string (str []),.bool false] :=rfl
theorem chRes_t (t :List UInt8) :chRes true t = .tuple #[.string (str t),.bool true] :=rfl
end Go.Abs
namespace Go.Abs
set_option linter.unusedSimpArgs false
set_option linter.unusedVariables false
set_option maxHeartbeats 8000000
set_option maxRecDepth 20000
abbrev bytesK :Bool × List CK :=(false,[.rowI .u8])
theorem bytes_abs {σ :Heap}{v :Value}(h :argAbs σ false [.rowI .u8] v) :∃ xs :List UInt8,Row σ 1 v xs.length (b8s xs)∧xs.length ≤ 9223372036854775807 :=by
 obtain⟨cs,h1,h2⟩ :=h
 obtain⟨_,_,rfl,⟨xs,hs,hs2,hs3⟩,g1⟩ :=absAll_cons h1
 cases absAll_nil g1
 rw [maxLen_eq] at hs2
 simp only [Bool.false_eq_true,if_false,List.cons.injEq,and_true] at h2
 subst h2
 refine⟨xs.map fun x =>UInt8.ofNat x.toNat,?_,by rw [List.length_map];exact hs2⟩
 have e :b8s (xs.map fun x =>UInt8.ofNat x.toNat)=xs.map (.int .u8) :=by
  unfold b8s
  rw [List.map_map]
  apply List.map_congr_left
  intro x hx
  have :=hs3 x hx
  unfold inK at this
  simp [IntKind.min,IntKind.max,IntKind.bits,IntKind.signed] at this
  simp
  omega
 rw [List.length_map,e]
 exact hs
end Go.Abs
namespace Go.Abs
set_option linter.unusedSimpArgs false
set_option linter.unusedVariables false
set_option maxHeartbeats 8000000
set_option maxRecDepth 20000
theorem Row.pre {A S :Heap}(hp :Pre A S){e n :Nat}{v :Value}{cs :List Value}(h :Row A e v n cs) :Row S e v n cs :=by obtain⟨X,rfl⟩ :=hp;exact h.ext X
theorem sameL_refl (xs :List Nat) :sameL xs xs=true :=decide_eq_true rfl
theorem sameSN_refl (w h :Int)(wr :Bool)(sp lo :List Nat) :sameSN w h wr sp lo w h wr sp lo=true :=by unfold sameSN;rw [sameL_refl,sameL_refl];simp
theorem slOk_t {w h :Int}{wr :Bool}{sp lo :List Nat}{fs :List Fld}{a k :Int}(hI :isFilm w h wr sp lo fs=true)(h1 :0 ≤ a)(h2 :a ≤ fs.length)(h3 :0 ≤ k)(h4 :k ≤ fs.length - a) :slOk w h wr sp lo fs a k=true :=by
 unfold slOk;rw [hI];simp [inR];omega
theorem film_fit {W H :Nat}{wr :Bool}{sp lo :List Nat}{fs :List Fld}(hI :isFilm W H wr sp lo fs=true)(hN :W * H ≤ 256) :fitsF fs :=by
 unfold isFilm at hI
 rw [Bool.and_eq_true,Bool.and_eq_true] at hI
 have :=of_decide_eq_true hI.1.2
 refine⟨by omega,fun f hf =>?_⟩
 obtain⟨_,e1,e2,e3⟩ :=isField_len (List.all_eq_true.1 hI.2 f hf)
 have hWH :(W :Int) * (H :Int)=((W * H :Nat) :Int) :=(Int.natCast_mul _ _).symm
 exact⟨by omega,by omega,by omega⟩
section
variable {C :Ctab} {F :Frame} {τ l :Heap}
end
theorem endKK {F :Frame}{σ S l :Heap}{rs :List SRes}{Q :Value→Heap→Prop}{v :Value}{q :Bool}{o :Out}(hp :Pre σ S)(ho :match o with | .exit _ =>False | _ =>True)(h :Q v σ)(h1 :resOf F (S++l) rs=some v)(h2 :gcTop σ.length v=some (v,[])) :
 atEnd rs (fun v0 σ0 =>∃ v ids σ',gcTop σ.length v0=some (v,ids)∧Cleared σ σ0 ids σ'∧QuietTo q σ σ'∧Q v σ') o F (S++l) :=by
 obtain⟨X,rfl⟩ :=hp
 rw [List.append_assoc] at h1 ⊢
 exact endS ho h h1 h2
theorem EvR.ldP {C :Ctab}{F :Frame}{τ l :Heap} {Q}{n d m b o :Nat}{rest :List SOper}{x :Operand}{cells cs :List Value}(hp :PtAt τ b o cells)(h1 :eval F x = .pointer (some ⟨b,o,none⟩))(h2 :cells.take m=cs)(h3 :cs.length=m)(hm :0 < m)
 (h :EvR C rest ((d,.agg cs.toArray)::F) (τ++l) Q) :EvR C (⟨some d,none,.loadN m x,n⟩::rest) F (τ++l) Q :=by
 refine EvR.opS (evL_ok ?_) h
 obtain⟨cells0,r,g1,g2⟩ :=hp
 have hp2 :PtAt τ b o cs :=⟨cells0,r,g1,by
  have hl :cs.length=min m cells.length :=by rw [← h2,List.length_take]
  rw [h3]
  conv =>rhs;rw [← h2,← g2,List.take_take]
  congr 1
  omega⟩
 rw [evL,h1]
 exact hp2.loadNR h3 hm
end Go.Abs
