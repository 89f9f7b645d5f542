/- Laws of functions, some texts put together. Conditions: the laws of what they call. -/
import Derived.Test.YtaacdckenhnocaaFilmsL69
import Derived.Test.YtaacdckenhnocaaFilmsL26
import Derived.Test.YtaacdckenhnocaaFilmsL27
namespace Go.Abs
set_option linter.unusedSimpArgs false
set_option linter.unusedVariables false
structure FilmN (H :Heap)(lo s l :Nat)(sp ls :List Nat) :Prop where
 inv :RInv H lo [(s,sp),(l,ls)]
section
variable {H :Heap} {lo s l :Nat} {sp ls :List Nat}
theorem FilmN.sheet (h :FilmN H lo s l sp ls) :ShR H (slV s sp.length) (slV l ls.length) sp ls :=
 ⟨Row.whole (h.inv.own (s,sp) (by simp)) (by omega) (by rw [f32s_length];omega),Row.whole (h.inv.own (l,ls) (by simp)) (by omega) (by rw [f32s_length];omega)⟩
theorem FilmN.fls (h :FilmN H lo s l sp ls) :FlsR H (.slice none 0 0) [] :=noFlsR _
theorem FilmN.ext (h :FilmN H lo s l sp ls)(t :Heap) :FilmN (H++t) lo s l sp ls :=⟨h.inv.ext t⟩
theorem FilmN.pre {S :Heap}(hp :Pre H S)(h :FilmN H lo s l sp ls) :FilmN S lo s l sp ls :=by obtain⟨X,rfl⟩ :=hp;exact h.ext X
theorem FilmN.keep {H' :Heap}(h :FilmN H lo s l sp ls)(hk :∀ o,lo ≤ o→o < H.length→H'[o]? = H[o]?) :FilmN H' lo s l sp ls :=⟨h.inv.keep hk⟩
theorem FilmN.less {lo' :Nat}(h :FilmN H lo s l sp ls)(hl :lo' ≤ lo) :FilmN H lo' s l sp ls :=⟨h.inv.less hl⟩
theorem FilmN.lows (h :FilmN H lo s l sp ls) :∀ p ∈ [(s,sp),(l,ls)],lo ≤ p.1 :=h.inv.low
end
structure FmResN (ok :Bool)(σ σ' :Heap)(v :Value)(w h :Int)(wr :Bool)(sp lo :List Nat)(gs :List Fld) :Prop where
 t :ok=true→gs ≠ [] → ∃ τ s l b R,σ'=σ++τ∧v = .tuple #[fmV w h wr (slV s sp.length) (slV l lo.length) (slV b gs.length),.bool true]∧FilmO σ' σ.length s l b R sp lo gs
 n :ok=true→gs=[] → ∃ τ s l,σ'=σ++τ∧v = .tuple #[fmV w h wr (slV s sp.length) (slV l lo.length) (.slice none 0 0),.bool true]∧FilmN σ' σ.length s l sp lo
 f :ok=false→(∃ τ,σ'=σ++τ)∧v = .tuple #[noFilm,.bool false]
theorem FmResN.no {σ τ :Heap}{v :Value}{w h :Int}{wr :Bool}{sp lo :List Nat}{gs :List Fld}(hv :v = .tuple #[noFilm,.bool false]) :FmResN false σ (σ++τ) v w h wr sp lo gs :=⟨fun h =>(by cases h),fun h =>(by cases h),fun _ =>⟨⟨_,rfl⟩,hv⟩⟩
end Go.Abs
namespace Go.Abs
set_option linter.unusedSimpArgs false
set_option linter.unusedVariables false
set_option maxHeartbeats 8000000
set_option maxRecDepth 20000
theorem RInv.setOut {H H' :Heap}{lo b :Nat}{R :Rws}(h :RInv H lo R)(hb :b ∉ R.map Prod.fst)(hk :∀ o,o ≠ b→o < H.length→H'[o]? = H[o]?) :RInv H' lo R :=
 ⟨fun p hp =>by rw [hk p.1 (fun hc =>hb (by rw [← hc];exact List.mem_map_of_mem hp)) (h.lt hp)];exact h.own p hp,h.low,h.nod⟩
end Go.Abs
