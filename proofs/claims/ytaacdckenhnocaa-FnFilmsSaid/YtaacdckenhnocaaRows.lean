/-
  No cell of these rows narrows 'for every input' (looked for: loops, veiled, ifaces, maps, wideKeys, modest, calm, conditions, laid).
  DERIVED. THE GIVEN ROWS OF THIS SEAT. 4 by the template 'for every input the law returns true; each argument reads behind the call as it read before'; 0 by the template 'total and deterministic' (their statements: YtaacdckenhnocaaTotals.lean).
  GIVEN WITH THE SEED: the statements are not yours to turn. If you find one false, say at which input.
  Laid BY PROGRAM, IN A SANDBOX (cutbox-rows.mjs): the forced cells as the released guide's own fill.sh prints them over the translation dcc2854d25c6f45c… (all of the seat's roots in one cut). By AI agents, Wed Nov 11 2026. No macro, syntax, notation, axiom, sorry.
-/
import Derived.Test.YtaacdckenhnocaaChecked
import GoSem.Claim
import GoSem.ClaimJoined
import GoSem.ClaimMapViews
import Derived.JoinedTies
import Derived.KernelRfl
namespace Go.Proofs.Ytaacdckenhnocaa
/- THE CELL 'sum', in the pinned program and in every row, IS THE sha256 OF THE DUMP (.gsa) THAT YtaacdckenhnocaaProg.lean LOADS. Nothing in Lean hashes anything: it is a label: what it is worth is what the hold of that sum in a sandbox is worth. -/
noncomputable def Try.pinned : Pinned := { name := "ytaacdckenhnocaa", sum := "dcc2854d25c6f45ca2476519959428d10fc70222d95e65a5fc9216c52e3fd950", checked := Try.checked }
namespace Rows
def none {H : Type} : Left H := { results := [], args := [] }

/-- 'laws.FnExactLoadSheet': WHATEVER THE INPUT: true; the input reads as it did. -/
def fnExactLoadSheetSpec : ChangeSpec := { name := "fnExactLoadSheet", fn := fun _ => fun
  | [d] => { results := [.lit (.bool true)], args := [d] }
  | _ => none }
def fnExactLoadSheetRow : OpenClaim := { program := "ytaacdckenhnocaa", sum := "dcc2854d25c6f45ca2476519959428d10fc70222d95e65a5fc9216c52e3fd950", func := "loop.example/g01201/laws.FnExactLoadSheet", spec := "fnExactLoadSheet", inPlace := ["math.Float32frombits", "math.Float32bits"], apart := false }
def FnExactLoadSheetSaid : Prop := fnExactLoadSheetRow.holds Try.pinned (OpenSpec.ofChange fnExactLoadSheetSpec)

/-- ITS FALSE NEIGHBOUR: 'it returns false'. Refute it at one input. -/
def fnExactLoadSheetWrong : ChangeSpec := { name := "fnExactLoadSheet", fn := fun _ => fun
  | [d] => { results := [.lit (.bool false)], args := [d] }
  | _ => none }
def FnExactLoadSheetWrongFalsely : Prop := fnExactLoadSheetRow.holds Try.pinned (OpenSpec.ofChange fnExactLoadSheetWrong)

/-- 'laws.FnFilms': WHATEVER THE INPUT: true; the input reads as it did. -/
def fnFilmsSpec : ChangeSpec := { name := "fnFilms", fn := fun _ => fun
  | [d1, d2] => { results := [.lit (.bool true)], args := [d1, d2] }
  | _ => none }
def fnFilmsRow : OpenClaim := { program := "ytaacdckenhnocaa", sum := "dcc2854d25c6f45ca2476519959428d10fc70222d95e65a5fc9216c52e3fd950", func := "loop.example/g01201/laws.FnFilms", spec := "fnFilms", inPlace := ["math.Float32frombits", "math.Float32bits", "math.Float64bits"], unfollowed := true, recurses := true, apart := false }
def FnFilmsSaid : Prop := fnFilmsRow.holds Try.pinned (OpenSpec.ofChange fnFilmsSpec)

/-- ITS FALSE NEIGHBOUR: 'it returns false'. Refute it at one input. -/
def fnFilmsWrong : ChangeSpec := { name := "fnFilms", fn := fun _ => fun
  | [d1, d2] => { results := [.lit (.bool false)], args := [d1, d2] }
  | _ => none }
def FnFilmsWrongFalsely : Prop := fnFilmsRow.holds Try.pinned (OpenSpec.ofChange fnFilmsWrong)

/-- 'laws.FnExactRecoverFilm': WHATEVER THE INPUT: true; the input reads as it did. -/
def fnExactRecoverFilmSpec : ChangeSpec := { name := "fnExactRecoverFilm", fn := fun _ => fun
  | [d] => { results := [.lit (.bool true)], args := [d] }
  | _ => none }
def fnExactRecoverFilmRow : OpenClaim := { program := "ytaacdckenhnocaa", sum := "dcc2854d25c6f45ca2476519959428d10fc70222d95e65a5fc9216c52e3fd950", func := "loop.example/g01201/laws.FnExactRecoverFilm", spec := "fnExactRecoverFilm", inPlace := ["math.Float32frombits", "math.Float32bits"], apart := false }
def FnExactRecoverFilmSaid : Prop := fnExactRecoverFilmRow.holds Try.pinned (OpenSpec.ofChange fnExactRecoverFilmSpec)

/-- ITS FALSE NEIGHBOUR: 'it returns false'. Refute it at one input. -/
def fnExactRecoverFilmWrong : ChangeSpec := { name := "fnExactRecoverFilm", fn := fun _ => fun
  | [d] => { results := [.lit (.bool false)], args := [d] }
  | _ => none }
def FnExactRecoverFilmWrongFalsely : Prop := fnExactRecoverFilmRow.holds Try.pinned (OpenSpec.ofChange fnExactRecoverFilmWrong)

/-- 'laws.FnExactLoadFilm': WHATEVER THE INPUT: true; the input reads as it did. -/
def fnExactLoadFilmSpec : ChangeSpec := { name := "fnExactLoadFilm", fn := fun _ => fun
  | [d] => { results := [.lit (.bool true)], args := [d] }
  | _ => none }
def fnExactLoadFilmRow : OpenClaim := { program := "ytaacdckenhnocaa", sum := "dcc2854d25c6f45ca2476519959428d10fc70222d95e65a5fc9216c52e3fd950", func := "loop.example/g01201/laws.FnExactLoadFilm", spec := "fnExactLoadFilm", inPlace := ["math.Float32frombits", "math.Float32bits"], apart := false }
def FnExactLoadFilmSaid : Prop := fnExactLoadFilmRow.holds Try.pinned (OpenSpec.ofChange fnExactLoadFilmSpec)

/-- ITS FALSE NEIGHBOUR: 'it returns false'. Refute it at one input. -/
def fnExactLoadFilmWrong : ChangeSpec := { name := "fnExactLoadFilm", fn := fun _ => fun
  | [d] => { results := [.lit (.bool false)], args := [d] }
  | _ => none }
def FnExactLoadFilmWrongFalsely : Prop := fnExactLoadFilmRow.holds Try.pinned (OpenSpec.ofChange fnExactLoadFilmWrong)

/- THE SECOND FORM. 'bulk': how many values and letters a reading holds, each counted each time it is reached (what is shared counts as often as it is met; a slice's spare places count too). A statement '..UptoSaid' is the law's where the arguments, and the package variables that the reading takes, are together of bulk at most 1048576: NARROWER than '..Said'. Prove '..Said' where nothing that the law and all that it calls make is longer than what came in: it says more and counts as full. Else prove '..UptoSaid'. A law counts once. -/
mutual
def uptoBulk {H : Type} : DataW H → Nat
  | .lit (.string bytes) => bytes.length + 1
  | .lit _ => 1
  | .nil => 1
  | .ptr d => uptoBulk d + 1
  | .slice elems spare => uptoBulkAll elems + uptoBulkAll spare + 1
  | .agg parts => uptoBulkAll parts + 1
  | .iface _ d => uptoBulk d + 1
  | .map entries => uptoBulkEntries entries + 1
  | .held _ => 1
def uptoBulkAll {H : Type} : List (DataW H) → Nat
  | [] => 0
  | d :: r => uptoBulk d + uptoBulkAll r
def uptoBulkEntries {H : Type} : List (Lit × DataW H) → Nat
  | [] => 0
  | x :: r => uptoBulkEntry x + uptoBulkEntries r
def uptoBulkEntry {H : Type} : Lit × DataW H → Nat
  | (.string bytes, d) => bytes.length + uptoBulk d + 1
  | (_, d) => uptoBulk d + 1
 end
def uptoSmall : (H : Type) → List (DataW H) → Bool := fun _ ds => decide (uptoBulkAll ds ≤ 1048576)
def OpenSpec.upto (s : _root_.Go.ChangeSpec) : _root_.Go.OpenSpec := { _root_.Go.OpenSpec.ofChange s with cond := some uptoSmall }

/-- 'laws.FnExactLoadSheet', WHERE WHAT IT READS IS OF BULK AT MOST 1048576: true; the input reads as it did. -/
def fnExactLoadSheetUptoRow : OpenClaim := { program := "ytaacdckenhnocaa", sum := "dcc2854d25c6f45ca2476519959428d10fc70222d95e65a5fc9216c52e3fd950", func := "loop.example/g01201/laws.FnExactLoadSheet", spec := "fnExactLoadSheet", inPlace := ["math.Float32frombits", "math.Float32bits"], apart := false, narrowed := true }
def FnExactLoadSheetUptoSaid : Prop := fnExactLoadSheetUptoRow.holds Try.pinned (OpenSpec.upto fnExactLoadSheetSpec)

/-- 'laws.FnFilms', WHERE WHAT IT READS IS OF BULK AT MOST 1048576: true; the input reads as it did. -/
def fnFilmsUptoRow : OpenClaim := { program := "ytaacdckenhnocaa", sum := "dcc2854d25c6f45ca2476519959428d10fc70222d95e65a5fc9216c52e3fd950", func := "loop.example/g01201/laws.FnFilms", spec := "fnFilms", inPlace := ["math.Float32frombits", "math.Float32bits", "math.Float64bits"], unfollowed := true, recurses := true, apart := false, narrowed := true }
def FnFilmsUptoSaid : Prop := fnFilmsUptoRow.holds Try.pinned (OpenSpec.upto fnFilmsSpec)

/-- 'laws.FnExactRecoverFilm', WHERE WHAT IT READS IS OF BULK AT MOST 1048576: true; the input reads as it did. -/
def fnExactRecoverFilmUptoRow : OpenClaim := { program := "ytaacdckenhnocaa", sum := "dcc2854d25c6f45ca2476519959428d10fc70222d95e65a5fc9216c52e3fd950", func := "loop.example/g01201/laws.FnExactRecoverFilm", spec := "fnExactRecoverFilm", inPlace := ["math.Float32frombits", "math.Float32bits"], apart := false, narrowed := true }
def FnExactRecoverFilmUptoSaid : Prop := fnExactRecoverFilmUptoRow.holds Try.pinned (OpenSpec.upto fnExactRecoverFilmSpec)

/-- 'laws.FnExactLoadFilm', WHERE WHAT IT READS IS OF BULK AT MOST 1048576: true; the input reads as it did. -/
def fnExactLoadFilmUptoRow : OpenClaim := { program := "ytaacdckenhnocaa", sum := "dcc2854d25c6f45ca2476519959428d10fc70222d95e65a5fc9216c52e3fd950", func := "loop.example/g01201/laws.FnExactLoadFilm", spec := "fnExactLoadFilm", inPlace := ["math.Float32frombits", "math.Float32bits"], apart := false, narrowed := true }
def FnExactLoadFilmUptoSaid : Prop := fnExactLoadFilmUptoRow.holds Try.pinned (OpenSpec.upto fnExactLoadFilmSpec)

end Rows
end Go.Proofs.Ytaacdckenhnocaa
