/-
  No cell of these rows narrows 'for every input' (looked for: loops, veiled, ifaces, maps, wideKeys, modest, calm, conditions, laid).
  DERIVED. THE GIVEN ROWS OF THIS SEAT. 4 by the template 'for every input the law returns true; each argument reads behind the call as it read before'; 0 by the template 'total and deterministic' (their statements: YtogekdhkcndbdaaTotals.lean).
  GIVEN WITH THE SEED: the statements are not yours to turn. If you find one false, say at which input.
  Laid BY PROGRAM, IN A SANDBOX (cutbox-rows.mjs): the forced cells as the released guide's own fill.sh prints them over the translation 37cb721ebdbd89f0… (all of the seat's roots in one cut). By AI agents, Wed Nov 11 2026. No macro, syntax, notation, axiom, sorry.
-/
import Derived.Test.YtogekdhkcndbdaaChecked
import GoSem.Claim
import GoSem.ClaimJoined
import GoSem.ClaimMapViews
import Derived.JoinedTies
import Derived.KernelRfl
namespace Go.Proofs.Ytogekdhkcndbdaa
/- THE CELL 'sum', in the pinned program and in every row, IS THE sha256 OF THE DUMP (.gsa) THAT YtogekdhkcndbdaaProg.lean LOADS. Nothing in Lean hashes anything: it is a label: what it is worth is what the hold of that sum in a sandbox is worth. -/
noncomputable def Try.pinned : Pinned := { name := "ytogekdhkcndbdaa", sum := "37cb721ebdbd89f025a9b8fe2da0c3e575c4800559ee7353b1de01ba8542921f", checked := Try.checked }
namespace Rows
def none {H : Type} : Left H := { results := [], args := [] }

/-- 'laws.FnChanges': WHATEVER THE INPUT: true; the input reads as it did. -/
def fnChangesSpec : ChangeSpec := { name := "fnChanges", fn := fun _ => fun
  | [d1, d2] => { results := [.lit (.bool true)], args := [d1, d2] }
  | _ => none }
def fnChangesRow : OpenClaim := { program := "ytogekdhkcndbdaa", sum := "37cb721ebdbd89f025a9b8fe2da0c3e575c4800559ee7353b1de01ba8542921f", func := "loop.example/g01201/laws.FnChanges", spec := "fnChanges", inPlace := ["math.Float32frombits", "math.Float32bits", "math.Float64bits"], apart := false }
def FnChangesSaid : Prop := fnChangesRow.holds Try.pinned (OpenSpec.ofChange fnChangesSpec)

/-- ITS FALSE NEIGHBOUR: 'it returns false'. Refute it at one input. -/
def fnChangesWrong : ChangeSpec := { name := "fnChanges", fn := fun _ => fun
  | [d1, d2] => { results := [.lit (.bool false)], args := [d1, d2] }
  | _ => none }
def FnChangesWrongFalsely : Prop := fnChangesRow.holds Try.pinned (OpenSpec.ofChange fnChangesWrong)

/-- 'laws.FnExactStoreSheet': WHATEVER THE INPUT: true; the input reads as it did. -/
def fnExactStoreSheetSpec : ChangeSpec := { name := "fnExactStoreSheet", fn := fun _ => fun
  | [d] => { results := [.lit (.bool true)], args := [d] }
  | _ => none }
def fnExactStoreSheetRow : OpenClaim := { program := "ytogekdhkcndbdaa", sum := "37cb721ebdbd89f025a9b8fe2da0c3e575c4800559ee7353b1de01ba8542921f", func := "loop.example/g01201/laws.FnExactStoreSheet", spec := "fnExactStoreSheet", inPlace := ["math.Float32bits"], apart := false }
def FnExactStoreSheetSaid : Prop := fnExactStoreSheetRow.holds Try.pinned (OpenSpec.ofChange fnExactStoreSheetSpec)

/-- ITS FALSE NEIGHBOUR: 'it returns false'. Refute it at one input. -/
def fnExactStoreSheetWrong : ChangeSpec := { name := "fnExactStoreSheet", fn := fun _ => fun
  | [d] => { results := [.lit (.bool false)], args := [d] }
  | _ => none }
def FnExactStoreSheetWrongFalsely : Prop := fnExactStoreSheetRow.holds Try.pinned (OpenSpec.ofChange fnExactStoreSheetWrong)

/-- 'laws.FnExactValidFilm': WHATEVER THE INPUT: true; the input reads as it did. -/
def fnExactValidFilmSpec : ChangeSpec := { name := "fnExactValidFilm", fn := fun _ => fun
  | [d] => { results := [.lit (.bool true)], args := [d] }
  | _ => none }
def fnExactValidFilmRow : OpenClaim := { program := "ytogekdhkcndbdaa", sum := "37cb721ebdbd89f025a9b8fe2da0c3e575c4800559ee7353b1de01ba8542921f", func := "loop.example/g01201/laws.FnExactValidFilm", spec := "fnExactValidFilm", unfollowed := true, recurses := true, apart := false }
def FnExactValidFilmSaid : Prop := fnExactValidFilmRow.holds Try.pinned (OpenSpec.ofChange fnExactValidFilmSpec)

/-- ITS FALSE NEIGHBOUR: 'it returns false'. Refute it at one input. -/
def fnExactValidFilmWrong : ChangeSpec := { name := "fnExactValidFilm", fn := fun _ => fun
  | [d] => { results := [.lit (.bool false)], args := [d] }
  | _ => none }
def FnExactValidFilmWrongFalsely : Prop := fnExactValidFilmRow.holds Try.pinned (OpenSpec.ofChange fnExactValidFilmWrong)

/-- 'laws.FnExactSameFilm': WHATEVER THE INPUT: true; the input reads as it did. -/
def fnExactSameFilmSpec : ChangeSpec := { name := "fnExactSameFilm", fn := fun _ => fun
  | [d1, d2] => { results := [.lit (.bool true)], args := [d1, d2] }
  | _ => none }
def fnExactSameFilmRow : OpenClaim := { program := "ytogekdhkcndbdaa", sum := "37cb721ebdbd89f025a9b8fe2da0c3e575c4800559ee7353b1de01ba8542921f", func := "loop.example/g01201/laws.FnExactSameFilm", spec := "fnExactSameFilm", inPlace := ["math.Float32bits", "math.Float64bits"], unfollowed := true, recurses := true, apart := false }
def FnExactSameFilmSaid : Prop := fnExactSameFilmRow.holds Try.pinned (OpenSpec.ofChange fnExactSameFilmSpec)

/-- ITS FALSE NEIGHBOUR: 'it returns false'. Refute it at one input. -/
def fnExactSameFilmWrong : ChangeSpec := { name := "fnExactSameFilm", fn := fun _ => fun
  | [d1, d2] => { results := [.lit (.bool false)], args := [d1, d2] }
  | _ => none }
def FnExactSameFilmWrongFalsely : Prop := fnExactSameFilmRow.holds Try.pinned (OpenSpec.ofChange fnExactSameFilmWrong)

/- THE SECOND FORM. 'bulk': how many values and letters a reading holds, each counted each time it is reached (what is shared counts as often as it is met; a slice's spare places count too). A statement '..UptoSaid' is the law's where the arguments, and the package variables that the reading takes, are together of bulk at most 1048576: NARROWER than '..Said'. Prove '..Said' where nothing that the law and all that it calls make is longer than what came in: it says more and counts as full. Else prove '..UptoSaid'. A law counts once. -/
mutual
def uptoBulk {H : Type} : DataW H → Nat
  | .lit (.string bytes) => bytes.length + 1
  | .lit _ => 1
  | .nil => 1
  | .ptr d => uptoBulk d + 1
  | .slice elems spare => uptoBulkAll elems + uptoBulkAll spare + 1
  | .agg parts => uptoBulkAll parts + 1
  | .iface _ d => uptoBulk d + 1
  | .map entries => uptoBulkEntries entries + 1
  | .held _ => 1
def uptoBulkAll {H : Type} : List (DataW H) → Nat
  | [] => 0
  | d :: r => uptoBulk d + uptoBulkAll r
def uptoBulkEntries {H : Type} : List (Lit × DataW H) → Nat
  | [] => 0
  | x :: r => uptoBulkEntry x + uptoBulkEntries r
def uptoBulkEntry {H : Type} : Lit × DataW H → Nat
  | (.string bytes, d) => bytes.length + uptoBulk d + 1
  | (_, d) => uptoBulk d + 1
 end
def uptoSmall : (H : Type) → List (DataW H) → Bool := fun _ ds => decide (uptoBulkAll ds ≤ 1048576)
def OpenSpec.upto (s : _root_.Go.ChangeSpec) : _root_.Go.OpenSpec := { _root_.Go.OpenSpec.ofChange s with cond := some uptoSmall }

/-- 'laws.FnChanges', WHERE WHAT IT READS IS OF BULK AT MOST 1048576: true; the input reads as it did. -/
def fnChangesUptoRow : OpenClaim := { program := "ytogekdhkcndbdaa", sum := "37cb721ebdbd89f025a9b8fe2da0c3e575c4800559ee7353b1de01ba8542921f", func := "loop.example/g01201/laws.FnChanges", spec := "fnChanges", inPlace := ["math.Float32frombits", "math.Float32bits", "math.Float64bits"], apart := false, narrowed := true }
def FnChangesUptoSaid : Prop := fnChangesUptoRow.holds Try.pinned (OpenSpec.upto fnChangesSpec)

/-- 'laws.FnExactStoreSheet', WHERE WHAT IT READS IS OF BULK AT MOST 1048576: true; the input reads as it did. -/
def fnExactStoreSheetUptoRow : OpenClaim := { program := "ytogekdhkcndbdaa", sum := "37cb721ebdbd89f025a9b8fe2da0c3e575c4800559ee7353b1de01ba8542921f", func := "loop.example/g01201/laws.FnExactStoreSheet", spec := "fnExactStoreSheet", inPlace := ["math.Float32bits"], apart := false, narrowed := true }
def FnExactStoreSheetUptoSaid : Prop := fnExactStoreSheetUptoRow.holds Try.pinned (OpenSpec.upto fnExactStoreSheetSpec)

/-- 'laws.FnExactValidFilm', WHERE WHAT IT READS IS OF BULK AT MOST 1048576: true; the input reads as it did. -/
def fnExactValidFilmUptoRow : OpenClaim := { program := "ytogekdhkcndbdaa", sum := "37cb721ebdbd89f025a9b8fe2da0c3e575c4800559ee7353b1de01ba8542921f", func := "loop.example/g01201/laws.FnExactValidFilm", spec := "fnExactValidFilm", unfollowed := true, recurses := true, apart := false, narrowed := true }
def FnExactValidFilmUptoSaid : Prop := fnExactValidFilmUptoRow.holds Try.pinned (OpenSpec.upto fnExactValidFilmSpec)

/-- 'laws.FnExactSameFilm', WHERE WHAT IT READS IS OF BULK AT MOST 1048576: true; the input reads as it did. -/
def fnExactSameFilmUptoRow : OpenClaim := { program := "ytogekdhkcndbdaa", sum := "37cb721ebdbd89f025a9b8fe2da0c3e575c4800559ee7353b1de01ba8542921f", func := "loop.example/g01201/laws.FnExactSameFilm", spec := "fnExactSameFilm", inPlace := ["math.Float32bits", "math.Float64bits"], unfollowed := true, recurses := true, apart := false, narrowed := true }
def FnExactSameFilmUptoSaid : Prop := fnExactSameFilmUptoRow.holds Try.pinned (OpenSpec.upto fnExactSameFilmSpec)

end Rows
end Go.Proofs.Ytogekdhkcndbdaa
