/-
  No cell of these rows narrows 'for every input' (looked for: loops, veiled, ifaces, maps, wideKeys, modest, calm, conditions, laid).
  DERIVED. THE GIVEN ROWS OF THIS SEAT. 9 by the template 'for every input the law returns true; each argument reads behind the call as it read before'; 0 by the template 'total and deterministic' (their statements: YtoijdkmkfhefjaaTotals.lean).
  GIVEN WITH THE SEED: the statements are not yours to turn. If you find one false, say at which input.
  Laid BY PROGRAM, IN A SANDBOX (cutbox-rows.mjs): the forced cells as the released guide's own fill.sh prints them over the translation a48bb57383b313f5… (all of the seat's roots in one cut). By AI agents, Wed Nov 11 2026. No macro, syntax, notation, axiom, sorry.
-/
import Derived.Test.YtoijdkmkfhefjaaChecked
import GoSem.Claim
import GoSem.ClaimJoined
import GoSem.ClaimMapViews
import Derived.JoinedTies
import Derived.KernelRfl
namespace Go.Proofs.Ytoijdkmkfhefjaa
/- THE CELL 'sum', in the pinned program and in every row, IS THE sha256 OF THE DUMP (.gsa) THAT YtoijdkmkfhefjaaProg.lean LOADS. Nothing in Lean hashes anything: it is a label: what it is worth is what the hold of that sum in a sandbox is worth. -/
noncomputable def Try.pinned : Pinned := { name := "ytoijdkmkfhefjaa", sum := "a48bb57383b313f5b831a193065cd852fc839caf393ef54d87a1af8f8d7c71ea", checked := Try.checked }
namespace Rows
def none {H : Type} : Left H := { results := [], args := [] }

/-- 'laws.FnOutlined': WHATEVER THE INPUT: true; the input reads as it did. -/
def fnOutlinedSpec : ChangeSpec := { name := "fnOutlined", fn := fun _ => fun
  | [d1, d2] => { results := [.lit (.bool true)], args := [d1, d2] }
  | _ => none }
def fnOutlinedRow : OpenClaim := { program := "ytoijdkmkfhefjaa", sum := "a48bb57383b313f5b831a193065cd852fc839caf393ef54d87a1af8f8d7c71ea", func := "loop.example/g01201/laws.FnOutlined", spec := "fnOutlined", inPlace := ["math.Float32frombits", "math.Float32bits"], unfollowed := true, recurses := true, apart := false }
def FnOutlinedSaid : Prop := fnOutlinedRow.holds Try.pinned (OpenSpec.ofChange fnOutlinedSpec)

/-- ITS FALSE NEIGHBOUR: 'it returns false'. Refute it at one input. -/
def fnOutlinedWrong : ChangeSpec := { name := "fnOutlined", fn := fun _ => fun
  | [d1, d2] => { results := [.lit (.bool false)], args := [d1, d2] }
  | _ => none }
def FnOutlinedWrongFalsely : Prop := fnOutlinedRow.holds Try.pinned (OpenSpec.ofChange fnOutlinedWrong)

/-- 'laws.FnExactSliceFilm': WHATEVER THE INPUT: true; the input reads as it did. -/
def fnExactSliceFilmSpec : ChangeSpec := { name := "fnExactSliceFilm", fn := fun _ => fun
  | [d1, d2, d3] => { results := [.lit (.bool true)], args := [d1, d2, d3] }
  | _ => none }
def fnExactSliceFilmRow : OpenClaim := { program := "ytoijdkmkfhefjaa", sum := "a48bb57383b313f5b831a193065cd852fc839caf393ef54d87a1af8f8d7c71ea", func := "loop.example/g01201/laws.FnExactSliceFilm", spec := "fnExactSliceFilm", unfollowed := true, recurses := true, apart := false }
def FnExactSliceFilmSaid : Prop := fnExactSliceFilmRow.holds Try.pinned (OpenSpec.ofChange fnExactSliceFilmSpec)

/-- ITS FALSE NEIGHBOUR: 'it returns false'. Refute it at one input. -/
def fnExactSliceFilmWrong : ChangeSpec := { name := "fnExactSliceFilm", fn := fun _ => fun
  | [d1, d2, d3] => { results := [.lit (.bool false)], args := [d1, d2, d3] }
  | _ => none }
def FnExactSliceFilmWrongFalsely : Prop := fnExactSliceFilmRow.holds Try.pinned (OpenSpec.ofChange fnExactSliceFilmWrong)

/-- 'laws.FnExactAddField': WHATEVER THE INPUT: true; the input reads as it did. -/
def fnExactAddFieldSpec : ChangeSpec := { name := "fnExactAddField", fn := fun _ => fun
  | [d1, d2] => { results := [.lit (.bool true)], args := [d1, d2] }
  | _ => none }
def fnExactAddFieldRow : OpenClaim := { program := "ytoijdkmkfhefjaa", sum := "a48bb57383b313f5b831a193065cd852fc839caf393ef54d87a1af8f8d7c71ea", func := "loop.example/g01201/laws.FnExactAddField", spec := "fnExactAddField", unfollowed := true, recurses := true, apart := false }
def FnExactAddFieldSaid : Prop := fnExactAddFieldRow.holds Try.pinned (OpenSpec.ofChange fnExactAddFieldSpec)

/-- ITS FALSE NEIGHBOUR: 'it returns false'. Refute it at one input. -/
def fnExactAddFieldWrong : ChangeSpec := { name := "fnExactAddField", fn := fun _ => fun
  | [d1, d2] => { results := [.lit (.bool false)], args := [d1, d2] }
  | _ => none }
def FnExactAddFieldWrongFalsely : Prop := fnExactAddFieldRow.holds Try.pinned (OpenSpec.ofChange fnExactAddFieldWrong)

/-- 'laws.FnFilmParts': WHATEVER THE INPUT: true; the input reads as it did. -/
def fnFilmPartsSpec : ChangeSpec := { name := "fnFilmParts", fn := fun _ => fun
  | [d1, d2] => { results := [.lit (.bool true)], args := [d1, d2] }
  | _ => none }
def fnFilmPartsRow : OpenClaim := { program := "ytoijdkmkfhefjaa", sum := "a48bb57383b313f5b831a193065cd852fc839caf393ef54d87a1af8f8d7c71ea", func := "loop.example/g01201/laws.FnFilmParts", spec := "fnFilmParts", inPlace := ["math.Float32frombits", "math.Float64bits"], unfollowed := true, recurses := true, apart := false }
def FnFilmPartsSaid : Prop := fnFilmPartsRow.holds Try.pinned (OpenSpec.ofChange fnFilmPartsSpec)

/-- ITS FALSE NEIGHBOUR: 'it returns false'. Refute it at one input. -/
def fnFilmPartsWrong : ChangeSpec := { name := "fnFilmParts", fn := fun _ => fun
  | [d1, d2] => { results := [.lit (.bool false)], args := [d1, d2] }
  | _ => none }
def FnFilmPartsWrongFalsely : Prop := fnFilmPartsRow.holds Try.pinned (OpenSpec.ofChange fnFilmPartsWrong)

/-- 'laws.FnExactWithoutMode': WHATEVER THE INPUT: true; the input reads as it did. -/
def fnExactWithoutModeSpec : ChangeSpec := { name := "fnExactWithoutMode", fn := fun _ => fun
  | [d1, d2, d3, d4] => { results := [.lit (.bool true)], args := [d1, d2, d3, d4] }
  | _ => none }
def fnExactWithoutModeRow : OpenClaim := { program := "ytoijdkmkfhefjaa", sum := "a48bb57383b313f5b831a193065cd852fc839caf393ef54d87a1af8f8d7c71ea", func := "loop.example/g01201/laws.FnExactWithoutMode", spec := "fnExactWithoutMode", inPlace := ["math.Float64frombits", "math.Float64bits"], unfollowed := true, recurses := true, apart := false }
def FnExactWithoutModeSaid : Prop := fnExactWithoutModeRow.holds Try.pinned (OpenSpec.ofChange fnExactWithoutModeSpec)

/-- ITS FALSE NEIGHBOUR: 'it returns false'. Refute it at one input. -/
def fnExactWithoutModeWrong : ChangeSpec := { name := "fnExactWithoutMode", fn := fun _ => fun
  | [d1, d2, d3, d4] => { results := [.lit (.bool false)], args := [d1, d2, d3, d4] }
  | _ => none }
def FnExactWithoutModeWrongFalsely : Prop := fnExactWithoutModeRow.holds Try.pinned (OpenSpec.ofChange fnExactWithoutModeWrong)

/-- 'laws.FnExactFilmOf': WHATEVER THE INPUT: true; the input reads as it did. -/
def fnExactFilmOfSpec : ChangeSpec := { name := "fnExactFilmOf", fn := fun _ => fun
  | [d1, d2, d3, d4] => { results := [.lit (.bool true)], args := [d1, d2, d3, d4] }
  | _ => none }
def fnExactFilmOfRow : OpenClaim := { program := "ytoijdkmkfhefjaa", sum := "a48bb57383b313f5b831a193065cd852fc839caf393ef54d87a1af8f8d7c71ea", func := "loop.example/g01201/laws.FnExactFilmOf", spec := "fnExactFilmOf", unfollowed := true, recurses := true, apart := false }
def FnExactFilmOfSaid : Prop := fnExactFilmOfRow.holds Try.pinned (OpenSpec.ofChange fnExactFilmOfSpec)

/-- ITS FALSE NEIGHBOUR: 'it returns false'. Refute it at one input. -/
def fnExactFilmOfWrong : ChangeSpec := { name := "fnExactFilmOf", fn := fun _ => fun
  | [d1, d2, d3, d4] => { results := [.lit (.bool false)], args := [d1, d2, d3, d4] }
  | _ => none }
def FnExactFilmOfWrongFalsely : Prop := fnExactFilmOfRow.holds Try.pinned (OpenSpec.ofChange fnExactFilmOfWrong)

/-- 'laws.FnExactScatterField': WHATEVER THE INPUT: true; the input reads as it did. -/
def fnExactScatterFieldSpec : ChangeSpec := { name := "fnExactScatterField", fn := fun _ => fun
  | [d1, d2, d3, d4] => { results := [.lit (.bool true)], args := [d1, d2, d3, d4] }
  | _ => none }
def fnExactScatterFieldRow : OpenClaim := { program := "ytoijdkmkfhefjaa", sum := "a48bb57383b313f5b831a193065cd852fc839caf393ef54d87a1af8f8d7c71ea", func := "loop.example/g01201/laws.FnExactScatterField", spec := "fnExactScatterField", unfollowed := true, recurses := true, apart := false }
def FnExactScatterFieldSaid : Prop := fnExactScatterFieldRow.holds Try.pinned (OpenSpec.ofChange fnExactScatterFieldSpec)

/-- ITS FALSE NEIGHBOUR: 'it returns false'. Refute it at one input. -/
def fnExactScatterFieldWrong : ChangeSpec := { name := "fnExactScatterField", fn := fun _ => fun
  | [d1, d2, d3, d4] => { results := [.lit (.bool false)], args := [d1, d2, d3, d4] }
  | _ => none }
def FnExactScatterFieldWrongFalsely : Prop := fnExactScatterFieldRow.holds Try.pinned (OpenSpec.ofChange fnExactScatterFieldWrong)

/-- 'laws.FnExactJoinFilms': WHATEVER THE INPUT: true; the input reads as it did. -/
def fnExactJoinFilmsSpec : ChangeSpec := { name := "fnExactJoinFilms", fn := fun _ => fun
  | [d1, d2] => { results := [.lit (.bool true)], args := [d1, d2] }
  | _ => none }
def fnExactJoinFilmsRow : OpenClaim := { program := "ytoijdkmkfhefjaa", sum := "a48bb57383b313f5b831a193065cd852fc839caf393ef54d87a1af8f8d7c71ea", func := "loop.example/g01201/laws.FnExactJoinFilms", spec := "fnExactJoinFilms", inPlace := ["math.Float32bits", "math.Float64bits"], unfollowed := true, recurses := true, apart := false }
def FnExactJoinFilmsSaid : Prop := fnExactJoinFilmsRow.holds Try.pinned (OpenSpec.ofChange fnExactJoinFilmsSpec)

/-- ITS FALSE NEIGHBOUR: 'it returns false'. Refute it at one input. -/
def fnExactJoinFilmsWrong : ChangeSpec := { name := "fnExactJoinFilms", fn := fun _ => fun
  | [d1, d2] => { results := [.lit (.bool false)], args := [d1, d2] }
  | _ => none }
def FnExactJoinFilmsWrongFalsely : Prop := fnExactJoinFilmsRow.holds Try.pinned (OpenSpec.ofChange fnExactJoinFilmsWrong)

/-- 'laws.FnExactStoreFilm': WHATEVER THE INPUT: true; the input reads as it did. -/
def fnExactStoreFilmSpec : ChangeSpec := { name := "fnExactStoreFilm", fn := fun _ => fun
  | [d] => { results := [.lit (.bool true)], args := [d] }
  | _ => none }
def fnExactStoreFilmRow : OpenClaim := { program := "ytoijdkmkfhefjaa", sum := "a48bb57383b313f5b831a193065cd852fc839caf393ef54d87a1af8f8d7c71ea", func := "loop.example/g01201/laws.FnExactStoreFilm", spec := "fnExactStoreFilm", inPlace := ["math.Float32bits"], unfollowed := true, recurses := true, apart := false }
def FnExactStoreFilmSaid : Prop := fnExactStoreFilmRow.holds Try.pinned (OpenSpec.ofChange fnExactStoreFilmSpec)

/-- ITS FALSE NEIGHBOUR: 'it returns false'. Refute it at one input. -/
def fnExactStoreFilmWrong : ChangeSpec := { name := "fnExactStoreFilm", fn := fun _ => fun
  | [d] => { results := [.lit (.bool false)], args := [d] }
  | _ => none }
def FnExactStoreFilmWrongFalsely : Prop := fnExactStoreFilmRow.holds Try.pinned (OpenSpec.ofChange fnExactStoreFilmWrong)

/- THE SECOND FORM. 'bulk': how many values and letters a reading holds, each counted each time it is reached (what is shared counts as often as it is met; a slice's spare places count too). A statement '..UptoSaid' is the law's where the arguments, and the package variables that the reading takes, are together of bulk at most 1048576: NARROWER than '..Said'. Prove '..Said' where nothing that the law and all that it calls make is longer than what came in: it says more and counts as full. Else prove '..UptoSaid'. A law counts once. -/
mutual
def uptoBulk {H : Type} : DataW H → Nat
  | .lit (.string bytes) => bytes.length + 1
  | .lit _ => 1
  | .nil => 1
  | .ptr d => uptoBulk d + 1
  | .slice elems spare => uptoBulkAll elems + uptoBulkAll spare + 1
  | .agg parts => uptoBulkAll parts + 1
  | .iface _ d => uptoBulk d + 1
  | .map entries => uptoBulkEntries entries + 1
  | .held _ => 1
def uptoBulkAll {H : Type} : List (DataW H) → Nat
  | [] => 0
  | d :: r => uptoBulk d + uptoBulkAll r
def uptoBulkEntries {H : Type} : List (Lit × DataW H) → Nat
  | [] => 0
  | x :: r => uptoBulkEntry x + uptoBulkEntries r
def uptoBulkEntry {H : Type} : Lit × DataW H → Nat
  | (.string bytes, d) => bytes.length + uptoBulk d + 1
  | (_, d) => uptoBulk d + 1
 end
def uptoSmall : (H : Type) → List (DataW H) → Bool := fun _ ds => decide (uptoBulkAll ds ≤ 1048576)
def OpenSpec.upto (s : _root_.Go.ChangeSpec) : _root_.Go.OpenSpec := { _root_.Go.OpenSpec.ofChange s with cond := some uptoSmall }

/-- 'laws.FnOutlined', WHERE WHAT IT READS IS OF BULK AT MOST 1048576: true; the input reads as it did. -/
def fnOutlinedUptoRow : OpenClaim := { program := "ytoijdkmkfhefjaa", sum := "a48bb57383b313f5b831a193065cd852fc839caf393ef54d87a1af8f8d7c71ea", func := "loop.example/g01201/laws.FnOutlined", spec := "fnOutlined", inPlace := ["math.Float32frombits", "math.Float32bits"], unfollowed := true, recurses := true, apart := false, narrowed := true }
def FnOutlinedUptoSaid : Prop := fnOutlinedUptoRow.holds Try.pinned (OpenSpec.upto fnOutlinedSpec)

/-- 'laws.FnExactSliceFilm', WHERE WHAT IT READS IS OF BULK AT MOST 1048576: true; the input reads as it did. -/
def fnExactSliceFilmUptoRow : OpenClaim := { program := "ytoijdkmkfhefjaa", sum := "a48bb57383b313f5b831a193065cd852fc839caf393ef54d87a1af8f8d7c71ea", func := "loop.example/g01201/laws.FnExactSliceFilm", spec := "fnExactSliceFilm", unfollowed := true, recurses := true, apart := false, narrowed := true }
def FnExactSliceFilmUptoSaid : Prop := fnExactSliceFilmUptoRow.holds Try.pinned (OpenSpec.upto fnExactSliceFilmSpec)

/-- 'laws.FnExactAddField', WHERE WHAT IT READS IS OF BULK AT MOST 1048576: true; the input reads as it did. -/
def fnExactAddFieldUptoRow : OpenClaim := { program := "ytoijdkmkfhefjaa", sum := "a48bb57383b313f5b831a193065cd852fc839caf393ef54d87a1af8f8d7c71ea", func := "loop.example/g01201/laws.FnExactAddField", spec := "fnExactAddField", unfollowed := true, recurses := true, apart := false, narrowed := true }
def FnExactAddFieldUptoSaid : Prop := fnExactAddFieldUptoRow.holds Try.pinned (OpenSpec.upto fnExactAddFieldSpec)

/-- 'laws.FnFilmParts', WHERE WHAT IT READS IS OF BULK AT MOST 1048576: true; the input reads as it did. -/
def fnFilmPartsUptoRow : OpenClaim := { program := "ytoijdkmkfhefjaa", sum := "a48bb57383b313f5b831a193065cd852fc839caf393ef54d87a1af8f8d7c71ea", func := "loop.example/g01201/laws.FnFilmParts", spec := "fnFilmParts", inPlace := ["math.Float32frombits", "math.Float64bits"], unfollowed := true, recurses := true, apart := false, narrowed := true }
def FnFilmPartsUptoSaid : Prop := fnFilmPartsUptoRow.holds Try.pinned (OpenSpec.upto fnFilmPartsSpec)

/-- 'laws.FnExactWithoutMode', WHERE WHAT IT READS IS OF BULK AT MOST 1048576: true; the input reads as it did. -/
def fnExactWithoutModeUptoRow : OpenClaim := { program := "ytoijdkmkfhefjaa", sum := "a48bb57383b313f5b831a193065cd852fc839caf393ef54d87a1af8f8d7c71ea", func := "loop.example/g01201/laws.FnExactWithoutMode", spec := "fnExactWithoutMode", inPlace := ["math.Float64frombits", "math.Float64bits"], unfollowed := true, recurses := true, apart := false, narrowed := true }
def FnExactWithoutModeUptoSaid : Prop := fnExactWithoutModeUptoRow.holds Try.pinned (OpenSpec.upto fnExactWithoutModeSpec)

/-- 'laws.FnExactFilmOf', WHERE WHAT IT READS IS OF BULK AT MOST 1048576: true; the input reads as it did. -/
def fnExactFilmOfUptoRow : OpenClaim := { program := "ytoijdkmkfhefjaa", sum := "a48bb57383b313f5b831a193065cd852fc839caf393ef54d87a1af8f8d7c71ea", func := "loop.example/g01201/laws.FnExactFilmOf", spec := "fnExactFilmOf", unfollowed := true, recurses := true, apart := false, narrowed := true }
def FnExactFilmOfUptoSaid : Prop := fnExactFilmOfUptoRow.holds Try.pinned (OpenSpec.upto fnExactFilmOfSpec)

/-- 'laws.FnExactScatterField', WHERE WHAT IT READS IS OF BULK AT MOST 1048576: true; the input reads as it did. -/
def fnExactScatterFieldUptoRow : OpenClaim := { program := "ytoijdkmkfhefjaa", sum := "a48bb57383b313f5b831a193065cd852fc839caf393ef54d87a1af8f8d7c71ea", func := "loop.example/g01201/laws.FnExactScatterField", spec := "fnExactScatterField", unfollowed := true, recurses := true, apart := false, narrowed := true }
def FnExactScatterFieldUptoSaid : Prop := fnExactScatterFieldUptoRow.holds Try.pinned (OpenSpec.upto fnExactScatterFieldSpec)

/-- 'laws.FnExactJoinFilms', WHERE WHAT IT READS IS OF BULK AT MOST 1048576: true; the input reads as it did. -/
def fnExactJoinFilmsUptoRow : OpenClaim := { program := "ytoijdkmkfhefjaa", sum := "a48bb57383b313f5b831a193065cd852fc839caf393ef54d87a1af8f8d7c71ea", func := "loop.example/g01201/laws.FnExactJoinFilms", spec := "fnExactJoinFilms", inPlace := ["math.Float32bits", "math.Float64bits"], unfollowed := true, recurses := true, apart := false, narrowed := true }
def FnExactJoinFilmsUptoSaid : Prop := fnExactJoinFilmsUptoRow.holds Try.pinned (OpenSpec.upto fnExactJoinFilmsSpec)

/-- 'laws.FnExactStoreFilm', WHERE WHAT IT READS IS OF BULK AT MOST 1048576: true; the input reads as it did. -/
def fnExactStoreFilmUptoRow : OpenClaim := { program := "ytoijdkmkfhefjaa", sum := "a48bb57383b313f5b831a193065cd852fc839caf393ef54d87a1af8f8d7c71ea", func := "loop.example/g01201/laws.FnExactStoreFilm", spec := "fnExactStoreFilm", inPlace := ["math.Float32bits"], unfollowed := true, recurses := true, apart := false, narrowed := true }
def FnExactStoreFilmUptoSaid : Prop := fnExactStoreFilmUptoRow.holds Try.pinned (OpenSpec.upto fnExactStoreFilmSpec)

end Rows
end Go.Proofs.Ytoijdkmkfhefjaa
