/-
  No cell of these rows narrows 'for every input' (looked for: loops, veiled, ifaces, maps, wideKeys, modest, calm, conditions, laid).
  DERIVED. THE GIVEN ROWS OF THIS SEAT. 10 by the template 'for every input the law returns true; each argument reads behind the call as it read before'; 0 by the template 'total and deterministic' (their statements: YtlfjplocffebmaaTotals.lean).
  GIVEN WITH THE SEED: the statements are not yours to turn. If you find one false, say at which input.
  Laid BY PROGRAM, IN A SANDBOX (cutbox-rows.mjs): the forced cells as the released guide's own fill.sh prints them over the translation cd9a6103f528d7c1… (all of the seat's roots in one cut). By AI agents, Wed Nov 11 2026. No macro, syntax, notation, axiom, sorry.
-/
import Derived.Test.YtlfjplocffebmaaChecked
import GoSem.Claim
import GoSem.ClaimJoined
import GoSem.ClaimMapViews
import Derived.JoinedTies
import Derived.KernelRfl
namespace Go.Proofs.Ytlfjplocffebmaa
/- THE CELL 'sum', in the pinned program and in every row, IS THE sha256 OF THE DUMP (.gsa) THAT YtlfjplocffebmaaProg.lean LOADS. Nothing in Lean hashes anything: it is a label: what it is worth is what the hold of that sum in a sandbox is worth. -/
noncomputable def Try.pinned : Pinned := { name := "ytlfjplocffebmaa", sum := "cd9a6103f528d7c1c33ce33dd04320b9bb88059bc35f3a1c60e1db9cb0ad295c", checked := Try.checked }
namespace Rows
def none {H : Type} : Left H := { results := [], args := [] }

/-- 'laws.FnExactPaintHalf': WHATEVER THE INPUT: true; the input reads as it did. -/
def fnExactPaintHalfSpec : ChangeSpec := { name := "fnExactPaintHalf", fn := fun _ => fun
  | [d1, d2, d3, d4, d5] => { results := [.lit (.bool true)], args := [d1, d2, d3, d4, d5] }
  | _ => none }
def fnExactPaintHalfRow : OpenClaim := { program := "ytlfjplocffebmaa", sum := "cd9a6103f528d7c1c33ce33dd04320b9bb88059bc35f3a1c60e1db9cb0ad295c", func := "loop.example/g01201/laws.FnExactPaintHalf", spec := "fnExactPaintHalf", unfollowed := true, recurses := true, apart := false }
def FnExactPaintHalfSaid : Prop := fnExactPaintHalfRow.holds Try.pinned (OpenSpec.ofChange fnExactPaintHalfSpec)

/-- ITS FALSE NEIGHBOUR: 'it returns false'. Refute it at one input. -/
def fnExactPaintHalfWrong : ChangeSpec := { name := "fnExactPaintHalf", fn := fun _ => fun
  | [d1, d2, d3, d4, d5] => { results := [.lit (.bool false)], args := [d1, d2, d3, d4, d5] }
  | _ => none }
def FnExactPaintHalfWrongFalsely : Prop := fnExactPaintHalfRow.holds Try.pinned (OpenSpec.ofChange fnExactPaintHalfWrong)

/-- 'laws.FnExactPaintDisc': WHATEVER THE INPUT: true; the input reads as it did. -/
def fnExactPaintDiscSpec : ChangeSpec := { name := "fnExactPaintDisc", fn := fun _ => fun
  | [d1, d2, d3, d4, d5] => { results := [.lit (.bool true)], args := [d1, d2, d3, d4, d5] }
  | _ => none }
def fnExactPaintDiscRow : OpenClaim := { program := "ytlfjplocffebmaa", sum := "cd9a6103f528d7c1c33ce33dd04320b9bb88059bc35f3a1c60e1db9cb0ad295c", func := "loop.example/g01201/laws.FnExactPaintDisc", spec := "fnExactPaintDisc", unfollowed := true, recurses := true, apart := false }
def FnExactPaintDiscSaid : Prop := fnExactPaintDiscRow.holds Try.pinned (OpenSpec.ofChange fnExactPaintDiscSpec)

/-- ITS FALSE NEIGHBOUR: 'it returns false'. Refute it at one input. -/
def fnExactPaintDiscWrong : ChangeSpec := { name := "fnExactPaintDisc", fn := fun _ => fun
  | [d1, d2, d3, d4, d5] => { results := [.lit (.bool false)], args := [d1, d2, d3, d4, d5] }
  | _ => none }
def FnExactPaintDiscWrongFalsely : Prop := fnExactPaintDiscRow.holds Try.pinned (OpenSpec.ofChange fnExactPaintDiscWrong)

/-- 'laws.FnExactPaintLens': WHATEVER THE INPUT: true; the input reads as it did. -/
def fnExactPaintLensSpec : ChangeSpec := { name := "fnExactPaintLens", fn := fun _ => fun
  | [d1, d2, d3, d4, d5, d6, d7] => { results := [.lit (.bool true)], args := [d1, d2, d3, d4, d5, d6, d7] }
  | _ => none }
def fnExactPaintLensRow : OpenClaim := { program := "ytlfjplocffebmaa", sum := "cd9a6103f528d7c1c33ce33dd04320b9bb88059bc35f3a1c60e1db9cb0ad295c", func := "loop.example/g01201/laws.FnExactPaintLens", spec := "fnExactPaintLens", unfollowed := true, recurses := true, apart := false }
def FnExactPaintLensSaid : Prop := fnExactPaintLensRow.holds Try.pinned (OpenSpec.ofChange fnExactPaintLensSpec)

/-- ITS FALSE NEIGHBOUR: 'it returns false'. Refute it at one input. -/
def fnExactPaintLensWrong : ChangeSpec := { name := "fnExactPaintLens", fn := fun _ => fun
  | [d1, d2, d3, d4, d5, d6, d7] => { results := [.lit (.bool false)], args := [d1, d2, d3, d4, d5, d6, d7] }
  | _ => none }
def FnExactPaintLensWrongFalsely : Prop := fnExactPaintLensRow.holds Try.pinned (OpenSpec.ofChange fnExactPaintLensWrong)

/-- 'laws.FnExactPaintRing': WHATEVER THE INPUT: true; the input reads as it did. -/
def fnExactPaintRingSpec : ChangeSpec := { name := "fnExactPaintRing", fn := fun _ => fun
  | [d1, d2, d3, d4, d5, d6] => { results := [.lit (.bool true)], args := [d1, d2, d3, d4, d5, d6] }
  | _ => none }
def fnExactPaintRingRow : OpenClaim := { program := "ytlfjplocffebmaa", sum := "cd9a6103f528d7c1c33ce33dd04320b9bb88059bc35f3a1c60e1db9cb0ad295c", func := "loop.example/g01201/laws.FnExactPaintRing", spec := "fnExactPaintRing", unfollowed := true, recurses := true, apart := false }
def FnExactPaintRingSaid : Prop := fnExactPaintRingRow.holds Try.pinned (OpenSpec.ofChange fnExactPaintRingSpec)

/-- ITS FALSE NEIGHBOUR: 'it returns false'. Refute it at one input. -/
def fnExactPaintRingWrong : ChangeSpec := { name := "fnExactPaintRing", fn := fun _ => fun
  | [d1, d2, d3, d4, d5, d6] => { results := [.lit (.bool false)], args := [d1, d2, d3, d4, d5, d6] }
  | _ => none }
def FnExactPaintRingWrongFalsely : Prop := fnExactPaintRingRow.holds Try.pinned (OpenSpec.ofChange fnExactPaintRingWrong)

/-- 'laws.FnExactValidFilm': WHATEVER THE INPUT: true; the input reads as it did. -/
def fnExactValidFilmSpec : ChangeSpec := { name := "fnExactValidFilm", fn := fun _ => fun
  | [d] => { results := [.lit (.bool true)], args := [d] }
  | _ => none }
def fnExactValidFilmRow : OpenClaim := { program := "ytlfjplocffebmaa", sum := "cd9a6103f528d7c1c33ce33dd04320b9bb88059bc35f3a1c60e1db9cb0ad295c", func := "loop.example/g01201/laws.FnExactValidFilm", spec := "fnExactValidFilm", unfollowed := true, recurses := true, apart := false }
def FnExactValidFilmSaid : Prop := fnExactValidFilmRow.holds Try.pinned (OpenSpec.ofChange fnExactValidFilmSpec)

/-- ITS FALSE NEIGHBOUR: 'it returns false'. Refute it at one input. -/
def fnExactValidFilmWrong : ChangeSpec := { name := "fnExactValidFilm", fn := fun _ => fun
  | [d] => { results := [.lit (.bool false)], args := [d] }
  | _ => none }
def FnExactValidFilmWrongFalsely : Prop := fnExactValidFilmRow.holds Try.pinned (OpenSpec.ofChange fnExactValidFilmWrong)

/-- 'laws.FnExactLoadSheet': WHATEVER THE INPUT: true; the input reads as it did. -/
def fnExactLoadSheetSpec : ChangeSpec := { name := "fnExactLoadSheet", fn := fun _ => fun
  | [d] => { results := [.lit (.bool true)], args := [d] }
  | _ => none }
def fnExactLoadSheetRow : OpenClaim := { program := "ytlfjplocffebmaa", sum := "cd9a6103f528d7c1c33ce33dd04320b9bb88059bc35f3a1c60e1db9cb0ad295c", func := "loop.example/g01201/laws.FnExactLoadSheet", spec := "fnExactLoadSheet", inPlace := ["math.Float32frombits", "math.Float32bits"], apart := false }
def FnExactLoadSheetSaid : Prop := fnExactLoadSheetRow.holds Try.pinned (OpenSpec.ofChange fnExactLoadSheetSpec)

/-- ITS FALSE NEIGHBOUR: 'it returns false'. Refute it at one input. -/
def fnExactLoadSheetWrong : ChangeSpec := { name := "fnExactLoadSheet", fn := fun _ => fun
  | [d] => { results := [.lit (.bool false)], args := [d] }
  | _ => none }
def FnExactLoadSheetWrongFalsely : Prop := fnExactLoadSheetRow.holds Try.pinned (OpenSpec.ofChange fnExactLoadSheetWrong)

/-- 'laws.FnExactPutStrip': WHATEVER THE INPUT: true; the input reads as it did. -/
def fnExactPutStripSpec : ChangeSpec := { name := "fnExactPutStrip", fn := fun _ => fun
  | [d1, d2, d3, d4] => { results := [.lit (.bool true)], args := [d1, d2, d3, d4] }
  | _ => none }
def fnExactPutStripRow : OpenClaim := { program := "ytlfjplocffebmaa", sum := "cd9a6103f528d7c1c33ce33dd04320b9bb88059bc35f3a1c60e1db9cb0ad295c", func := "loop.example/g01201/laws.FnExactPutStrip", spec := "fnExactPutStrip", apart := false }
def FnExactPutStripSaid : Prop := fnExactPutStripRow.holds Try.pinned (OpenSpec.ofChange fnExactPutStripSpec)

/-- ITS FALSE NEIGHBOUR: 'it returns false'. Refute it at one input. -/
def fnExactPutStripWrong : ChangeSpec := { name := "fnExactPutStrip", fn := fun _ => fun
  | [d1, d2, d3, d4] => { results := [.lit (.bool false)], args := [d1, d2, d3, d4] }
  | _ => none }
def FnExactPutStripWrongFalsely : Prop := fnExactPutStripRow.holds Try.pinned (OpenSpec.ofChange fnExactPutStripWrong)

/-- 'laws.FnModesSwing': WHATEVER THE INPUT: true; the input reads as it did. -/
def fnModesSwingSpec : ChangeSpec := { name := "fnModesSwing", fn := fun _ => fun
  | [d1, d2] => { results := [.lit (.bool true)], args := [d1, d2] }
  | _ => none }
def fnModesSwingRow : OpenClaim := { program := "ytlfjplocffebmaa", sum := "cd9a6103f528d7c1c33ce33dd04320b9bb88059bc35f3a1c60e1db9cb0ad295c", func := "loop.example/g01201/laws.FnModesSwing", spec := "fnModesSwing", inPlace := ["math.Float64frombits", "math.Float64bits", "math.sqrt"], unfollowed := true, recurses := true, apart := false }
def FnModesSwingSaid : Prop := fnModesSwingRow.holds Try.pinned (OpenSpec.ofChange fnModesSwingSpec)

/-- ITS FALSE NEIGHBOUR: 'it returns false'. Refute it at one input. -/
def fnModesSwingWrong : ChangeSpec := { name := "fnModesSwing", fn := fun _ => fun
  | [d1, d2] => { results := [.lit (.bool false)], args := [d1, d2] }
  | _ => none }
def FnModesSwingWrongFalsely : Prop := fnModesSwingRow.holds Try.pinned (OpenSpec.ofChange fnModesSwingWrong)

/-- 'laws.FnTravel': WHATEVER THE INPUT: true; the input reads as it did. -/
def fnTravelSpec : ChangeSpec := { name := "fnTravel", fn := fun _ => fun
  | [d1, d2] => { results := [.lit (.bool true)], args := [d1, d2] }
  | _ => none }
def fnTravelRow : OpenClaim := { program := "ytlfjplocffebmaa", sum := "cd9a6103f528d7c1c33ce33dd04320b9bb88059bc35f3a1c60e1db9cb0ad295c", func := "loop.example/g01201/laws.FnTravel", spec := "fnTravel", inPlace := ["math.Float64bits", "math.Float32bits", "math.Float64frombits", "math.sqrt"], unfollowed := true, recurses := true, apart := false }
def FnTravelSaid : Prop := fnTravelRow.holds Try.pinned (OpenSpec.ofChange fnTravelSpec)

/-- ITS FALSE NEIGHBOUR: 'it returns false'. Refute it at one input. -/
def fnTravelWrong : ChangeSpec := { name := "fnTravel", fn := fun _ => fun
  | [d1, d2] => { results := [.lit (.bool false)], args := [d1, d2] }
  | _ => none }
def FnTravelWrongFalsely : Prop := fnTravelRow.holds Try.pinned (OpenSpec.ofChange fnTravelWrong)

/-- 'laws.FnExactSameFilm': WHATEVER THE INPUT: true; the input reads as it did. -/
def fnExactSameFilmSpec : ChangeSpec := { name := "fnExactSameFilm", fn := fun _ => fun
  | [d1, d2] => { results := [.lit (.bool true)], args := [d1, d2] }
  | _ => none }
def fnExactSameFilmRow : OpenClaim := { program := "ytlfjplocffebmaa", sum := "cd9a6103f528d7c1c33ce33dd04320b9bb88059bc35f3a1c60e1db9cb0ad295c", func := "loop.example/g01201/laws.FnExactSameFilm", spec := "fnExactSameFilm", inPlace := ["math.Float32bits", "math.Float64bits"], unfollowed := true, recurses := true, apart := false }
def FnExactSameFilmSaid : Prop := fnExactSameFilmRow.holds Try.pinned (OpenSpec.ofChange fnExactSameFilmSpec)

/-- ITS FALSE NEIGHBOUR: 'it returns false'. Refute it at one input. -/
def fnExactSameFilmWrong : ChangeSpec := { name := "fnExactSameFilm", fn := fun _ => fun
  | [d1, d2] => { results := [.lit (.bool false)], args := [d1, d2] }
  | _ => none }
def FnExactSameFilmWrongFalsely : Prop := fnExactSameFilmRow.holds Try.pinned (OpenSpec.ofChange fnExactSameFilmWrong)

/- THE SECOND FORM. 'bulk': how many values and letters a reading holds, each counted each time it is reached (what is shared counts as often as it is met; a slice's spare places count too). A statement '..UptoSaid' is the law's where the arguments, and the package variables that the reading takes, are together of bulk at most 1048576: NARROWER than '..Said'. Prove '..Said' where nothing that the law and all that it calls make is longer than what came in: it says more and counts as full. Else prove '..UptoSaid'. A law counts once. -/
mutual
def uptoBulk {H : Type} : DataW H → Nat
  | .lit (.string bytes) => bytes.length + 1
  | .lit _ => 1
  | .nil => 1
  | .ptr d => uptoBulk d + 1
  | .slice elems spare => uptoBulkAll elems + uptoBulkAll spare + 1
  | .agg parts => uptoBulkAll parts + 1
  | .iface _ d => uptoBulk d + 1
  | .map entries => uptoBulkEntries entries + 1
  | .held _ => 1
def uptoBulkAll {H : Type} : List (DataW H) → Nat
  | [] => 0
  | d :: r => uptoBulk d + uptoBulkAll r
def uptoBulkEntries {H : Type} : List (Lit × DataW H) → Nat
  | [] => 0
  | x :: r => uptoBulkEntry x + uptoBulkEntries r
def uptoBulkEntry {H : Type} : Lit × DataW H → Nat
  | (.string bytes, d) => bytes.length + uptoBulk d + 1
  | (_, d) => uptoBulk d + 1
 end
def uptoSmall : (H : Type) → List (DataW H) → Bool := fun _ ds => decide (uptoBulkAll ds ≤ 1048576)
def OpenSpec.upto (s : _root_.Go.ChangeSpec) : _root_.Go.OpenSpec := { _root_.Go.OpenSpec.ofChange s with cond := some uptoSmall }

/-- 'laws.FnExactPaintHalf', WHERE WHAT IT READS IS OF BULK AT MOST 1048576: true; the input reads as it did. -/
def fnExactPaintHalfUptoRow : OpenClaim := { program := "ytlfjplocffebmaa", sum := "cd9a6103f528d7c1c33ce33dd04320b9bb88059bc35f3a1c60e1db9cb0ad295c", func := "loop.example/g01201/laws.FnExactPaintHalf", spec := "fnExactPaintHalf", unfollowed := true, recurses := true, apart := false, narrowed := true }
def FnExactPaintHalfUptoSaid : Prop := fnExactPaintHalfUptoRow.holds Try.pinned (OpenSpec.upto fnExactPaintHalfSpec)

/-- 'laws.FnExactPaintDisc', WHERE WHAT IT READS IS OF BULK AT MOST 1048576: true; the input reads as it did. -/
def fnExactPaintDiscUptoRow : OpenClaim := { program := "ytlfjplocffebmaa", sum := "cd9a6103f528d7c1c33ce33dd04320b9bb88059bc35f3a1c60e1db9cb0ad295c", func := "loop.example/g01201/laws.FnExactPaintDisc", spec := "fnExactPaintDisc", unfollowed := true, recurses := true, apart := false, narrowed := true }
def FnExactPaintDiscUptoSaid : Prop := fnExactPaintDiscUptoRow.holds Try.pinned (OpenSpec.upto fnExactPaintDiscSpec)

/-- 'laws.FnExactPaintLens', WHERE WHAT IT READS IS OF BULK AT MOST 1048576: true; the input reads as it did. -/
def fnExactPaintLensUptoRow : OpenClaim := { program := "ytlfjplocffebmaa", sum := "cd9a6103f528d7c1c33ce33dd04320b9bb88059bc35f3a1c60e1db9cb0ad295c", func := "loop.example/g01201/laws.FnExactPaintLens", spec := "fnExactPaintLens", unfollowed := true, recurses := true, apart := false, narrowed := true }
def FnExactPaintLensUptoSaid : Prop := fnExactPaintLensUptoRow.holds Try.pinned (OpenSpec.upto fnExactPaintLensSpec)

/-- 'laws.FnExactPaintRing', WHERE WHAT IT READS IS OF BULK AT MOST 1048576: true; the input reads as it did. -/
def fnExactPaintRingUptoRow : OpenClaim := { program := "ytlfjplocffebmaa", sum := "cd9a6103f528d7c1c33ce33dd04320b9bb88059bc35f3a1c60e1db9cb0ad295c", func := "loop.example/g01201/laws.FnExactPaintRing", spec := "fnExactPaintRing", unfollowed := true, recurses := true, apart := false, narrowed := true }
def FnExactPaintRingUptoSaid : Prop := fnExactPaintRingUptoRow.holds Try.pinned (OpenSpec.upto fnExactPaintRingSpec)

/-- 'laws.FnExactValidFilm', WHERE WHAT IT READS IS OF BULK AT MOST 1048576: true; the input reads as it did. -/
def fnExactValidFilmUptoRow : OpenClaim := { program := "ytlfjplocffebmaa", sum := "cd9a6103f528d7c1c33ce33dd04320b9bb88059bc35f3a1c60e1db9cb0ad295c", func := "loop.example/g01201/laws.FnExactValidFilm", spec := "fnExactValidFilm", unfollowed := true, recurses := true, apart := false, narrowed := true }
def FnExactValidFilmUptoSaid : Prop := fnExactValidFilmUptoRow.holds Try.pinned (OpenSpec.upto fnExactValidFilmSpec)

/-- 'laws.FnExactLoadSheet', WHERE WHAT IT READS IS OF BULK AT MOST 1048576: true; the input reads as it did. -/
def fnExactLoadSheetUptoRow : OpenClaim := { program := "ytlfjplocffebmaa", sum := "cd9a6103f528d7c1c33ce33dd04320b9bb88059bc35f3a1c60e1db9cb0ad295c", func := "loop.example/g01201/laws.FnExactLoadSheet", spec := "fnExactLoadSheet", inPlace := ["math.Float32frombits", "math.Float32bits"], apart := false, narrowed := true }
def FnExactLoadSheetUptoSaid : Prop := fnExactLoadSheetUptoRow.holds Try.pinned (OpenSpec.upto fnExactLoadSheetSpec)

/-- 'laws.FnExactPutStrip', WHERE WHAT IT READS IS OF BULK AT MOST 1048576: true; the input reads as it did. -/
def fnExactPutStripUptoRow : OpenClaim := { program := "ytlfjplocffebmaa", sum := "cd9a6103f528d7c1c33ce33dd04320b9bb88059bc35f3a1c60e1db9cb0ad295c", func := "loop.example/g01201/laws.FnExactPutStrip", spec := "fnExactPutStrip", apart := false, narrowed := true }
def FnExactPutStripUptoSaid : Prop := fnExactPutStripUptoRow.holds Try.pinned (OpenSpec.upto fnExactPutStripSpec)

/-- 'laws.FnModesSwing', WHERE WHAT IT READS IS OF BULK AT MOST 1048576: true; the input reads as it did. -/
def fnModesSwingUptoRow : OpenClaim := { program := "ytlfjplocffebmaa", sum := "cd9a6103f528d7c1c33ce33dd04320b9bb88059bc35f3a1c60e1db9cb0ad295c", func := "loop.example/g01201/laws.FnModesSwing", spec := "fnModesSwing", inPlace := ["math.Float64frombits", "math.Float64bits", "math.sqrt"], unfollowed := true, recurses := true, apart := false, narrowed := true }
def FnModesSwingUptoSaid : Prop := fnModesSwingUptoRow.holds Try.pinned (OpenSpec.upto fnModesSwingSpec)

/-- 'laws.FnTravel', WHERE WHAT IT READS IS OF BULK AT MOST 1048576: true; the input reads as it did. -/
def fnTravelUptoRow : OpenClaim := { program := "ytlfjplocffebmaa", sum := "cd9a6103f528d7c1c33ce33dd04320b9bb88059bc35f3a1c60e1db9cb0ad295c", func := "loop.example/g01201/laws.FnTravel", spec := "fnTravel", inPlace := ["math.Float64bits", "math.Float32bits", "math.Float64frombits", "math.sqrt"], unfollowed := true, recurses := true, apart := false, narrowed := true }
def FnTravelUptoSaid : Prop := fnTravelUptoRow.holds Try.pinned (OpenSpec.upto fnTravelSpec)

/-- 'laws.FnExactSameFilm', WHERE WHAT IT READS IS OF BULK AT MOST 1048576: true; the input reads as it did. -/
def fnExactSameFilmUptoRow : OpenClaim := { program := "ytlfjplocffebmaa", sum := "cd9a6103f528d7c1c33ce33dd04320b9bb88059bc35f3a1c60e1db9cb0ad295c", func := "loop.example/g01201/laws.FnExactSameFilm", spec := "fnExactSameFilm", inPlace := ["math.Float32bits", "math.Float64bits"], unfollowed := true, recurses := true, apart := false, narrowed := true }
def FnExactSameFilmUptoSaid : Prop := fnExactSameFilmUptoRow.holds Try.pinned (OpenSpec.upto fnExactSameFilmSpec)

end Rows
end Go.Proofs.Ytlfjplocffebmaa
