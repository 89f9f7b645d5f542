/-
  No cell of these rows narrows 'for every input' (looked for: loops, veiled, ifaces, maps, wideKeys, modest, calm, conditions, laid).
  DERIVED. THE GIVEN ROWS OF THIS SEAT. 11 by the template 'for every input the law returns true; each argument reads behind the call as it read before'; 0 by the template 'total and deterministic' (their statements: YtnibmlgdnhiglaaTotals.lean).
  GIVEN WITH THE SEED: the statements are not yours to turn. If you find one false, say at which input.
  Laid BY PROGRAM, IN A SANDBOX (cutbox-rows.mjs): the forced cells as the released guide's own fill.sh prints them over the translation 3126e1b1b8df1b54… (all of the seat's roots in one cut). By AI agents, Wed Nov 11 2026. No macro, syntax, notation, axiom, sorry.
-/
import Derived.Test.YtnibmlgdnhiglaaChecked
import GoSem.Claim
import GoSem.ClaimJoined
import GoSem.ClaimMapViews
import Derived.JoinedTies
import Derived.KernelRfl
namespace Go.Proofs.Ytnibmlgdnhiglaa
/- THE CELL 'sum', in the pinned program and in every row, IS THE sha256 OF THE DUMP (.gsa) THAT YtnibmlgdnhiglaaProg.lean LOADS. Nothing in Lean hashes anything: it is a label: what it is worth is what the hold of that sum in a sandbox is worth. -/
noncomputable def Try.pinned : Pinned := { name := "ytnibmlgdnhiglaa", sum := "3126e1b1b8df1b546ebfd1a58aeb0e342c995658cb97466190e5cc1285832f4b", checked := Try.checked }
namespace Rows
def none {H : Type} : Left H := { results := [], args := [] }

/-- 'laws.FnExactIsPaint': WHATEVER THE INPUT: true; the input reads as it did. -/
def fnExactIsPaintSpec : ChangeSpec := { name := "fnExactIsPaint", fn := fun _ => fun
  | [d] => { results := [.lit (.bool true)], args := [d] }
  | _ => none }
def fnExactIsPaintRow : OpenClaim := { program := "ytnibmlgdnhiglaa", sum := "3126e1b1b8df1b546ebfd1a58aeb0e342c995658cb97466190e5cc1285832f4b", func := "loop.example/g01201/laws.FnExactIsPaint", spec := "fnExactIsPaint", apart := false }
def FnExactIsPaintSaid : Prop := fnExactIsPaintRow.holds Try.pinned (OpenSpec.ofChange fnExactIsPaintSpec)

/-- ITS FALSE NEIGHBOUR: 'it returns false'. Refute it at one input. -/
def fnExactIsPaintWrong : ChangeSpec := { name := "fnExactIsPaint", fn := fun _ => fun
  | [d] => { results := [.lit (.bool false)], args := [d] }
  | _ => none }
def FnExactIsPaintWrongFalsely : Prop := fnExactIsPaintRow.holds Try.pinned (OpenSpec.ofChange fnExactIsPaintWrong)

/-- 'laws.FnExactChangeBytes': WHATEVER THE INPUT: true; the input reads as it did. -/
def fnExactChangeBytesSpec : ChangeSpec := { name := "fnExactChangeBytes", fn := fun _ => fun
  | [d1, d2] => { results := [.lit (.bool true)], args := [d1, d2] }
  | _ => none }
def fnExactChangeBytesRow : OpenClaim := { program := "ytnibmlgdnhiglaa", sum := "3126e1b1b8df1b546ebfd1a58aeb0e342c995658cb97466190e5cc1285832f4b", func := "loop.example/g01201/laws.FnExactChangeBytes", spec := "fnExactChangeBytes", inPlace := ["math.Float32bits"], apart := false }
def FnExactChangeBytesSaid : Prop := fnExactChangeBytesRow.holds Try.pinned (OpenSpec.ofChange fnExactChangeBytesSpec)

/-- ITS FALSE NEIGHBOUR: 'it returns false'. Refute it at one input. -/
def fnExactChangeBytesWrong : ChangeSpec := { name := "fnExactChangeBytes", fn := fun _ => fun
  | [d1, d2] => { results := [.lit (.bool false)], args := [d1, d2] }
  | _ => none }
def FnExactChangeBytesWrongFalsely : Prop := fnExactChangeBytesRow.holds Try.pinned (OpenSpec.ofChange fnExactChangeBytesWrong)

/-- 'laws.FnExactRowDelay': WHATEVER THE INPUT: true; the input reads as it did. -/
def fnExactRowDelaySpec : ChangeSpec := { name := "fnExactRowDelay", fn := fun _ => fun
  | [d1, d2] => { results := [.lit (.bool true)], args := [d1, d2] }
  | _ => none }
def fnExactRowDelayRow : OpenClaim := { program := "ytnibmlgdnhiglaa", sum := "3126e1b1b8df1b546ebfd1a58aeb0e342c995658cb97466190e5cc1285832f4b", func := "loop.example/g01201/laws.FnExactRowDelay", spec := "fnExactRowDelay", apart := false }
def FnExactRowDelaySaid : Prop := fnExactRowDelayRow.holds Try.pinned (OpenSpec.ofChange fnExactRowDelaySpec)

/-- ITS FALSE NEIGHBOUR: 'it returns false'. Refute it at one input. -/
def fnExactRowDelayWrong : ChangeSpec := { name := "fnExactRowDelay", fn := fun _ => fun
  | [d1, d2] => { results := [.lit (.bool false)], args := [d1, d2] }
  | _ => none }
def FnExactRowDelayWrongFalsely : Prop := fnExactRowDelayRow.holds Try.pinned (OpenSpec.ofChange fnExactRowDelayWrong)

/-- 'laws.FnExactSameShape': WHATEVER THE INPUT: true; the input reads as it did. -/
def fnExactSameShapeSpec : ChangeSpec := { name := "fnExactSameShape", fn := fun _ => fun
  | [d1, d2] => { results := [.lit (.bool true)], args := [d1, d2] }
  | _ => none }
def fnExactSameShapeRow : OpenClaim := { program := "ytnibmlgdnhiglaa", sum := "3126e1b1b8df1b546ebfd1a58aeb0e342c995658cb97466190e5cc1285832f4b", func := "loop.example/g01201/laws.FnExactSameShape", spec := "fnExactSameShape", apart := false }
def FnExactSameShapeSaid : Prop := fnExactSameShapeRow.holds Try.pinned (OpenSpec.ofChange fnExactSameShapeSpec)

/-- ITS FALSE NEIGHBOUR: 'it returns false'. Refute it at one input. -/
def fnExactSameShapeWrong : ChangeSpec := { name := "fnExactSameShape", fn := fun _ => fun
  | [d1, d2] => { results := [.lit (.bool false)], args := [d1, d2] }
  | _ => none }
def FnExactSameShapeWrongFalsely : Prop := fnExactSameShapeRow.holds Try.pinned (OpenSpec.ofChange fnExactSameShapeWrong)

/-- 'laws.FnChanges': WHATEVER THE INPUT: true; the input reads as it did. -/
def fnChangesSpec : ChangeSpec := { name := "fnChanges", fn := fun _ => fun
  | [d1, d2] => { results := [.lit (.bool true)], args := [d1, d2] }
  | _ => none }
def fnChangesRow : OpenClaim := { program := "ytnibmlgdnhiglaa", sum := "3126e1b1b8df1b546ebfd1a58aeb0e342c995658cb97466190e5cc1285832f4b", func := "loop.example/g01201/laws.FnChanges", spec := "fnChanges", inPlace := ["math.Float32frombits", "math.Float32bits", "math.Float64bits"], apart := false }
def FnChangesSaid : Prop := fnChangesRow.holds Try.pinned (OpenSpec.ofChange fnChangesSpec)

/-- ITS FALSE NEIGHBOUR: 'it returns false'. Refute it at one input. -/
def fnChangesWrong : ChangeSpec := { name := "fnChanges", fn := fun _ => fun
  | [d1, d2] => { results := [.lit (.bool false)], args := [d1, d2] }
  | _ => none }
def FnChangesWrongFalsely : Prop := fnChangesRow.holds Try.pinned (OpenSpec.ofChange fnChangesWrong)

/-- 'laws.FnExactStoreSheet': WHATEVER THE INPUT: true; the input reads as it did. -/
def fnExactStoreSheetSpec : ChangeSpec := { name := "fnExactStoreSheet", fn := fun _ => fun
  | [d] => { results := [.lit (.bool true)], args := [d] }
  | _ => none }
def fnExactStoreSheetRow : OpenClaim := { program := "ytnibmlgdnhiglaa", sum := "3126e1b1b8df1b546ebfd1a58aeb0e342c995658cb97466190e5cc1285832f4b", func := "loop.example/g01201/laws.FnExactStoreSheet", spec := "fnExactStoreSheet", inPlace := ["math.Float32bits"], apart := false }
def FnExactStoreSheetSaid : Prop := fnExactStoreSheetRow.holds Try.pinned (OpenSpec.ofChange fnExactStoreSheetSpec)

/-- ITS FALSE NEIGHBOUR: 'it returns false'. Refute it at one input. -/
def fnExactStoreSheetWrong : ChangeSpec := { name := "fnExactStoreSheet", fn := fun _ => fun
  | [d] => { results := [.lit (.bool false)], args := [d] }
  | _ => none }
def FnExactStoreSheetWrongFalsely : Prop := fnExactStoreSheetRow.holds Try.pinned (OpenSpec.ofChange fnExactStoreSheetWrong)

/-- 'laws.FnExactApplyChange': WHATEVER THE INPUT: true; the input reads as it did. -/
def fnExactApplyChangeSpec : ChangeSpec := { name := "fnExactApplyChange", fn := fun _ => fun
  | [d1, d2] => { results := [.lit (.bool true)], args := [d1, d2] }
  | _ => none }
def fnExactApplyChangeRow : OpenClaim := { program := "ytnibmlgdnhiglaa", sum := "3126e1b1b8df1b546ebfd1a58aeb0e342c995658cb97466190e5cc1285832f4b", func := "loop.example/g01201/laws.FnExactApplyChange", spec := "fnExactApplyChange", inPlace := ["math.Float32bits", "math.Float32frombits"], apart := false }
def FnExactApplyChangeSaid : Prop := fnExactApplyChangeRow.holds Try.pinned (OpenSpec.ofChange fnExactApplyChangeSpec)

/-- ITS FALSE NEIGHBOUR: 'it returns false'. Refute it at one input. -/
def fnExactApplyChangeWrong : ChangeSpec := { name := "fnExactApplyChange", fn := fun _ => fun
  | [d1, d2] => { results := [.lit (.bool false)], args := [d1, d2] }
  | _ => none }
def FnExactApplyChangeWrongFalsely : Prop := fnExactApplyChangeRow.holds Try.pinned (OpenSpec.ofChange fnExactApplyChangeWrong)

/-- 'laws.FnExactPaintRamp': WHATEVER THE INPUT: true; the input reads as it did. -/
def fnExactPaintRampSpec : ChangeSpec := { name := "fnExactPaintRamp", fn := fun _ => fun
  | [d1, d2, d3] => { results := [.lit (.bool true)], args := [d1, d2, d3] }
  | _ => none }
def fnExactPaintRampRow : OpenClaim := { program := "ytnibmlgdnhiglaa", sum := "3126e1b1b8df1b546ebfd1a58aeb0e342c995658cb97466190e5cc1285832f4b", func := "loop.example/g01201/laws.FnExactPaintRamp", spec := "fnExactPaintRamp", unfollowed := true, recurses := true, apart := false }
def FnExactPaintRampSaid : Prop := fnExactPaintRampRow.holds Try.pinned (OpenSpec.ofChange fnExactPaintRampSpec)

/-- ITS FALSE NEIGHBOUR: 'it returns false'. Refute it at one input. -/
def fnExactPaintRampWrong : ChangeSpec := { name := "fnExactPaintRamp", fn := fun _ => fun
  | [d1, d2, d3] => { results := [.lit (.bool false)], args := [d1, d2, d3] }
  | _ => none }
def FnExactPaintRampWrongFalsely : Prop := fnExactPaintRampRow.holds Try.pinned (OpenSpec.ofChange fnExactPaintRampWrong)

/-- 'laws.FnExactPaintedCells': WHATEVER THE INPUT: true; the input reads as it did. -/
def fnExactPaintedCellsSpec : ChangeSpec := { name := "fnExactPaintedCells", fn := fun _ => fun
  | [d1, d2] => { results := [.lit (.bool true)], args := [d1, d2] }
  | _ => none }
def fnExactPaintedCellsRow : OpenClaim := { program := "ytnibmlgdnhiglaa", sum := "3126e1b1b8df1b546ebfd1a58aeb0e342c995658cb97466190e5cc1285832f4b", func := "loop.example/g01201/laws.FnExactPaintedCells", spec := "fnExactPaintedCells", inPlace := ["math.Float32bits", "math.Float64bits"], unfollowed := true, recurses := true, apart := false }
def FnExactPaintedCellsSaid : Prop := fnExactPaintedCellsRow.holds Try.pinned (OpenSpec.ofChange fnExactPaintedCellsSpec)

/-- ITS FALSE NEIGHBOUR: 'it returns false'. Refute it at one input. -/
def fnExactPaintedCellsWrong : ChangeSpec := { name := "fnExactPaintedCells", fn := fun _ => fun
  | [d1, d2] => { results := [.lit (.bool false)], args := [d1, d2] }
  | _ => none }
def FnExactPaintedCellsWrongFalsely : Prop := fnExactPaintedCellsRow.holds Try.pinned (OpenSpec.ofChange fnExactPaintedCellsWrong)

/-- 'laws.FnExactOutlineOf': WHATEVER THE INPUT: true; the input reads as it did. -/
def fnExactOutlineOfSpec : ChangeSpec := { name := "fnExactOutlineOf", fn := fun _ => fun
  | [d] => { results := [.lit (.bool true)], args := [d] }
  | _ => none }
def fnExactOutlineOfRow : OpenClaim := { program := "ytnibmlgdnhiglaa", sum := "3126e1b1b8df1b546ebfd1a58aeb0e342c995658cb97466190e5cc1285832f4b", func := "loop.example/g01201/laws.FnExactOutlineOf", spec := "fnExactOutlineOf", unfollowed := true, recurses := true, apart := false }
def FnExactOutlineOfSaid : Prop := fnExactOutlineOfRow.holds Try.pinned (OpenSpec.ofChange fnExactOutlineOfSpec)

/-- ITS FALSE NEIGHBOUR: 'it returns false'. Refute it at one input. -/
def fnExactOutlineOfWrong : ChangeSpec := { name := "fnExactOutlineOf", fn := fun _ => fun
  | [d] => { results := [.lit (.bool false)], args := [d] }
  | _ => none }
def FnExactOutlineOfWrongFalsely : Prop := fnExactOutlineOfRow.holds Try.pinned (OpenSpec.ofChange fnExactOutlineOfWrong)

/-- 'laws.FnExactValidDesk': WHATEVER THE INPUT: true; the input reads as it did. -/
def fnExactValidDeskSpec : ChangeSpec := { name := "fnExactValidDesk", fn := fun _ => fun
  | [d] => { results := [.lit (.bool true)], args := [d] }
  | _ => none }
def fnExactValidDeskRow : OpenClaim := { program := "ytnibmlgdnhiglaa", sum := "3126e1b1b8df1b546ebfd1a58aeb0e342c995658cb97466190e5cc1285832f4b", func := "loop.example/g01201/laws.FnExactValidDesk", spec := "fnExactValidDesk", apart := false }
def FnExactValidDeskSaid : Prop := fnExactValidDeskRow.holds Try.pinned (OpenSpec.ofChange fnExactValidDeskSpec)

/-- ITS FALSE NEIGHBOUR: 'it returns false'. Refute it at one input. -/
def fnExactValidDeskWrong : ChangeSpec := { name := "fnExactValidDesk", fn := fun _ => fun
  | [d] => { results := [.lit (.bool false)], args := [d] }
  | _ => none }
def FnExactValidDeskWrongFalsely : Prop := fnExactValidDeskRow.holds Try.pinned (OpenSpec.ofChange fnExactValidDeskWrong)

/- THE SECOND FORM. 'bulk': how many values and letters a reading holds, each counted each time it is reached (what is shared counts as often as it is met; a slice's spare places count too). A statement '..UptoSaid' is the law's where the arguments, and the package variables that the reading takes, are together of bulk at most 1048576: NARROWER than '..Said'. Prove '..Said' where nothing that the law and all that it calls make is longer than what came in: it says more and counts as full. Else prove '..UptoSaid'. A law counts once. -/
mutual
def uptoBulk {H : Type} : DataW H → Nat
  | .lit (.string bytes) => bytes.length + 1
  | .lit _ => 1
  | .nil => 1
  | .ptr d => uptoBulk d + 1
  | .slice elems spare => uptoBulkAll elems + uptoBulkAll spare + 1
  | .agg parts => uptoBulkAll parts + 1
  | .iface _ d => uptoBulk d + 1
  | .map entries => uptoBulkEntries entries + 1
  | .held _ => 1
def uptoBulkAll {H : Type} : List (DataW H) → Nat
  | [] => 0
  | d :: r => uptoBulk d + uptoBulkAll r
def uptoBulkEntries {H : Type} : List (Lit × DataW H) → Nat
  | [] => 0
  | x :: r => uptoBulkEntry x + uptoBulkEntries r
def uptoBulkEntry {H : Type} : Lit × DataW H → Nat
  | (.string bytes, d) => bytes.length + uptoBulk d + 1
  | (_, d) => uptoBulk d + 1
 end
def uptoSmall : (H : Type) → List (DataW H) → Bool := fun _ ds => decide (uptoBulkAll ds ≤ 1048576)
def OpenSpec.upto (s : _root_.Go.ChangeSpec) : _root_.Go.OpenSpec := { _root_.Go.OpenSpec.ofChange s with cond := some uptoSmall }

/-- 'laws.FnExactIsPaint', WHERE WHAT IT READS IS OF BULK AT MOST 1048576: true; the input reads as it did. -/
def fnExactIsPaintUptoRow : OpenClaim := { program := "ytnibmlgdnhiglaa", sum := "3126e1b1b8df1b546ebfd1a58aeb0e342c995658cb97466190e5cc1285832f4b", func := "loop.example/g01201/laws.FnExactIsPaint", spec := "fnExactIsPaint", apart := false, narrowed := true }
def FnExactIsPaintUptoSaid : Prop := fnExactIsPaintUptoRow.holds Try.pinned (OpenSpec.upto fnExactIsPaintSpec)

/-- 'laws.FnExactChangeBytes', WHERE WHAT IT READS IS OF BULK AT MOST 1048576: true; the input reads as it did. -/
def fnExactChangeBytesUptoRow : OpenClaim := { program := "ytnibmlgdnhiglaa", sum := "3126e1b1b8df1b546ebfd1a58aeb0e342c995658cb97466190e5cc1285832f4b", func := "loop.example/g01201/laws.FnExactChangeBytes", spec := "fnExactChangeBytes", inPlace := ["math.Float32bits"], apart := false, narrowed := true }
def FnExactChangeBytesUptoSaid : Prop := fnExactChangeBytesUptoRow.holds Try.pinned (OpenSpec.upto fnExactChangeBytesSpec)

/-- 'laws.FnExactRowDelay', WHERE WHAT IT READS IS OF BULK AT MOST 1048576: true; the input reads as it did. -/
def fnExactRowDelayUptoRow : OpenClaim := { program := "ytnibmlgdnhiglaa", sum := "3126e1b1b8df1b546ebfd1a58aeb0e342c995658cb97466190e5cc1285832f4b", func := "loop.example/g01201/laws.FnExactRowDelay", spec := "fnExactRowDelay", apart := false, narrowed := true }
def FnExactRowDelayUptoSaid : Prop := fnExactRowDelayUptoRow.holds Try.pinned (OpenSpec.upto fnExactRowDelaySpec)

/-- 'laws.FnExactSameShape', WHERE WHAT IT READS IS OF BULK AT MOST 1048576: true; the input reads as it did. -/
def fnExactSameShapeUptoRow : OpenClaim := { program := "ytnibmlgdnhiglaa", sum := "3126e1b1b8df1b546ebfd1a58aeb0e342c995658cb97466190e5cc1285832f4b", func := "loop.example/g01201/laws.FnExactSameShape", spec := "fnExactSameShape", apart := false, narrowed := true }
def FnExactSameShapeUptoSaid : Prop := fnExactSameShapeUptoRow.holds Try.pinned (OpenSpec.upto fnExactSameShapeSpec)

/-- 'laws.FnChanges', WHERE WHAT IT READS IS OF BULK AT MOST 1048576: true; the input reads as it did. -/
def fnChangesUptoRow : OpenClaim := { program := "ytnibmlgdnhiglaa", sum := "3126e1b1b8df1b546ebfd1a58aeb0e342c995658cb97466190e5cc1285832f4b", func := "loop.example/g01201/laws.FnChanges", spec := "fnChanges", inPlace := ["math.Float32frombits", "math.Float32bits", "math.Float64bits"], apart := false, narrowed := true }
def FnChangesUptoSaid : Prop := fnChangesUptoRow.holds Try.pinned (OpenSpec.upto fnChangesSpec)

/-- 'laws.FnExactStoreSheet', WHERE WHAT IT READS IS OF BULK AT MOST 1048576: true; the input reads as it did. -/
def fnExactStoreSheetUptoRow : OpenClaim := { program := "ytnibmlgdnhiglaa", sum := "3126e1b1b8df1b546ebfd1a58aeb0e342c995658cb97466190e5cc1285832f4b", func := "loop.example/g01201/laws.FnExactStoreSheet", spec := "fnExactStoreSheet", inPlace := ["math.Float32bits"], apart := false, narrowed := true }
def FnExactStoreSheetUptoSaid : Prop := fnExactStoreSheetUptoRow.holds Try.pinned (OpenSpec.upto fnExactStoreSheetSpec)

/-- 'laws.FnExactApplyChange', WHERE WHAT IT READS IS OF BULK AT MOST 1048576: true; the input reads as it did. -/
def fnExactApplyChangeUptoRow : OpenClaim := { program := "ytnibmlgdnhiglaa", sum := "3126e1b1b8df1b546ebfd1a58aeb0e342c995658cb97466190e5cc1285832f4b", func := "loop.example/g01201/laws.FnExactApplyChange", spec := "fnExactApplyChange", inPlace := ["math.Float32bits", "math.Float32frombits"], apart := false, narrowed := true }
def FnExactApplyChangeUptoSaid : Prop := fnExactApplyChangeUptoRow.holds Try.pinned (OpenSpec.upto fnExactApplyChangeSpec)

/-- 'laws.FnExactPaintRamp', WHERE WHAT IT READS IS OF BULK AT MOST 1048576: true; the input reads as it did. -/
def fnExactPaintRampUptoRow : OpenClaim := { program := "ytnibmlgdnhiglaa", sum := "3126e1b1b8df1b546ebfd1a58aeb0e342c995658cb97466190e5cc1285832f4b", func := "loop.example/g01201/laws.FnExactPaintRamp", spec := "fnExactPaintRamp", unfollowed := true, recurses := true, apart := false, narrowed := true }
def FnExactPaintRampUptoSaid : Prop := fnExactPaintRampUptoRow.holds Try.pinned (OpenSpec.upto fnExactPaintRampSpec)

/-- 'laws.FnExactPaintedCells', WHERE WHAT IT READS IS OF BULK AT MOST 1048576: true; the input reads as it did. -/
def fnExactPaintedCellsUptoRow : OpenClaim := { program := "ytnibmlgdnhiglaa", sum := "3126e1b1b8df1b546ebfd1a58aeb0e342c995658cb97466190e5cc1285832f4b", func := "loop.example/g01201/laws.FnExactPaintedCells", spec := "fnExactPaintedCells", inPlace := ["math.Float32bits", "math.Float64bits"], unfollowed := true, recurses := true, apart := false, narrowed := true }
def FnExactPaintedCellsUptoSaid : Prop := fnExactPaintedCellsUptoRow.holds Try.pinned (OpenSpec.upto fnExactPaintedCellsSpec)

/-- 'laws.FnExactOutlineOf', WHERE WHAT IT READS IS OF BULK AT MOST 1048576: true; the input reads as it did. -/
def fnExactOutlineOfUptoRow : OpenClaim := { program := "ytnibmlgdnhiglaa", sum := "3126e1b1b8df1b546ebfd1a58aeb0e342c995658cb97466190e5cc1285832f4b", func := "loop.example/g01201/laws.FnExactOutlineOf", spec := "fnExactOutlineOf", unfollowed := true, recurses := true, apart := false, narrowed := true }
def FnExactOutlineOfUptoSaid : Prop := fnExactOutlineOfUptoRow.holds Try.pinned (OpenSpec.upto fnExactOutlineOfSpec)

/-- 'laws.FnExactValidDesk', WHERE WHAT IT READS IS OF BULK AT MOST 1048576: true; the input reads as it did. -/
def fnExactValidDeskUptoRow : OpenClaim := { program := "ytnibmlgdnhiglaa", sum := "3126e1b1b8df1b546ebfd1a58aeb0e342c995658cb97466190e5cc1285832f4b", func := "loop.example/g01201/laws.FnExactValidDesk", spec := "fnExactValidDesk", apart := false, narrowed := true }
def FnExactValidDeskUptoSaid : Prop := fnExactValidDeskUptoRow.holds Try.pinned (OpenSpec.upto fnExactValidDeskSpec)

end Rows
end Go.Proofs.Ytnibmlgdnhiglaa
