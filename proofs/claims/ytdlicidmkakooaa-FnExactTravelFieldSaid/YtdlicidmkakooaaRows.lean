/-
  No cell of these rows narrows 'for every input' (looked for: loops, veiled, ifaces, maps, wideKeys, modest, calm, conditions, laid).
  DERIVED. THE GIVEN ROWS OF THIS SEAT. 4 by the template 'for every input the law returns true; each argument reads behind the call as it read before'; 0 by the template 'total and deterministic' (their statements: YtdlicidmkakooaaTotals.lean).
  GIVEN WITH THE SEED: the statements are not yours to turn. If you find one false, say at which input.
  Laid BY PROGRAM, IN A SANDBOX (cutbox-rows.mjs): the forced cells as the released guide's own fill.sh prints them over the translation c672408832c9ab53… (all of the seat's roots in one cut). By AI agents, Wed Nov 11 2026. No macro, syntax, notation, axiom, sorry.
-/
import Derived.Test.YtdlicidmkakooaaChecked
import GoSem.Claim
import GoSem.ClaimJoined
import GoSem.ClaimMapViews
import Derived.JoinedTies
import Derived.KernelRfl
namespace Go.Proofs.Ytdlicidmkakooaa
/- THE CELL 'sum', in the pinned program and in every row, IS THE sha256 OF THE DUMP (.gsa) THAT YtdlicidmkakooaaProg.lean LOADS. Nothing in Lean hashes anything: it is a label: what it is worth is what the hold of that sum in a sandbox is worth. -/
noncomputable def Try.pinned : Pinned := { name := "ytdlicidmkakooaa", sum := "c672408832c9ab532c927b9c973953cf31b95709fdf57c1ed4ecb8a1e7584684", checked := Try.checked }
namespace Rows
def none {H : Type} : Left H := { results := [], args := [] }

/-- 'laws.FnOutlined': WHATEVER THE INPUT: true; the input reads as it did. -/
def fnOutlinedSpec : ChangeSpec := { name := "fnOutlined", fn := fun _ => fun
  | [d1, d2] => { results := [.lit (.bool true)], args := [d1, d2] }
  | _ => none }
def fnOutlinedRow : OpenClaim := { program := "ytdlicidmkakooaa", sum := "c672408832c9ab532c927b9c973953cf31b95709fdf57c1ed4ecb8a1e7584684", func := "loop.example/g01201/laws.FnOutlined", spec := "fnOutlined", inPlace := ["math.Float32frombits", "math.Float32bits"], unfollowed := true, recurses := true, apart := false }
def FnOutlinedSaid : Prop := fnOutlinedRow.holds Try.pinned (OpenSpec.ofChange fnOutlinedSpec)

/-- ITS FALSE NEIGHBOUR: 'it returns false'. Refute it at one input. -/
def fnOutlinedWrong : ChangeSpec := { name := "fnOutlined", fn := fun _ => fun
  | [d1, d2] => { results := [.lit (.bool false)], args := [d1, d2] }
  | _ => none }
def FnOutlinedWrongFalsely : Prop := fnOutlinedRow.holds Try.pinned (OpenSpec.ofChange fnOutlinedWrong)

/-- 'laws.FnFilmParts': WHATEVER THE INPUT: true; the input reads as it did. -/
def fnFilmPartsSpec : ChangeSpec := { name := "fnFilmParts", fn := fun _ => fun
  | [d1, d2] => { results := [.lit (.bool true)], args := [d1, d2] }
  | _ => none }
def fnFilmPartsRow : OpenClaim := { program := "ytdlicidmkakooaa", sum := "c672408832c9ab532c927b9c973953cf31b95709fdf57c1ed4ecb8a1e7584684", func := "loop.example/g01201/laws.FnFilmParts", spec := "fnFilmParts", inPlace := ["math.Float32frombits", "math.Float64bits"], unfollowed := true, recurses := true, apart := false }
def FnFilmPartsSaid : Prop := fnFilmPartsRow.holds Try.pinned (OpenSpec.ofChange fnFilmPartsSpec)

/-- ITS FALSE NEIGHBOUR: 'it returns false'. Refute it at one input. -/
def fnFilmPartsWrong : ChangeSpec := { name := "fnFilmParts", fn := fun _ => fun
  | [d1, d2] => { results := [.lit (.bool false)], args := [d1, d2] }
  | _ => none }
def FnFilmPartsWrongFalsely : Prop := fnFilmPartsRow.holds Try.pinned (OpenSpec.ofChange fnFilmPartsWrong)

/-- 'laws.FnExactLowModes': WHATEVER THE INPUT: true; the input reads as it did. -/
def fnExactLowModesSpec : ChangeSpec := { name := "fnExactLowModes", fn := fun _ => fun
  | [d1, d2, d3, d4] => { results := [.lit (.bool true)], args := [d1, d2, d3, d4] }
  | _ => none }
def fnExactLowModesRow : OpenClaim := { program := "ytdlicidmkakooaa", sum := "c672408832c9ab532c927b9c973953cf31b95709fdf57c1ed4ecb8a1e7584684", func := "loop.example/g01201/laws.FnExactLowModes", spec := "fnExactLowModes", inPlace := ["math.Float64frombits", "math.sqrt", "math.Float64bits"], unfollowed := true, recurses := true, apart := false }
def FnExactLowModesSaid : Prop := fnExactLowModesRow.holds Try.pinned (OpenSpec.ofChange fnExactLowModesSpec)

/-- ITS FALSE NEIGHBOUR: 'it returns false'. Refute it at one input. -/
def fnExactLowModesWrong : ChangeSpec := { name := "fnExactLowModes", fn := fun _ => fun
  | [d1, d2, d3, d4] => { results := [.lit (.bool false)], args := [d1, d2, d3, d4] }
  | _ => none }
def FnExactLowModesWrongFalsely : Prop := fnExactLowModesRow.holds Try.pinned (OpenSpec.ofChange fnExactLowModesWrong)

/-- 'laws.FnExactTravelField': WHATEVER THE INPUT: true; the input reads as it did. -/
def fnExactTravelFieldSpec : ChangeSpec := { name := "fnExactTravelField", fn := fun _ => fun
  | [d1, d2, d3, d4, d5] => { results := [.lit (.bool true)], args := [d1, d2, d3, d4, d5] }
  | _ => none }
def fnExactTravelFieldRow : OpenClaim := { program := "ytdlicidmkakooaa", sum := "c672408832c9ab532c927b9c973953cf31b95709fdf57c1ed4ecb8a1e7584684", func := "loop.example/g01201/laws.FnExactTravelField", spec := "fnExactTravelField", inPlace := ["math.Float32bits", "math.Float64frombits", "math.sqrt", "math.Float64bits"], unfollowed := true, recurses := true, apart := false }
def FnExactTravelFieldSaid : Prop := fnExactTravelFieldRow.holds Try.pinned (OpenSpec.ofChange fnExactTravelFieldSpec)

/-- ITS FALSE NEIGHBOUR: 'it returns false'. Refute it at one input. -/
def fnExactTravelFieldWrong : ChangeSpec := { name := "fnExactTravelField", fn := fun _ => fun
  | [d1, d2, d3, d4, d5] => { results := [.lit (.bool false)], args := [d1, d2, d3, d4, d5] }
  | _ => none }
def FnExactTravelFieldWrongFalsely : Prop := fnExactTravelFieldRow.holds Try.pinned (OpenSpec.ofChange fnExactTravelFieldWrong)

/- THE SECOND FORM. 'bulk': how many values and letters a reading holds, each counted each time it is reached (what is shared counts as often as it is met; a slice's spare places count too). A statement '..UptoSaid' is the law's where the arguments, and the package variables that the reading takes, are together of bulk at most 1048576: NARROWER than '..Said'. Prove '..Said' where nothing that the law and all that it calls make is longer than what came in: it says more and counts as full. Else prove '..UptoSaid'. A law counts once. -/
mutual
def uptoBulk {H : Type} : DataW H → Nat
  | .lit (.string bytes) => bytes.length + 1
  | .lit _ => 1
  | .nil => 1
  | .ptr d => uptoBulk d + 1
  | .slice elems spare => uptoBulkAll elems + uptoBulkAll spare + 1
  | .agg parts => uptoBulkAll parts + 1
  | .iface _ d => uptoBulk d + 1
  | .map entries => uptoBulkEntries entries + 1
  | .held _ => 1
def uptoBulkAll {H : Type} : List (DataW H) → Nat
  | [] => 0
  | d :: r => uptoBulk d + uptoBulkAll r
def uptoBulkEntries {H : Type} : List (Lit × DataW H) → Nat
  | [] => 0
  | x :: r => uptoBulkEntry x + uptoBulkEntries r
def uptoBulkEntry {H : Type} : Lit × DataW H → Nat
  | (.string bytes, d) => bytes.length + uptoBulk d + 1
  | (_, d) => uptoBulk d + 1
 end
def uptoSmall : (H : Type) → List (DataW H) → Bool := fun _ ds => decide (uptoBulkAll ds ≤ 1048576)
def OpenSpec.upto (s : _root_.Go.ChangeSpec) : _root_.Go.OpenSpec := { _root_.Go.OpenSpec.ofChange s with cond := some uptoSmall }

/-- 'laws.FnOutlined', WHERE WHAT IT READS IS OF BULK AT MOST 1048576: true; the input reads as it did. -/
def fnOutlinedUptoRow : OpenClaim := { program := "ytdlicidmkakooaa", sum := "c672408832c9ab532c927b9c973953cf31b95709fdf57c1ed4ecb8a1e7584684", func := "loop.example/g01201/laws.FnOutlined", spec := "fnOutlined", inPlace := ["math.Float32frombits", "math.Float32bits"], unfollowed := true, recurses := true, apart := false, narrowed := true }
def FnOutlinedUptoSaid : Prop := fnOutlinedUptoRow.holds Try.pinned (OpenSpec.upto fnOutlinedSpec)

/-- 'laws.FnFilmParts', WHERE WHAT IT READS IS OF BULK AT MOST 1048576: true; the input reads as it did. -/
def fnFilmPartsUptoRow : OpenClaim := { program := "ytdlicidmkakooaa", sum := "c672408832c9ab532c927b9c973953cf31b95709fdf57c1ed4ecb8a1e7584684", func := "loop.example/g01201/laws.FnFilmParts", spec := "fnFilmParts", inPlace := ["math.Float32frombits", "math.Float64bits"], unfollowed := true, recurses := true, apart := false, narrowed := true }
def FnFilmPartsUptoSaid : Prop := fnFilmPartsUptoRow.holds Try.pinned (OpenSpec.upto fnFilmPartsSpec)

/-- 'laws.FnExactLowModes', WHERE WHAT IT READS IS OF BULK AT MOST 1048576: true; the input reads as it did. -/
def fnExactLowModesUptoRow : OpenClaim := { program := "ytdlicidmkakooaa", sum := "c672408832c9ab532c927b9c973953cf31b95709fdf57c1ed4ecb8a1e7584684", func := "loop.example/g01201/laws.FnExactLowModes", spec := "fnExactLowModes", inPlace := ["math.Float64frombits", "math.sqrt", "math.Float64bits"], unfollowed := true, recurses := true, apart := false, narrowed := true }
def FnExactLowModesUptoSaid : Prop := fnExactLowModesUptoRow.holds Try.pinned (OpenSpec.upto fnExactLowModesSpec)

/-- 'laws.FnExactTravelField', WHERE WHAT IT READS IS OF BULK AT MOST 1048576: true; the input reads as it did. -/
def fnExactTravelFieldUptoRow : OpenClaim := { program := "ytdlicidmkakooaa", sum := "c672408832c9ab532c927b9c973953cf31b95709fdf57c1ed4ecb8a1e7584684", func := "loop.example/g01201/laws.FnExactTravelField", spec := "fnExactTravelField", inPlace := ["math.Float32bits", "math.Float64frombits", "math.sqrt", "math.Float64bits"], unfollowed := true, recurses := true, apart := false, narrowed := true }
def FnExactTravelFieldUptoSaid : Prop := fnExactTravelFieldUptoRow.holds Try.pinned (OpenSpec.upto fnExactTravelFieldSpec)

end Rows
end Go.Proofs.Ytdlicidmkakooaa
