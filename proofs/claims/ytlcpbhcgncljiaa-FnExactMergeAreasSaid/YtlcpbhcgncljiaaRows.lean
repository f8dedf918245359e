/-
  No cell of these rows narrows 'for every input' (looked for: loops, veiled, ifaces, maps, wideKeys, modest, calm, conditions, laid).
  DERIVED. THE GIVEN ROWS OF THIS SEAT. 7 by the template 'for every input the law returns true; each argument reads behind the call as it read before'; 0 by the template 'total and deterministic' (their statements: YtlcpbhcgncljiaaTotals.lean).
  GIVEN WITH THE SEED: the statements are not yours to turn. If you find one false, say at which input.
  Laid BY PROGRAM, IN A SANDBOX (cutbox-rows.mjs): the forced cells as the released guide's own fill.sh prints them over the translation fbf99c49a0b5b4b3… (all of the seat's roots in one cut). By AI agents, Wed Nov 11 2026. No macro, syntax, notation, axiom, sorry.
-/
import Derived.Test.YtlcpbhcgncljiaaChecked
import GoSem.Claim
import GoSem.ClaimJoined
import GoSem.ClaimMapViews
import Derived.JoinedTies
import Derived.KernelRfl
namespace Go.Proofs.Ytlcpbhcgncljiaa
/- THE CELL 'sum', in the pinned program and in every row, IS THE sha256 OF THE DUMP (.gsa) THAT YtlcpbhcgncljiaaProg.lean LOADS. Nothing in Lean hashes anything: it is a label: what it is worth is what the hold of that sum in a sandbox is worth. -/
noncomputable def Try.pinned : Pinned := { name := "ytlcpbhcgncljiaa", sum := "fbf99c49a0b5b4b38ffcc0d8df429a8a6be02aa4da5c089348b96420c0002bd6", checked := Try.checked }
namespace Rows
def none {H : Type} : Left H := { results := [], args := [] }

/-- 'laws.FnExactIsValidAreaMap': WHATEVER THE INPUT: true; the input reads as it did. -/
def fnExactIsValidAreaMapSpec : ChangeSpec := { name := "fnExactIsValidAreaMap", fn := fun _ => fun
  | [d] => { results := [.lit (.bool true)], args := [d] }
  | _ => none }
def fnExactIsValidAreaMapRow : OpenClaim := { program := "ytlcpbhcgncljiaa", sum := "fbf99c49a0b5b4b38ffcc0d8df429a8a6be02aa4da5c089348b96420c0002bd6", func := "loop.example/g00889/laws.FnExactIsValidAreaMap", spec := "fnExactIsValidAreaMap", apart := false }
def FnExactIsValidAreaMapSaid : Prop := fnExactIsValidAreaMapRow.holds Try.pinned (OpenSpec.ofChange fnExactIsValidAreaMapSpec)

/-- ITS FALSE NEIGHBOUR: 'it returns false'. Refute it at one input. -/
def fnExactIsValidAreaMapWrong : ChangeSpec := { name := "fnExactIsValidAreaMap", fn := fun _ => fun
  | [d] => { results := [.lit (.bool false)], args := [d] }
  | _ => none }
def FnExactIsValidAreaMapWrongFalsely : Prop := fnExactIsValidAreaMapRow.holds Try.pinned (OpenSpec.ofChange fnExactIsValidAreaMapWrong)

/-- 'laws.FnExactAreaCells': WHATEVER THE INPUT: true; the input reads as it did. -/
def fnExactAreaCellsSpec : ChangeSpec := { name := "fnExactAreaCells", fn := fun _ => fun
  | [d1, d2] => { results := [.lit (.bool true)], args := [d1, d2] }
  | _ => none }
def fnExactAreaCellsRow : OpenClaim := { program := "ytlcpbhcgncljiaa", sum := "fbf99c49a0b5b4b38ffcc0d8df429a8a6be02aa4da5c089348b96420c0002bd6", func := "loop.example/g00889/laws.FnExactAreaCells", spec := "fnExactAreaCells", unfollowed := true, recurses := true, apart := false }
def FnExactAreaCellsSaid : Prop := fnExactAreaCellsRow.holds Try.pinned (OpenSpec.ofChange fnExactAreaCellsSpec)

/-- ITS FALSE NEIGHBOUR: 'it returns false'. Refute it at one input. -/
def fnExactAreaCellsWrong : ChangeSpec := { name := "fnExactAreaCells", fn := fun _ => fun
  | [d1, d2] => { results := [.lit (.bool false)], args := [d1, d2] }
  | _ => none }
def FnExactAreaCellsWrongFalsely : Prop := fnExactAreaCellsRow.holds Try.pinned (OpenSpec.ofChange fnExactAreaCellsWrong)

/-- 'laws.FnExactCommonSides': WHATEVER THE INPUT: true; the input reads as it did. -/
def fnExactCommonSidesSpec : ChangeSpec := { name := "fnExactCommonSides", fn := fun _ => fun
  | [d1, d2, d3] => { results := [.lit (.bool true)], args := [d1, d2, d3] }
  | _ => none }
def fnExactCommonSidesRow : OpenClaim := { program := "ytlcpbhcgncljiaa", sum := "fbf99c49a0b5b4b38ffcc0d8df429a8a6be02aa4da5c089348b96420c0002bd6", func := "loop.example/g00889/laws.FnExactCommonSides", spec := "fnExactCommonSides", unfollowed := true, recurses := true, apart := false }
def FnExactCommonSidesSaid : Prop := fnExactCommonSidesRow.holds Try.pinned (OpenSpec.ofChange fnExactCommonSidesSpec)

/-- ITS FALSE NEIGHBOUR: 'it returns false'. Refute it at one input. -/
def fnExactCommonSidesWrong : ChangeSpec := { name := "fnExactCommonSides", fn := fun _ => fun
  | [d1, d2, d3] => { results := [.lit (.bool false)], args := [d1, d2, d3] }
  | _ => none }
def FnExactCommonSidesWrongFalsely : Prop := fnExactCommonSidesRow.holds Try.pinned (OpenSpec.ofChange fnExactCommonSidesWrong)

/-- 'laws.FnExactMergeAreas': WHATEVER THE INPUT: true; the input reads as it did. -/
def fnExactMergeAreasSpec : ChangeSpec := { name := "fnExactMergeAreas", fn := fun _ => fun
  | [d1, d2, d3] => { results := [.lit (.bool true)], args := [d1, d2, d3] }
  | _ => none }
def fnExactMergeAreasRow : OpenClaim := { program := "ytlcpbhcgncljiaa", sum := "fbf99c49a0b5b4b38ffcc0d8df429a8a6be02aa4da5c089348b96420c0002bd6", func := "loop.example/g00889/laws.FnExactMergeAreas", spec := "fnExactMergeAreas", unfollowed := true, recurses := true, apart := false }
def FnExactMergeAreasSaid : Prop := fnExactMergeAreasRow.holds Try.pinned (OpenSpec.ofChange fnExactMergeAreasSpec)

/-- ITS FALSE NEIGHBOUR: 'it returns false'. Refute it at one input. -/
def fnExactMergeAreasWrong : ChangeSpec := { name := "fnExactMergeAreas", fn := fun _ => fun
  | [d1, d2, d3] => { results := [.lit (.bool false)], args := [d1, d2, d3] }
  | _ => none }
def FnExactMergeAreasWrongFalsely : Prop := fnExactMergeAreasRow.holds Try.pinned (OpenSpec.ofChange fnExactMergeAreasWrong)

/-- 'laws.FnExactNeighborsOf': WHATEVER THE INPUT: true; the input reads as it did. -/
def fnExactNeighborsOfSpec : ChangeSpec := { name := "fnExactNeighborsOf", fn := fun _ => fun
  | [d1, d2] => { results := [.lit (.bool true)], args := [d1, d2] }
  | _ => none }
def fnExactNeighborsOfRow : OpenClaim := { program := "ytlcpbhcgncljiaa", sum := "fbf99c49a0b5b4b38ffcc0d8df429a8a6be02aa4da5c089348b96420c0002bd6", func := "loop.example/g00889/laws.FnExactNeighborsOf", spec := "fnExactNeighborsOf", unfollowed := true, recurses := true, apart := false }
def FnExactNeighborsOfSaid : Prop := fnExactNeighborsOfRow.holds Try.pinned (OpenSpec.ofChange fnExactNeighborsOfSpec)

/-- ITS FALSE NEIGHBOUR: 'it returns false'. Refute it at one input. -/
def fnExactNeighborsOfWrong : ChangeSpec := { name := "fnExactNeighborsOf", fn := fun _ => fun
  | [d1, d2] => { results := [.lit (.bool false)], args := [d1, d2] }
  | _ => none }
def FnExactNeighborsOfWrongFalsely : Prop := fnExactNeighborsOfRow.holds Try.pinned (OpenSpec.ofChange fnExactNeighborsOfWrong)

/-- 'laws.FnExactAreaCoverage': WHATEVER THE INPUT: true; the input reads as it did. -/
def fnExactAreaCoverageSpec : ChangeSpec := { name := "fnExactAreaCoverage", fn := fun _ => fun
  | [d1, d2, d3, d4] => { results := [.lit (.bool true)], args := [d1, d2, d3, d4] }
  | _ => none }
def fnExactAreaCoverageRow : OpenClaim := { program := "ytlcpbhcgncljiaa", sum := "fbf99c49a0b5b4b38ffcc0d8df429a8a6be02aa4da5c089348b96420c0002bd6", func := "loop.example/g00889/laws.FnExactAreaCoverage", spec := "fnExactAreaCoverage", unfollowed := true, recurses := true, apart := false }
def FnExactAreaCoverageSaid : Prop := fnExactAreaCoverageRow.holds Try.pinned (OpenSpec.ofChange fnExactAreaCoverageSpec)

/-- ITS FALSE NEIGHBOUR: 'it returns false'. Refute it at one input. -/
def fnExactAreaCoverageWrong : ChangeSpec := { name := "fnExactAreaCoverage", fn := fun _ => fun
  | [d1, d2, d3, d4] => { results := [.lit (.bool false)], args := [d1, d2, d3, d4] }
  | _ => none }
def FnExactAreaCoverageWrongFalsely : Prop := fnExactAreaCoverageRow.holds Try.pinned (OpenSpec.ofChange fnExactAreaCoverageWrong)

/-- 'laws.FnExactAreaMaximum': WHATEVER THE INPUT: true; the input reads as it did. -/
def fnExactAreaMaximumSpec : ChangeSpec := { name := "fnExactAreaMaximum", fn := fun _ => fun
  | [d1, d2, d3] => { results := [.lit (.bool true)], args := [d1, d2, d3] }
  | _ => none }
def fnExactAreaMaximumRow : OpenClaim := { program := "ytlcpbhcgncljiaa", sum := "fbf99c49a0b5b4b38ffcc0d8df429a8a6be02aa4da5c089348b96420c0002bd6", func := "loop.example/g00889/laws.FnExactAreaMaximum", spec := "fnExactAreaMaximum", unfollowed := true, recurses := true, apart := false }
def FnExactAreaMaximumSaid : Prop := fnExactAreaMaximumRow.holds Try.pinned (OpenSpec.ofChange fnExactAreaMaximumSpec)

/-- ITS FALSE NEIGHBOUR: 'it returns false'. Refute it at one input. -/
def fnExactAreaMaximumWrong : ChangeSpec := { name := "fnExactAreaMaximum", fn := fun _ => fun
  | [d1, d2, d3] => { results := [.lit (.bool false)], args := [d1, d2, d3] }
  | _ => none }
def FnExactAreaMaximumWrongFalsely : Prop := fnExactAreaMaximumRow.holds Try.pinned (OpenSpec.ofChange fnExactAreaMaximumWrong)

/- THE SECOND FORM. 'bulk': how many values and letters a reading holds, each counted each time it is reached (what is shared counts as often as it is met; a slice's spare places count too). A statement '..UptoSaid' is the law's where the arguments, and the package variables that the reading takes, are together of bulk at most 1048576: NARROWER than '..Said'. Prove '..Said' where nothing that the law and all that it calls make is longer than what came in: it says more and counts as full. Else prove '..UptoSaid'. A law counts once. -/
mutual
def uptoBulk {H : Type} : DataW H → Nat
  | .lit (.string bytes) => bytes.length + 1
  | .lit _ => 1
  | .nil => 1
  | .ptr d => uptoBulk d + 1
  | .slice elems spare => uptoBulkAll elems + uptoBulkAll spare + 1
  | .agg parts => uptoBulkAll parts + 1
  | .iface _ d => uptoBulk d + 1
  | .map entries => uptoBulkEntries entries + 1
  | .held _ => 1
def uptoBulkAll {H : Type} : List (DataW H) → Nat
  | [] => 0
  | d :: r => uptoBulk d + uptoBulkAll r
def uptoBulkEntries {H : Type} : List (Lit × DataW H) → Nat
  | [] => 0
  | x :: r => uptoBulkEntry x + uptoBulkEntries r
def uptoBulkEntry {H : Type} : Lit × DataW H → Nat
  | (.string bytes, d) => bytes.length + uptoBulk d + 1
  | (_, d) => uptoBulk d + 1
 end
def uptoSmall : (H : Type) → List (DataW H) → Bool := fun _ ds => decide (uptoBulkAll ds ≤ 1048576)
def OpenSpec.upto (s : _root_.Go.ChangeSpec) : _root_.Go.OpenSpec := { _root_.Go.OpenSpec.ofChange s with cond := some uptoSmall }

/-- 'laws.FnExactIsValidAreaMap', WHERE WHAT IT READS IS OF BULK AT MOST 1048576: true; the input reads as it did. -/
def fnExactIsValidAreaMapUptoRow : OpenClaim := { program := "ytlcpbhcgncljiaa", sum := "fbf99c49a0b5b4b38ffcc0d8df429a8a6be02aa4da5c089348b96420c0002bd6", func := "loop.example/g00889/laws.FnExactIsValidAreaMap", spec := "fnExactIsValidAreaMap", apart := false, narrowed := true }
def FnExactIsValidAreaMapUptoSaid : Prop := fnExactIsValidAreaMapUptoRow.holds Try.pinned (OpenSpec.upto fnExactIsValidAreaMapSpec)

/-- 'laws.FnExactAreaCells', WHERE WHAT IT READS IS OF BULK AT MOST 1048576: true; the input reads as it did. -/
def fnExactAreaCellsUptoRow : OpenClaim := { program := "ytlcpbhcgncljiaa", sum := "fbf99c49a0b5b4b38ffcc0d8df429a8a6be02aa4da5c089348b96420c0002bd6", func := "loop.example/g00889/laws.FnExactAreaCells", spec := "fnExactAreaCells", unfollowed := true, recurses := true, apart := false, narrowed := true }
def FnExactAreaCellsUptoSaid : Prop := fnExactAreaCellsUptoRow.holds Try.pinned (OpenSpec.upto fnExactAreaCellsSpec)

/-- 'laws.FnExactCommonSides', WHERE WHAT IT READS IS OF BULK AT MOST 1048576: true; the input reads as it did. -/
def fnExactCommonSidesUptoRow : OpenClaim := { program := "ytlcpbhcgncljiaa", sum := "fbf99c49a0b5b4b38ffcc0d8df429a8a6be02aa4da5c089348b96420c0002bd6", func := "loop.example/g00889/laws.FnExactCommonSides", spec := "fnExactCommonSides", unfollowed := true, recurses := true, apart := false, narrowed := true }
def FnExactCommonSidesUptoSaid : Prop := fnExactCommonSidesUptoRow.holds Try.pinned (OpenSpec.upto fnExactCommonSidesSpec)

/-- 'laws.FnExactMergeAreas', WHERE WHAT IT READS IS OF BULK AT MOST 1048576: true; the input reads as it did. -/
def fnExactMergeAreasUptoRow : OpenClaim := { program := "ytlcpbhcgncljiaa", sum := "fbf99c49a0b5b4b38ffcc0d8df429a8a6be02aa4da5c089348b96420c0002bd6", func := "loop.example/g00889/laws.FnExactMergeAreas", spec := "fnExactMergeAreas", unfollowed := true, recurses := true, apart := false, narrowed := true }
def FnExactMergeAreasUptoSaid : Prop := fnExactMergeAreasUptoRow.holds Try.pinned (OpenSpec.upto fnExactMergeAreasSpec)

/-- 'laws.FnExactNeighborsOf', WHERE WHAT IT READS IS OF BULK AT MOST 1048576: true; the input reads as it did. -/
def fnExactNeighborsOfUptoRow : OpenClaim := { program := "ytlcpbhcgncljiaa", sum := "fbf99c49a0b5b4b38ffcc0d8df429a8a6be02aa4da5c089348b96420c0002bd6", func := "loop.example/g00889/laws.FnExactNeighborsOf", spec := "fnExactNeighborsOf", unfollowed := true, recurses := true, apart := false, narrowed := true }
def FnExactNeighborsOfUptoSaid : Prop := fnExactNeighborsOfUptoRow.holds Try.pinned (OpenSpec.upto fnExactNeighborsOfSpec)

/-- 'laws.FnExactAreaCoverage', WHERE WHAT IT READS IS OF BULK AT MOST 1048576: true; the input reads as it did. -/
def fnExactAreaCoverageUptoRow : OpenClaim := { program := "ytlcpbhcgncljiaa", sum := "fbf99c49a0b5b4b38ffcc0d8df429a8a6be02aa4da5c089348b96420c0002bd6", func := "loop.example/g00889/laws.FnExactAreaCoverage", spec := "fnExactAreaCoverage", unfollowed := true, recurses := true, apart := false, narrowed := true }
def FnExactAreaCoverageUptoSaid : Prop := fnExactAreaCoverageUptoRow.holds Try.pinned (OpenSpec.upto fnExactAreaCoverageSpec)

/-- 'laws.FnExactAreaMaximum', WHERE WHAT IT READS IS OF BULK AT MOST 1048576: true; the input reads as it did. -/
def fnExactAreaMaximumUptoRow : OpenClaim := { program := "ytlcpbhcgncljiaa", sum := "fbf99c49a0b5b4b38ffcc0d8df429a8a6be02aa4da5c089348b96420c0002bd6", func := "loop.example/g00889/laws.FnExactAreaMaximum", spec := "fnExactAreaMaximum", unfollowed := true, recurses := true, apart := false, narrowed := true }
def FnExactAreaMaximumUptoSaid : Prop := fnExactAreaMaximumUptoRow.holds Try.pinned (OpenSpec.upto fnExactAreaMaximumSpec)

end Rows
end Go.Proofs.Ytlcpbhcgncljiaa
