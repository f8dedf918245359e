/-
  No cell of these rows narrows 'for every input' (looked for: loops, veiled, ifaces, maps, wideKeys, modest, calm, conditions, laid).
  DERIVED. THE GIVEN ROWS OF THIS SEAT. 4 by the template 'for every input the law returns true; each argument reads behind the call as it read before'; 0 by the template 'total and deterministic' (their statements: YtklepiechbnenaaTotals.lean).
  GIVEN WITH THE SEED: the statements are not yours to turn. If you find one false, say at which input.
  Laid BY PROGRAM, IN A SANDBOX (cutbox-rows.mjs): the forced cells as the released guide's own fill.sh prints them over the translation 008ea4eb78c79efd… (all of the seat's roots in one cut). By AI agents, Wed Nov 11 2026. No macro, syntax, notation, axiom, sorry.
-/
import Derived.Test.YtklepiechbnenaaChecked
import GoSem.Claim
import GoSem.ClaimJoined
import GoSem.ClaimMapViews
import Derived.JoinedTies
import Derived.KernelRfl
namespace Go.Proofs.Ytklepiechbnenaa
/- THE CELL 'sum', in the pinned program and in every row, IS THE sha256 OF THE DUMP (.gsa) THAT YtklepiechbnenaaProg.lean LOADS. Nothing in Lean hashes anything: it is a label: what it is worth is what the hold of that sum in a sandbox is worth. -/
noncomputable def Try.pinned : Pinned := { name := "ytklepiechbnenaa", sum := "008ea4eb78c79efddba0156332b18857f9208c69a0f818fa6c9ac658f06ca433", checked := Try.checked }
namespace Rows
def none {H : Type} : Left H := { results := [], args := [] }

/-- 'laws.FnLevels': WHATEVER THE INPUT: true; the input reads as it did. -/
def fnLevelsSpec : ChangeSpec := { name := "fnLevels", fn := fun _ => fun
  | [d] => { results := [.lit (.bool true)], args := [d] }
  | _ => none }
def fnLevelsRow : OpenClaim := { program := "ytklepiechbnenaa", sum := "008ea4eb78c79efddba0156332b18857f9208c69a0f818fa6c9ac658f06ca433", func := "loop.example/g00889/laws.FnLevels", spec := "fnLevels", unfollowed := true, recurses := true, apart := false }
def FnLevelsSaid : Prop := fnLevelsRow.holds Try.pinned (OpenSpec.ofChange fnLevelsSpec)

/-- ITS FALSE NEIGHBOUR: 'it returns false'. Refute it at one input. -/
def fnLevelsWrong : ChangeSpec := { name := "fnLevels", fn := fun _ => fun
  | [d] => { results := [.lit (.bool false)], args := [d] }
  | _ => none }
def FnLevelsWrongFalsely : Prop := fnLevelsRow.holds Try.pinned (OpenSpec.ofChange fnLevelsWrong)

/-- 'laws.FnTimelines': WHATEVER THE INPUT: true; the input reads as it did. -/
def fnTimelinesSpec : ChangeSpec := { name := "fnTimelines", fn := fun _ => fun
  | [d] => { results := [.lit (.bool true)], args := [d] }
  | _ => none }
def fnTimelinesRow : OpenClaim := { program := "ytklepiechbnenaa", sum := "008ea4eb78c79efddba0156332b18857f9208c69a0f818fa6c9ac658f06ca433", func := "loop.example/g00889/laws.FnTimelines", spec := "fnTimelines", unfollowed := true, recurses := true, apart := false }
def FnTimelinesSaid : Prop := fnTimelinesRow.holds Try.pinned (OpenSpec.ofChange fnTimelinesSpec)

/-- ITS FALSE NEIGHBOUR: 'it returns false'. Refute it at one input. -/
def fnTimelinesWrong : ChangeSpec := { name := "fnTimelines", fn := fun _ => fun
  | [d] => { results := [.lit (.bool false)], args := [d] }
  | _ => none }
def FnTimelinesWrongFalsely : Prop := fnTimelinesRow.holds Try.pinned (OpenSpec.ofChange fnTimelinesWrong)

/-- 'laws.FnIssuing': WHATEVER THE INPUT: true; the input reads as it did. -/
def fnIssuingSpec : ChangeSpec := { name := "fnIssuing", fn := fun _ => fun
  | [d] => { results := [.lit (.bool true)], args := [d] }
  | _ => none }
def fnIssuingRow : OpenClaim := { program := "ytklepiechbnenaa", sum := "008ea4eb78c79efddba0156332b18857f9208c69a0f818fa6c9ac658f06ca433", func := "loop.example/g00889/laws.FnIssuing", spec := "fnIssuing", unfollowed := true, recurses := true, apart := false }
def FnIssuingSaid : Prop := fnIssuingRow.holds Try.pinned (OpenSpec.ofChange fnIssuingSpec)

/-- ITS FALSE NEIGHBOUR: 'it returns false'. Refute it at one input. -/
def fnIssuingWrong : ChangeSpec := { name := "fnIssuing", fn := fun _ => fun
  | [d] => { results := [.lit (.bool false)], args := [d] }
  | _ => none }
def FnIssuingWrongFalsely : Prop := fnIssuingRow.holds Try.pinned (OpenSpec.ofChange fnIssuingWrong)

/-- 'laws.FnJoining': WHATEVER THE INPUT: true; the input reads as it did. -/
def fnJoiningSpec : ChangeSpec := { name := "fnJoining", fn := fun _ => fun
  | [d] => { results := [.lit (.bool true)], args := [d] }
  | _ => none }
def fnJoiningRow : OpenClaim := { program := "ytklepiechbnenaa", sum := "008ea4eb78c79efddba0156332b18857f9208c69a0f818fa6c9ac658f06ca433", func := "loop.example/g00889/laws.FnJoining", spec := "fnJoining", unfollowed := true, recurses := true, apart := false }
def FnJoiningSaid : Prop := fnJoiningRow.holds Try.pinned (OpenSpec.ofChange fnJoiningSpec)

/-- ITS FALSE NEIGHBOUR: 'it returns false'. Refute it at one input. -/
def fnJoiningWrong : ChangeSpec := { name := "fnJoining", fn := fun _ => fun
  | [d] => { results := [.lit (.bool false)], args := [d] }
  | _ => none }
def FnJoiningWrongFalsely : Prop := fnJoiningRow.holds Try.pinned (OpenSpec.ofChange fnJoiningWrong)

/- THE SECOND FORM. 'bulk': how many values and letters a reading holds, each counted each time it is reached (what is shared counts as often as it is met; a slice's spare places count too). A statement '..UptoSaid' is the law's where the arguments, and the package variables that the reading takes, are together of bulk at most 1048576: NARROWER than '..Said'. Prove '..Said' where nothing that the law and all that it calls make is longer than what came in: it says more and counts as full. Else prove '..UptoSaid'. A law counts once. -/
mutual
def uptoBulk {H : Type} : DataW H → Nat
  | .lit (.string bytes) => bytes.length + 1
  | .lit _ => 1
  | .nil => 1
  | .ptr d => uptoBulk d + 1
  | .slice elems spare => uptoBulkAll elems + uptoBulkAll spare + 1
  | .agg parts => uptoBulkAll parts + 1
  | .iface _ d => uptoBulk d + 1
  | .map entries => uptoBulkEntries entries + 1
  | .held _ => 1
def uptoBulkAll {H : Type} : List (DataW H) → Nat
  | [] => 0
  | d :: r => uptoBulk d + uptoBulkAll r
def uptoBulkEntries {H : Type} : List (Lit × DataW H) → Nat
  | [] => 0
  | x :: r => uptoBulkEntry x + uptoBulkEntries r
def uptoBulkEntry {H : Type} : Lit × DataW H → Nat
  | (.string bytes, d) => bytes.length + uptoBulk d + 1
  | (_, d) => uptoBulk d + 1
 end
def uptoSmall : (H : Type) → List (DataW H) → Bool := fun _ ds => decide (uptoBulkAll ds ≤ 1048576)
def OpenSpec.upto (s : _root_.Go.ChangeSpec) : _root_.Go.OpenSpec := { _root_.Go.OpenSpec.ofChange s with cond := some uptoSmall }

/-- 'laws.FnLevels', WHERE WHAT IT READS IS OF BULK AT MOST 1048576: true; the input reads as it did. -/
def fnLevelsUptoRow : OpenClaim := { program := "ytklepiechbnenaa", sum := "008ea4eb78c79efddba0156332b18857f9208c69a0f818fa6c9ac658f06ca433", func := "loop.example/g00889/laws.FnLevels", spec := "fnLevels", unfollowed := true, recurses := true, apart := false, narrowed := true }
def FnLevelsUptoSaid : Prop := fnLevelsUptoRow.holds Try.pinned (OpenSpec.upto fnLevelsSpec)

/-- 'laws.FnTimelines', WHERE WHAT IT READS IS OF BULK AT MOST 1048576: true; the input reads as it did. -/
def fnTimelinesUptoRow : OpenClaim := { program := "ytklepiechbnenaa", sum := "008ea4eb78c79efddba0156332b18857f9208c69a0f818fa6c9ac658f06ca433", func := "loop.example/g00889/laws.FnTimelines", spec := "fnTimelines", unfollowed := true, recurses := true, apart := false, narrowed := true }
def FnTimelinesUptoSaid : Prop := fnTimelinesUptoRow.holds Try.pinned (OpenSpec.upto fnTimelinesSpec)

/-- 'laws.FnIssuing', WHERE WHAT IT READS IS OF BULK AT MOST 1048576: true; the input reads as it did. -/
def fnIssuingUptoRow : OpenClaim := { program := "ytklepiechbnenaa", sum := "008ea4eb78c79efddba0156332b18857f9208c69a0f818fa6c9ac658f06ca433", func := "loop.example/g00889/laws.FnIssuing", spec := "fnIssuing", unfollowed := true, recurses := true, apart := false, narrowed := true }
def FnIssuingUptoSaid : Prop := fnIssuingUptoRow.holds Try.pinned (OpenSpec.upto fnIssuingSpec)

/-- 'laws.FnJoining', WHERE WHAT IT READS IS OF BULK AT MOST 1048576: true; the input reads as it did. -/
def fnJoiningUptoRow : OpenClaim := { program := "ytklepiechbnenaa", sum := "008ea4eb78c79efddba0156332b18857f9208c69a0f818fa6c9ac658f06ca433", func := "loop.example/g00889/laws.FnJoining", spec := "fnJoining", unfollowed := true, recurses := true, apart := false, narrowed := true }
def FnJoiningUptoSaid : Prop := fnJoiningUptoRow.holds Try.pinned (OpenSpec.upto fnJoiningSpec)

end Rows
end Go.Proofs.Ytklepiechbnenaa
