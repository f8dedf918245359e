/-
  No cell of these rows narrows 'for every input' (looked for: loops, veiled, ifaces, maps, wideKeys, modest, calm, conditions, laid).
  DERIVED. THE GIVEN ROWS OF THIS SEAT. 10 by the template 'for every input the law returns true; each argument reads behind the call as it read before'; 0 by the template 'total and deterministic' (their statements: YthmkgdlmegohoaaTotals.lean).
  GIVEN WITH THE SEED: the statements are not yours to turn. If you find one false, say at which input.
  Laid BY PROGRAM, IN A SANDBOX (cutbox-rows.mjs): the forced cells as the released guide's own fill.sh prints them over the translation 902333e1897184f2… (all of the seat's roots in one cut). By AI agents, Wed Nov 11 2026. No macro, syntax, notation, axiom, sorry.
-/
import Derived.Test.YthmkgdlmegohoaaChecked
import GoSem.Claim
import GoSem.ClaimJoined
import GoSem.ClaimMapViews
import Derived.JoinedTies
import Derived.KernelRfl
namespace Go.Proofs.Ythmkgdlmegohoaa
/- THE CELL 'sum', in the pinned program and in every row, IS THE sha256 OF THE DUMP (.gsa) THAT YthmkgdlmegohoaaProg.lean LOADS. Nothing in Lean hashes anything: it is a label: what it is worth is what the hold of that sum in a sandbox is worth. -/
noncomputable def Try.pinned : Pinned := { name := "ythmkgdlmegohoaa", sum := "902333e1897184f2c61921a4b97d9fc26f0964855e15f10a30fe0e6c08a7d7ba", checked := Try.checked }
namespace Rows
def none {H : Type} : Left H := { results := [], args := [] }

/-- 'laws.FnExactIssueWarning': WHATEVER THE INPUT: true; the input reads as it did. -/
def fnExactIssueWarningSpec : ChangeSpec := { name := "fnExactIssueWarning", fn := fun _ => fun
  | [d1, d2] => { results := [.lit (.bool true)], args := [d1, d2] }
  | _ => none }
def fnExactIssueWarningRow : OpenClaim := { program := "ythmkgdlmegohoaa", sum := "902333e1897184f2c61921a4b97d9fc26f0964855e15f10a30fe0e6c08a7d7ba", func := "loop.example/g00889/laws.FnExactIssueWarning", spec := "fnExactIssueWarning", unfollowed := true, recurses := true, apart := false }
def FnExactIssueWarningSaid : Prop := fnExactIssueWarningRow.holds Try.pinned (OpenSpec.ofChange fnExactIssueWarningSpec)

/-- ITS FALSE NEIGHBOUR: 'it returns false'. Refute it at one input. -/
def fnExactIssueWarningWrong : ChangeSpec := { name := "fnExactIssueWarning", fn := fun _ => fun
  | [d1, d2] => { results := [.lit (.bool false)], args := [d1, d2] }
  | _ => none }
def FnExactIssueWarningWrongFalsely : Prop := fnExactIssueWarningRow.holds Try.pinned (OpenSpec.ofChange fnExactIssueWarningWrong)

/-- 'laws.FnExactExtendWarning': WHATEVER THE INPUT: true; the input reads as it did. -/
def fnExactExtendWarningSpec : ChangeSpec := { name := "fnExactExtendWarning", fn := fun _ => fun
  | [d1, d2, d3] => { results := [.lit (.bool true)], args := [d1, d2, d3] }
  | _ => none }
def fnExactExtendWarningRow : OpenClaim := { program := "ythmkgdlmegohoaa", sum := "902333e1897184f2c61921a4b97d9fc26f0964855e15f10a30fe0e6c08a7d7ba", func := "loop.example/g00889/laws.FnExactExtendWarning", spec := "fnExactExtendWarning", unfollowed := true, recurses := true, apart := false }
def FnExactExtendWarningSaid : Prop := fnExactExtendWarningRow.holds Try.pinned (OpenSpec.ofChange fnExactExtendWarningSpec)

/-- ITS FALSE NEIGHBOUR: 'it returns false'. Refute it at one input. -/
def fnExactExtendWarningWrong : ChangeSpec := { name := "fnExactExtendWarning", fn := fun _ => fun
  | [d1, d2, d3] => { results := [.lit (.bool false)], args := [d1, d2, d3] }
  | _ => none }
def FnExactExtendWarningWrongFalsely : Prop := fnExactExtendWarningRow.holds Try.pinned (OpenSpec.ofChange fnExactExtendWarningWrong)

/-- 'laws.FnExactCancelWarning': WHATEVER THE INPUT: true; the input reads as it did. -/
def fnExactCancelWarningSpec : ChangeSpec := { name := "fnExactCancelWarning", fn := fun _ => fun
  | [d1, d2, d3] => { results := [.lit (.bool true)], args := [d1, d2, d3] }
  | _ => none }
def fnExactCancelWarningRow : OpenClaim := { program := "ythmkgdlmegohoaa", sum := "902333e1897184f2c61921a4b97d9fc26f0964855e15f10a30fe0e6c08a7d7ba", func := "loop.example/g00889/laws.FnExactCancelWarning", spec := "fnExactCancelWarning", unfollowed := true, recurses := true, apart := false }
def FnExactCancelWarningSaid : Prop := fnExactCancelWarningRow.holds Try.pinned (OpenSpec.ofChange fnExactCancelWarningSpec)

/-- ITS FALSE NEIGHBOUR: 'it returns false'. Refute it at one input. -/
def fnExactCancelWarningWrong : ChangeSpec := { name := "fnExactCancelWarning", fn := fun _ => fun
  | [d1, d2, d3] => { results := [.lit (.bool false)], args := [d1, d2, d3] }
  | _ => none }
def FnExactCancelWarningWrongFalsely : Prop := fnExactCancelWarningRow.holds Try.pinned (OpenSpec.ofChange fnExactCancelWarningWrong)

/-- 'laws.FnExactFromTimeline': WHATEVER THE INPUT: true; the input reads as it did. -/
def fnExactFromTimelineSpec : ChangeSpec := { name := "fnExactFromTimeline", fn := fun _ => fun
  | [d1, d2, d3] => { results := [.lit (.bool true)], args := [d1, d2, d3] }
  | _ => none }
def fnExactFromTimelineRow : OpenClaim := { program := "ythmkgdlmegohoaa", sum := "902333e1897184f2c61921a4b97d9fc26f0964855e15f10a30fe0e6c08a7d7ba", func := "loop.example/g00889/laws.FnExactFromTimeline", spec := "fnExactFromTimeline", unfollowed := true, recurses := true, apart := false }
def FnExactFromTimelineSaid : Prop := fnExactFromTimelineRow.holds Try.pinned (OpenSpec.ofChange fnExactFromTimelineSpec)

/-- ITS FALSE NEIGHBOUR: 'it returns false'. Refute it at one input. -/
def fnExactFromTimelineWrong : ChangeSpec := { name := "fnExactFromTimeline", fn := fun _ => fun
  | [d1, d2, d3] => { results := [.lit (.bool false)], args := [d1, d2, d3] }
  | _ => none }
def FnExactFromTimelineWrongFalsely : Prop := fnExactFromTimelineRow.holds Try.pinned (OpenSpec.ofChange fnExactFromTimelineWrong)

/-- 'laws.FnExactJoinWarnings': WHATEVER THE INPUT: true; the input reads as it did. -/
def fnExactJoinWarningsSpec : ChangeSpec := { name := "fnExactJoinWarnings", fn := fun _ => fun
  | [d] => { results := [.lit (.bool true)], args := [d] }
  | _ => none }
def fnExactJoinWarningsRow : OpenClaim := { program := "ythmkgdlmegohoaa", sum := "902333e1897184f2c61921a4b97d9fc26f0964855e15f10a30fe0e6c08a7d7ba", func := "loop.example/g00889/laws.FnExactJoinWarnings", spec := "fnExactJoinWarnings", unfollowed := true, recurses := true, apart := false }
def FnExactJoinWarningsSaid : Prop := fnExactJoinWarningsRow.holds Try.pinned (OpenSpec.ofChange fnExactJoinWarningsSpec)

/-- ITS FALSE NEIGHBOUR: 'it returns false'. Refute it at one input. -/
def fnExactJoinWarningsWrong : ChangeSpec := { name := "fnExactJoinWarnings", fn := fun _ => fun
  | [d] => { results := [.lit (.bool false)], args := [d] }
  | _ => none }
def FnExactJoinWarningsWrongFalsely : Prop := fnExactJoinWarningsRow.holds Try.pinned (OpenSpec.ofChange fnExactJoinWarningsWrong)

/-- 'laws.FnExactTopicTimeline': WHATEVER THE INPUT: true; the input reads as it did. -/
def fnExactTopicTimelineSpec : ChangeSpec := { name := "fnExactTopicTimeline", fn := fun _ => fun
  | [d1, d2, d3] => { results := [.lit (.bool true)], args := [d1, d2, d3] }
  | _ => none }
def fnExactTopicTimelineRow : OpenClaim := { program := "ythmkgdlmegohoaa", sum := "902333e1897184f2c61921a4b97d9fc26f0964855e15f10a30fe0e6c08a7d7ba", func := "loop.example/g00889/laws.FnExactTopicTimeline", spec := "fnExactTopicTimeline", unfollowed := true, recurses := true, apart := false }
def FnExactTopicTimelineSaid : Prop := fnExactTopicTimelineRow.holds Try.pinned (OpenSpec.ofChange fnExactTopicTimelineSpec)

/-- ITS FALSE NEIGHBOUR: 'it returns false'. Refute it at one input. -/
def fnExactTopicTimelineWrong : ChangeSpec := { name := "fnExactTopicTimeline", fn := fun _ => fun
  | [d1, d2, d3] => { results := [.lit (.bool false)], args := [d1, d2, d3] }
  | _ => none }
def FnExactTopicTimelineWrongFalsely : Prop := fnExactTopicTimelineRow.holds Try.pinned (OpenSpec.ofChange fnExactTopicTimelineWrong)

/-- 'laws.FnExactChangeLevel': WHATEVER THE INPUT: true; the input reads as it did. -/
def fnExactChangeLevelSpec : ChangeSpec := { name := "fnExactChangeLevel", fn := fun _ => fun
  | [d1, d2, d3, d4] => { results := [.lit (.bool true)], args := [d1, d2, d3, d4] }
  | _ => none }
def fnExactChangeLevelRow : OpenClaim := { program := "ythmkgdlmegohoaa", sum := "902333e1897184f2c61921a4b97d9fc26f0964855e15f10a30fe0e6c08a7d7ba", func := "loop.example/g00889/laws.FnExactChangeLevel", spec := "fnExactChangeLevel", unfollowed := true, recurses := true, apart := false }
def FnExactChangeLevelSaid : Prop := fnExactChangeLevelRow.holds Try.pinned (OpenSpec.ofChange fnExactChangeLevelSpec)

/-- ITS FALSE NEIGHBOUR: 'it returns false'. Refute it at one input. -/
def fnExactChangeLevelWrong : ChangeSpec := { name := "fnExactChangeLevel", fn := fun _ => fun
  | [d1, d2, d3, d4] => { results := [.lit (.bool false)], args := [d1, d2, d3, d4] }
  | _ => none }
def FnExactChangeLevelWrongFalsely : Prop := fnExactChangeLevelRow.holds Try.pinned (OpenSpec.ofChange fnExactChangeLevelWrong)

/-- 'laws.FnExactBulletinChanges': WHATEVER THE INPUT: true; the input reads as it did. -/
def fnExactBulletinChangesSpec : ChangeSpec := { name := "fnExactBulletinChanges", fn := fun _ => fun
  | [d1, d2] => { results := [.lit (.bool true)], args := [d1, d2] }
  | _ => none }
def fnExactBulletinChangesRow : OpenClaim := { program := "ythmkgdlmegohoaa", sum := "902333e1897184f2c61921a4b97d9fc26f0964855e15f10a30fe0e6c08a7d7ba", func := "loop.example/g00889/laws.FnExactBulletinChanges", spec := "fnExactBulletinChanges", unfollowed := true, recurses := true, apart := false }
def FnExactBulletinChangesSaid : Prop := fnExactBulletinChangesRow.holds Try.pinned (OpenSpec.ofChange fnExactBulletinChangesSpec)

/-- ITS FALSE NEIGHBOUR: 'it returns false'. Refute it at one input. -/
def fnExactBulletinChangesWrong : ChangeSpec := { name := "fnExactBulletinChanges", fn := fun _ => fun
  | [d1, d2] => { results := [.lit (.bool false)], args := [d1, d2] }
  | _ => none }
def FnExactBulletinChangesWrongFalsely : Prop := fnExactBulletinChangesRow.holds Try.pinned (OpenSpec.ofChange fnExactBulletinChangesWrong)

/-- 'laws.FnExactAreaTimeline': WHATEVER THE INPUT: true; the input reads as it did. -/
def fnExactAreaTimelineSpec : ChangeSpec := { name := "fnExactAreaTimeline", fn := fun _ => fun
  | [d1, d2] => { results := [.lit (.bool true)], args := [d1, d2] }
  | _ => none }
def fnExactAreaTimelineRow : OpenClaim := { program := "ythmkgdlmegohoaa", sum := "902333e1897184f2c61921a4b97d9fc26f0964855e15f10a30fe0e6c08a7d7ba", func := "loop.example/g00889/laws.FnExactAreaTimeline", spec := "fnExactAreaTimeline", unfollowed := true, recurses := true, apart := false }
def FnExactAreaTimelineSaid : Prop := fnExactAreaTimelineRow.holds Try.pinned (OpenSpec.ofChange fnExactAreaTimelineSpec)

/-- ITS FALSE NEIGHBOUR: 'it returns false'. Refute it at one input. -/
def fnExactAreaTimelineWrong : ChangeSpec := { name := "fnExactAreaTimeline", fn := fun _ => fun
  | [d1, d2] => { results := [.lit (.bool false)], args := [d1, d2] }
  | _ => none }
def FnExactAreaTimelineWrongFalsely : Prop := fnExactAreaTimelineRow.holds Try.pinned (OpenSpec.ofChange fnExactAreaTimelineWrong)

/-- 'laws.FnExactLatestWarnings': WHATEVER THE INPUT: true; the input reads as it did. -/
def fnExactLatestWarningsSpec : ChangeSpec := { name := "fnExactLatestWarnings", fn := fun _ => fun
  | [d] => { results := [.lit (.bool true)], args := [d] }
  | _ => none }
def fnExactLatestWarningsRow : OpenClaim := { program := "ythmkgdlmegohoaa", sum := "902333e1897184f2c61921a4b97d9fc26f0964855e15f10a30fe0e6c08a7d7ba", func := "loop.example/g00889/laws.FnExactLatestWarnings", spec := "fnExactLatestWarnings", unfollowed := true, recurses := true, apart := false }
def FnExactLatestWarningsSaid : Prop := fnExactLatestWarningsRow.holds Try.pinned (OpenSpec.ofChange fnExactLatestWarningsSpec)

/-- ITS FALSE NEIGHBOUR: 'it returns false'. Refute it at one input. -/
def fnExactLatestWarningsWrong : ChangeSpec := { name := "fnExactLatestWarnings", fn := fun _ => fun
  | [d] => { results := [.lit (.bool false)], args := [d] }
  | _ => none }
def FnExactLatestWarningsWrongFalsely : Prop := fnExactLatestWarningsRow.holds Try.pinned (OpenSpec.ofChange fnExactLatestWarningsWrong)

/- THE SECOND FORM. 'bulk': how many values and letters a reading holds, each counted each time it is reached (what is shared counts as often as it is met; a slice's spare places count too). A statement '..UptoSaid' is the law's where the arguments, and the package variables that the reading takes, are together of bulk at most 1048576: NARROWER than '..Said'. Prove '..Said' where nothing that the law and all that it calls make is longer than what came in: it says more and counts as full. Else prove '..UptoSaid'. A law counts once. -/
mutual
def uptoBulk {H : Type} : DataW H → Nat
  | .lit (.string bytes) => bytes.length + 1
  | .lit _ => 1
  | .nil => 1
  | .ptr d => uptoBulk d + 1
  | .slice elems spare => uptoBulkAll elems + uptoBulkAll spare + 1
  | .agg parts => uptoBulkAll parts + 1
  | .iface _ d => uptoBulk d + 1
  | .map entries => uptoBulkEntries entries + 1
  | .held _ => 1
def uptoBulkAll {H : Type} : List (DataW H) → Nat
  | [] => 0
  | d :: r => uptoBulk d + uptoBulkAll r
def uptoBulkEntries {H : Type} : List (Lit × DataW H) → Nat
  | [] => 0
  | x :: r => uptoBulkEntry x + uptoBulkEntries r
def uptoBulkEntry {H : Type} : Lit × DataW H → Nat
  | (.string bytes, d) => bytes.length + uptoBulk d + 1
  | (_, d) => uptoBulk d + 1
 end
def uptoSmall : (H : Type) → List (DataW H) → Bool := fun _ ds => decide (uptoBulkAll ds ≤ 1048576)
def OpenSpec.upto (s : _root_.Go.ChangeSpec) : _root_.Go.OpenSpec := { _root_.Go.OpenSpec.ofChange s with cond := some uptoSmall }

/-- 'laws.FnExactIssueWarning', WHERE WHAT IT READS IS OF BULK AT MOST 1048576: true; the input reads as it did. -/
def fnExactIssueWarningUptoRow : OpenClaim := { program := "ythmkgdlmegohoaa", sum := "902333e1897184f2c61921a4b97d9fc26f0964855e15f10a30fe0e6c08a7d7ba", func := "loop.example/g00889/laws.FnExactIssueWarning", spec := "fnExactIssueWarning", unfollowed := true, recurses := true, apart := false, narrowed := true }
def FnExactIssueWarningUptoSaid : Prop := fnExactIssueWarningUptoRow.holds Try.pinned (OpenSpec.upto fnExactIssueWarningSpec)

/-- 'laws.FnExactExtendWarning', WHERE WHAT IT READS IS OF BULK AT MOST 1048576: true; the input reads as it did. -/
def fnExactExtendWarningUptoRow : OpenClaim := { program := "ythmkgdlmegohoaa", sum := "902333e1897184f2c61921a4b97d9fc26f0964855e15f10a30fe0e6c08a7d7ba", func := "loop.example/g00889/laws.FnExactExtendWarning", spec := "fnExactExtendWarning", unfollowed := true, recurses := true, apart := false, narrowed := true }
def FnExactExtendWarningUptoSaid : Prop := fnExactExtendWarningUptoRow.holds Try.pinned (OpenSpec.upto fnExactExtendWarningSpec)

/-- 'laws.FnExactCancelWarning', WHERE WHAT IT READS IS OF BULK AT MOST 1048576: true; the input reads as it did. -/
def fnExactCancelWarningUptoRow : OpenClaim := { program := "ythmkgdlmegohoaa", sum := "902333e1897184f2c61921a4b97d9fc26f0964855e15f10a30fe0e6c08a7d7ba", func := "loop.example/g00889/laws.FnExactCancelWarning", spec := "fnExactCancelWarning", unfollowed := true, recurses := true, apart := false, narrowed := true }
def FnExactCancelWarningUptoSaid : Prop := fnExactCancelWarningUptoRow.holds Try.pinned (OpenSpec.upto fnExactCancelWarningSpec)

/-- 'laws.FnExactFromTimeline', WHERE WHAT IT READS IS OF BULK AT MOST 1048576: true; the input reads as it did. -/
def fnExactFromTimelineUptoRow : OpenClaim := { program := "ythmkgdlmegohoaa", sum := "902333e1897184f2c61921a4b97d9fc26f0964855e15f10a30fe0e6c08a7d7ba", func := "loop.example/g00889/laws.FnExactFromTimeline", spec := "fnExactFromTimeline", unfollowed := true, recurses := true, apart := false, narrowed := true }
def FnExactFromTimelineUptoSaid : Prop := fnExactFromTimelineUptoRow.holds Try.pinned (OpenSpec.upto fnExactFromTimelineSpec)

/-- 'laws.FnExactJoinWarnings', WHERE WHAT IT READS IS OF BULK AT MOST 1048576: true; the input reads as it did. -/
def fnExactJoinWarningsUptoRow : OpenClaim := { program := "ythmkgdlmegohoaa", sum := "902333e1897184f2c61921a4b97d9fc26f0964855e15f10a30fe0e6c08a7d7ba", func := "loop.example/g00889/laws.FnExactJoinWarnings", spec := "fnExactJoinWarnings", unfollowed := true, recurses := true, apart := false, narrowed := true }
def FnExactJoinWarningsUptoSaid : Prop := fnExactJoinWarningsUptoRow.holds Try.pinned (OpenSpec.upto fnExactJoinWarningsSpec)

/-- 'laws.FnExactTopicTimeline', WHERE WHAT IT READS IS OF BULK AT MOST 1048576: true; the input reads as it did. -/
def fnExactTopicTimelineUptoRow : OpenClaim := { program := "ythmkgdlmegohoaa", sum := "902333e1897184f2c61921a4b97d9fc26f0964855e15f10a30fe0e6c08a7d7ba", func := "loop.example/g00889/laws.FnExactTopicTimeline", spec := "fnExactTopicTimeline", unfollowed := true, recurses := true, apart := false, narrowed := true }
def FnExactTopicTimelineUptoSaid : Prop := fnExactTopicTimelineUptoRow.holds Try.pinned (OpenSpec.upto fnExactTopicTimelineSpec)

/-- 'laws.FnExactChangeLevel', WHERE WHAT IT READS IS OF BULK AT MOST 1048576: true; the input reads as it did. -/
def fnExactChangeLevelUptoRow : OpenClaim := { program := "ythmkgdlmegohoaa", sum := "902333e1897184f2c61921a4b97d9fc26f0964855e15f10a30fe0e6c08a7d7ba", func := "loop.example/g00889/laws.FnExactChangeLevel", spec := "fnExactChangeLevel", unfollowed := true, recurses := true, apart := false, narrowed := true }
def FnExactChangeLevelUptoSaid : Prop := fnExactChangeLevelUptoRow.holds Try.pinned (OpenSpec.upto fnExactChangeLevelSpec)

/-- 'laws.FnExactBulletinChanges', WHERE WHAT IT READS IS OF BULK AT MOST 1048576: true; the input reads as it did. -/
def fnExactBulletinChangesUptoRow : OpenClaim := { program := "ythmkgdlmegohoaa", sum := "902333e1897184f2c61921a4b97d9fc26f0964855e15f10a30fe0e6c08a7d7ba", func := "loop.example/g00889/laws.FnExactBulletinChanges", spec := "fnExactBulletinChanges", unfollowed := true, recurses := true, apart := false, narrowed := true }
def FnExactBulletinChangesUptoSaid : Prop := fnExactBulletinChangesUptoRow.holds Try.pinned (OpenSpec.upto fnExactBulletinChangesSpec)

/-- 'laws.FnExactAreaTimeline', WHERE WHAT IT READS IS OF BULK AT MOST 1048576: true; the input reads as it did. -/
def fnExactAreaTimelineUptoRow : OpenClaim := { program := "ythmkgdlmegohoaa", sum := "902333e1897184f2c61921a4b97d9fc26f0964855e15f10a30fe0e6c08a7d7ba", func := "loop.example/g00889/laws.FnExactAreaTimeline", spec := "fnExactAreaTimeline", unfollowed := true, recurses := true, apart := false, narrowed := true }
def FnExactAreaTimelineUptoSaid : Prop := fnExactAreaTimelineUptoRow.holds Try.pinned (OpenSpec.upto fnExactAreaTimelineSpec)

/-- 'laws.FnExactLatestWarnings', WHERE WHAT IT READS IS OF BULK AT MOST 1048576: true; the input reads as it did. -/
def fnExactLatestWarningsUptoRow : OpenClaim := { program := "ythmkgdlmegohoaa", sum := "902333e1897184f2c61921a4b97d9fc26f0964855e15f10a30fe0e6c08a7d7ba", func := "loop.example/g00889/laws.FnExactLatestWarnings", spec := "fnExactLatestWarnings", unfollowed := true, recurses := true, apart := false, narrowed := true }
def FnExactLatestWarningsUptoSaid : Prop := fnExactLatestWarningsUptoRow.holds Try.pinned (OpenSpec.upto fnExactLatestWarningsSpec)

end Rows
end Go.Proofs.Ythmkgdlmegohoaa
