/-
  No cell of these rows narrows 'for every input' (looked for: loops, veiled, ifaces, maps, wideKeys, modest, calm, conditions, laid).
  DERIVED. THE GIVEN ROWS OF THIS SEAT. 11 by the template 'for every input the law returns true; each argument reads behind the call as it read before'; 0 by the template 'total and deterministic' (their statements: YtfijknfdimcjhaaTotals.lean).
  GIVEN WITH THE SEED: the statements are not yours to turn. If you find one false, say at which input.
  Laid BY PROGRAM, IN A SANDBOX (cutbox-rows.mjs): the forced cells as the released guide's own fill.sh prints them over the translation 97e7c51615473b58… (all of the seat's roots in one cut). By AI agents, Wed Nov 11 2026. No macro, syntax, notation, axiom, sorry.
-/
import Derived.Test.YtfijknfdimcjhaaChecked
import GoSem.Claim
import GoSem.ClaimJoined
import GoSem.ClaimMapViews
import Derived.JoinedTies
import Derived.KernelRfl
namespace Go.Proofs.Ytfijknfdimcjhaa
/- THE CELL 'sum', in the pinned program and in every row, IS THE sha256 OF THE DUMP (.gsa) THAT YtfijknfdimcjhaaProg.lean LOADS. Nothing in Lean hashes anything: it is a label: what it is worth is what the hold of that sum in a sandbox is worth. -/
noncomputable def Try.pinned : Pinned := { name := "ytfijknfdimcjhaa", sum := "97e7c51615473b58f2ea60b64c562ccc830882512096d12c8b242ac0788535a3", checked := Try.checked }
namespace Rows
def none {H : Type} : Left H := { results := [], args := [] }

/-- 'laws.FnExactIsValidWarning': WHATEVER THE INPUT: true; the input reads as it did. -/
def fnExactIsValidWarningSpec : ChangeSpec := { name := "fnExactIsValidWarning", fn := fun _ => fun
  | [d] => { results := [.lit (.bool true)], args := [d] }
  | _ => none }
def fnExactIsValidWarningRow : OpenClaim := { program := "ytfijknfdimcjhaa", sum := "97e7c51615473b58f2ea60b64c562ccc830882512096d12c8b242ac0788535a3", func := "loop.example/g00889/laws.FnExactIsValidWarning", spec := "fnExactIsValidWarning", apart := false }
def FnExactIsValidWarningSaid : Prop := fnExactIsValidWarningRow.holds Try.pinned (OpenSpec.ofChange fnExactIsValidWarningSpec)

/-- ITS FALSE NEIGHBOUR: 'it returns false'. Refute it at one input. -/
def fnExactIsValidWarningWrong : ChangeSpec := { name := "fnExactIsValidWarning", fn := fun _ => fun
  | [d] => { results := [.lit (.bool false)], args := [d] }
  | _ => none }
def FnExactIsValidWarningWrongFalsely : Prop := fnExactIsValidWarningRow.holds Try.pinned (OpenSpec.ofChange fnExactIsValidWarningWrong)

/-- 'laws.FnExactIsConsistent': WHATEVER THE INPUT: true; the input reads as it did. -/
def fnExactIsConsistentSpec : ChangeSpec := { name := "fnExactIsConsistent", fn := fun _ => fun
  | [d] => { results := [.lit (.bool true)], args := [d] }
  | _ => none }
def fnExactIsConsistentRow : OpenClaim := { program := "ytfijknfdimcjhaa", sum := "97e7c51615473b58f2ea60b64c562ccc830882512096d12c8b242ac0788535a3", func := "loop.example/g00889/laws.FnExactIsConsistent", spec := "fnExactIsConsistent", unfollowed := true, recurses := true, apart := false }
def FnExactIsConsistentSaid : Prop := fnExactIsConsistentRow.holds Try.pinned (OpenSpec.ofChange fnExactIsConsistentSpec)

/-- ITS FALSE NEIGHBOUR: 'it returns false'. Refute it at one input. -/
def fnExactIsConsistentWrong : ChangeSpec := { name := "fnExactIsConsistent", fn := fun _ => fun
  | [d] => { results := [.lit (.bool false)], args := [d] }
  | _ => none }
def FnExactIsConsistentWrongFalsely : Prop := fnExactIsConsistentRow.holds Try.pinned (OpenSpec.ofChange fnExactIsConsistentWrong)

/-- 'laws.FnExactIsValidBulletin': WHATEVER THE INPUT: true; the input reads as it did. -/
def fnExactIsValidBulletinSpec : ChangeSpec := { name := "fnExactIsValidBulletin", fn := fun _ => fun
  | [d] => { results := [.lit (.bool true)], args := [d] }
  | _ => none }
def fnExactIsValidBulletinRow : OpenClaim := { program := "ytfijknfdimcjhaa", sum := "97e7c51615473b58f2ea60b64c562ccc830882512096d12c8b242ac0788535a3", func := "loop.example/g00889/laws.FnExactIsValidBulletin", spec := "fnExactIsValidBulletin", unfollowed := true, recurses := true, apart := false }
def FnExactIsValidBulletinSaid : Prop := fnExactIsValidBulletinRow.holds Try.pinned (OpenSpec.ofChange fnExactIsValidBulletinSpec)

/-- ITS FALSE NEIGHBOUR: 'it returns false'. Refute it at one input. -/
def fnExactIsValidBulletinWrong : ChangeSpec := { name := "fnExactIsValidBulletin", fn := fun _ => fun
  | [d] => { results := [.lit (.bool false)], args := [d] }
  | _ => none }
def FnExactIsValidBulletinWrongFalsely : Prop := fnExactIsValidBulletinRow.holds Try.pinned (OpenSpec.ofChange fnExactIsValidBulletinWrong)

/-- 'laws.FnExactTopicLevel': WHATEVER THE INPUT: true; the input reads as it did. -/
def fnExactTopicLevelSpec : ChangeSpec := { name := "fnExactTopicLevel", fn := fun _ => fun
  | [d1, d2, d3, d4] => { results := [.lit (.bool true)], args := [d1, d2, d3, d4] }
  | _ => none }
def fnExactTopicLevelRow : OpenClaim := { program := "ytfijknfdimcjhaa", sum := "97e7c51615473b58f2ea60b64c562ccc830882512096d12c8b242ac0788535a3", func := "loop.example/g00889/laws.FnExactTopicLevel", spec := "fnExactTopicLevel", unfollowed := true, recurses := true, apart := false }
def FnExactTopicLevelSaid : Prop := fnExactTopicLevelRow.holds Try.pinned (OpenSpec.ofChange fnExactTopicLevelSpec)

/-- ITS FALSE NEIGHBOUR: 'it returns false'. Refute it at one input. -/
def fnExactTopicLevelWrong : ChangeSpec := { name := "fnExactTopicLevel", fn := fun _ => fun
  | [d1, d2, d3, d4] => { results := [.lit (.bool false)], args := [d1, d2, d3, d4] }
  | _ => none }
def FnExactTopicLevelWrongFalsely : Prop := fnExactTopicLevelRow.holds Try.pinned (OpenSpec.ofChange fnExactTopicLevelWrong)

/-- 'laws.FnExactWarningHours': WHATEVER THE INPUT: true; the input reads as it did. -/
def fnExactWarningHoursSpec : ChangeSpec := { name := "fnExactWarningHours", fn := fun _ => fun
  | [d1, d2] => { results := [.lit (.bool true)], args := [d1, d2] }
  | _ => none }
def fnExactWarningHoursRow : OpenClaim := { program := "ytfijknfdimcjhaa", sum := "97e7c51615473b58f2ea60b64c562ccc830882512096d12c8b242ac0788535a3", func := "loop.example/g00889/laws.FnExactWarningHours", spec := "fnExactWarningHours", unfollowed := true, recurses := true, apart := false }
def FnExactWarningHoursSaid : Prop := fnExactWarningHoursRow.holds Try.pinned (OpenSpec.ofChange fnExactWarningHoursSpec)

/-- ITS FALSE NEIGHBOUR: 'it returns false'. Refute it at one input. -/
def fnExactWarningHoursWrong : ChangeSpec := { name := "fnExactWarningHours", fn := fun _ => fun
  | [d1, d2] => { results := [.lit (.bool false)], args := [d1, d2] }
  | _ => none }
def FnExactWarningHoursWrongFalsely : Prop := fnExactWarningHoursRow.holds Try.pinned (OpenSpec.ofChange fnExactWarningHoursWrong)

/-- 'laws.FnExactSameStates': WHATEVER THE INPUT: true; the input reads as it did. -/
def fnExactSameStatesSpec : ChangeSpec := { name := "fnExactSameStates", fn := fun _ => fun
  | [d1, d2] => { results := [.lit (.bool true)], args := [d1, d2] }
  | _ => none }
def fnExactSameStatesRow : OpenClaim := { program := "ytfijknfdimcjhaa", sum := "97e7c51615473b58f2ea60b64c562ccc830882512096d12c8b242ac0788535a3", func := "loop.example/g00889/laws.FnExactSameStates", spec := "fnExactSameStates", unfollowed := true, recurses := true, apart := false }
def FnExactSameStatesSaid : Prop := fnExactSameStatesRow.holds Try.pinned (OpenSpec.ofChange fnExactSameStatesSpec)

/-- ITS FALSE NEIGHBOUR: 'it returns false'. Refute it at one input. -/
def fnExactSameStatesWrong : ChangeSpec := { name := "fnExactSameStates", fn := fun _ => fun
  | [d1, d2] => { results := [.lit (.bool false)], args := [d1, d2] }
  | _ => none }
def FnExactSameStatesWrongFalsely : Prop := fnExactSameStatesRow.holds Try.pinned (OpenSpec.ofChange fnExactSameStatesWrong)

/-- 'laws.FnExactAreaLevel': WHATEVER THE INPUT: true; the input reads as it did. -/
def fnExactAreaLevelSpec : ChangeSpec := { name := "fnExactAreaLevel", fn := fun _ => fun
  | [d1, d2, d3] => { results := [.lit (.bool true)], args := [d1, d2, d3] }
  | _ => none }
def fnExactAreaLevelRow : OpenClaim := { program := "ytfijknfdimcjhaa", sum := "97e7c51615473b58f2ea60b64c562ccc830882512096d12c8b242ac0788535a3", func := "loop.example/g00889/laws.FnExactAreaLevel", spec := "fnExactAreaLevel", unfollowed := true, recurses := true, apart := false }
def FnExactAreaLevelSaid : Prop := fnExactAreaLevelRow.holds Try.pinned (OpenSpec.ofChange fnExactAreaLevelSpec)

/-- ITS FALSE NEIGHBOUR: 'it returns false'. Refute it at one input. -/
def fnExactAreaLevelWrong : ChangeSpec := { name := "fnExactAreaLevel", fn := fun _ => fun
  | [d1, d2, d3] => { results := [.lit (.bool false)], args := [d1, d2, d3] }
  | _ => none }
def FnExactAreaLevelWrongFalsely : Prop := fnExactAreaLevelRow.holds Try.pinned (OpenSpec.ofChange fnExactAreaLevelWrong)

/-- 'laws.FnExactActiveAt': WHATEVER THE INPUT: true; the input reads as it did. -/
def fnExactActiveAtSpec : ChangeSpec := { name := "fnExactActiveAt", fn := fun _ => fun
  | [d1, d2] => { results := [.lit (.bool true)], args := [d1, d2] }
  | _ => none }
def fnExactActiveAtRow : OpenClaim := { program := "ytfijknfdimcjhaa", sum := "97e7c51615473b58f2ea60b64c562ccc830882512096d12c8b242ac0788535a3", func := "loop.example/g00889/laws.FnExactActiveAt", spec := "fnExactActiveAt", unfollowed := true, recurses := true, apart := false }
def FnExactActiveAtSaid : Prop := fnExactActiveAtRow.holds Try.pinned (OpenSpec.ofChange fnExactActiveAtSpec)

/-- ITS FALSE NEIGHBOUR: 'it returns false'. Refute it at one input. -/
def fnExactActiveAtWrong : ChangeSpec := { name := "fnExactActiveAt", fn := fun _ => fun
  | [d1, d2] => { results := [.lit (.bool false)], args := [d1, d2] }
  | _ => none }
def FnExactActiveAtWrongFalsely : Prop := fnExactActiveAtRow.holds Try.pinned (OpenSpec.ofChange fnExactActiveAtWrong)

/-- 'laws.FnExactMeetingWarnings': WHATEVER THE INPUT: true; the input reads as it did. -/
def fnExactMeetingWarningsSpec : ChangeSpec := { name := "fnExactMeetingWarnings", fn := fun _ => fun
  | [d1, d2] => { results := [.lit (.bool true)], args := [d1, d2] }
  | _ => none }
def fnExactMeetingWarningsRow : OpenClaim := { program := "ytfijknfdimcjhaa", sum := "97e7c51615473b58f2ea60b64c562ccc830882512096d12c8b242ac0788535a3", func := "loop.example/g00889/laws.FnExactMeetingWarnings", spec := "fnExactMeetingWarnings", unfollowed := true, recurses := true, apart := false }
def FnExactMeetingWarningsSaid : Prop := fnExactMeetingWarningsRow.holds Try.pinned (OpenSpec.ofChange fnExactMeetingWarningsSpec)

/-- ITS FALSE NEIGHBOUR: 'it returns false'. Refute it at one input. -/
def fnExactMeetingWarningsWrong : ChangeSpec := { name := "fnExactMeetingWarnings", fn := fun _ => fun
  | [d1, d2] => { results := [.lit (.bool false)], args := [d1, d2] }
  | _ => none }
def FnExactMeetingWarningsWrongFalsely : Prop := fnExactMeetingWarningsRow.holds Try.pinned (OpenSpec.ofChange fnExactMeetingWarningsWrong)

/-- 'laws.FnExactChangeHours': WHATEVER THE INPUT: true; the input reads as it did. -/
def fnExactChangeHoursSpec : ChangeSpec := { name := "fnExactChangeHours", fn := fun _ => fun
  | [d] => { results := [.lit (.bool true)], args := [d] }
  | _ => none }
def fnExactChangeHoursRow : OpenClaim := { program := "ytfijknfdimcjhaa", sum := "97e7c51615473b58f2ea60b64c562ccc830882512096d12c8b242ac0788535a3", func := "loop.example/g00889/laws.FnExactChangeHours", spec := "fnExactChangeHours", unfollowed := true, recurses := true, apart := false }
def FnExactChangeHoursSaid : Prop := fnExactChangeHoursRow.holds Try.pinned (OpenSpec.ofChange fnExactChangeHoursSpec)

/-- ITS FALSE NEIGHBOUR: 'it returns false'. Refute it at one input. -/
def fnExactChangeHoursWrong : ChangeSpec := { name := "fnExactChangeHours", fn := fun _ => fun
  | [d] => { results := [.lit (.bool false)], args := [d] }
  | _ => none }
def FnExactChangeHoursWrongFalsely : Prop := fnExactChangeHoursRow.holds Try.pinned (OpenSpec.ofChange fnExactChangeHoursWrong)

/-- 'laws.FnExactAreasAt': WHATEVER THE INPUT: true; the input reads as it did. -/
def fnExactAreasAtSpec : ChangeSpec := { name := "fnExactAreasAt", fn := fun _ => fun
  | [d1, d2, d3] => { results := [.lit (.bool true)], args := [d1, d2, d3] }
  | _ => none }
def fnExactAreasAtRow : OpenClaim := { program := "ytfijknfdimcjhaa", sum := "97e7c51615473b58f2ea60b64c562ccc830882512096d12c8b242ac0788535a3", func := "loop.example/g00889/laws.FnExactAreasAt", spec := "fnExactAreasAt", unfollowed := true, recurses := true, apart := false }
def FnExactAreasAtSaid : Prop := fnExactAreasAtRow.holds Try.pinned (OpenSpec.ofChange fnExactAreasAtSpec)

/-- ITS FALSE NEIGHBOUR: 'it returns false'. Refute it at one input. -/
def fnExactAreasAtWrong : ChangeSpec := { name := "fnExactAreasAt", fn := fun _ => fun
  | [d1, d2, d3] => { results := [.lit (.bool false)], args := [d1, d2, d3] }
  | _ => none }
def FnExactAreasAtWrongFalsely : Prop := fnExactAreasAtRow.holds Try.pinned (OpenSpec.ofChange fnExactAreasAtWrong)

/- THE SECOND FORM. 'bulk': how many values and letters a reading holds, each counted each time it is reached (what is shared counts as often as it is met; a slice's spare places count too). A statement '..UptoSaid' is the law's where the arguments, and the package variables that the reading takes, are together of bulk at most 1048576: NARROWER than '..Said'. Prove '..Said' where nothing that the law and all that it calls make is longer than what came in: it says more and counts as full. Else prove '..UptoSaid'. A law counts once. -/
mutual
def uptoBulk {H : Type} : DataW H → Nat
  | .lit (.string bytes) => bytes.length + 1
  | .lit _ => 1
  | .nil => 1
  | .ptr d => uptoBulk d + 1
  | .slice elems spare => uptoBulkAll elems + uptoBulkAll spare + 1
  | .agg parts => uptoBulkAll parts + 1
  | .iface _ d => uptoBulk d + 1
  | .map entries => uptoBulkEntries entries + 1
  | .held _ => 1
def uptoBulkAll {H : Type} : List (DataW H) → Nat
  | [] => 0
  | d :: r => uptoBulk d + uptoBulkAll r
def uptoBulkEntries {H : Type} : List (Lit × DataW H) → Nat
  | [] => 0
  | x :: r => uptoBulkEntry x + uptoBulkEntries r
def uptoBulkEntry {H : Type} : Lit × DataW H → Nat
  | (.string bytes, d) => bytes.length + uptoBulk d + 1
  | (_, d) => uptoBulk d + 1
 end
def uptoSmall : (H : Type) → List (DataW H) → Bool := fun _ ds => decide (uptoBulkAll ds ≤ 1048576)
def OpenSpec.upto (s : _root_.Go.ChangeSpec) : _root_.Go.OpenSpec := { _root_.Go.OpenSpec.ofChange s with cond := some uptoSmall }

/-- 'laws.FnExactIsValidWarning', WHERE WHAT IT READS IS OF BULK AT MOST 1048576: true; the input reads as it did. -/
def fnExactIsValidWarningUptoRow : OpenClaim := { program := "ytfijknfdimcjhaa", sum := "97e7c51615473b58f2ea60b64c562ccc830882512096d12c8b242ac0788535a3", func := "loop.example/g00889/laws.FnExactIsValidWarning", spec := "fnExactIsValidWarning", apart := false, narrowed := true }
def FnExactIsValidWarningUptoSaid : Prop := fnExactIsValidWarningUptoRow.holds Try.pinned (OpenSpec.upto fnExactIsValidWarningSpec)

/-- 'laws.FnExactIsConsistent', WHERE WHAT IT READS IS OF BULK AT MOST 1048576: true; the input reads as it did. -/
def fnExactIsConsistentUptoRow : OpenClaim := { program := "ytfijknfdimcjhaa", sum := "97e7c51615473b58f2ea60b64c562ccc830882512096d12c8b242ac0788535a3", func := "loop.example/g00889/laws.FnExactIsConsistent", spec := "fnExactIsConsistent", unfollowed := true, recurses := true, apart := false, narrowed := true }
def FnExactIsConsistentUptoSaid : Prop := fnExactIsConsistentUptoRow.holds Try.pinned (OpenSpec.upto fnExactIsConsistentSpec)

/-- 'laws.FnExactIsValidBulletin', WHERE WHAT IT READS IS OF BULK AT MOST 1048576: true; the input reads as it did. -/
def fnExactIsValidBulletinUptoRow : OpenClaim := { program := "ytfijknfdimcjhaa", sum := "97e7c51615473b58f2ea60b64c562ccc830882512096d12c8b242ac0788535a3", func := "loop.example/g00889/laws.FnExactIsValidBulletin", spec := "fnExactIsValidBulletin", unfollowed := true, recurses := true, apart := false, narrowed := true }
def FnExactIsValidBulletinUptoSaid : Prop := fnExactIsValidBulletinUptoRow.holds Try.pinned (OpenSpec.upto fnExactIsValidBulletinSpec)

/-- 'laws.FnExactTopicLevel', WHERE WHAT IT READS IS OF BULK AT MOST 1048576: true; the input reads as it did. -/
def fnExactTopicLevelUptoRow : OpenClaim := { program := "ytfijknfdimcjhaa", sum := "97e7c51615473b58f2ea60b64c562ccc830882512096d12c8b242ac0788535a3", func := "loop.example/g00889/laws.FnExactTopicLevel", spec := "fnExactTopicLevel", unfollowed := true, recurses := true, apart := false, narrowed := true }
def FnExactTopicLevelUptoSaid : Prop := fnExactTopicLevelUptoRow.holds Try.pinned (OpenSpec.upto fnExactTopicLevelSpec)

/-- 'laws.FnExactWarningHours', WHERE WHAT IT READS IS OF BULK AT MOST 1048576: true; the input reads as it did. -/
def fnExactWarningHoursUptoRow : OpenClaim := { program := "ytfijknfdimcjhaa", sum := "97e7c51615473b58f2ea60b64c562ccc830882512096d12c8b242ac0788535a3", func := "loop.example/g00889/laws.FnExactWarningHours", spec := "fnExactWarningHours", unfollowed := true, recurses := true, apart := false, narrowed := true }
def FnExactWarningHoursUptoSaid : Prop := fnExactWarningHoursUptoRow.holds Try.pinned (OpenSpec.upto fnExactWarningHoursSpec)

/-- 'laws.FnExactSameStates', WHERE WHAT IT READS IS OF BULK AT MOST 1048576: true; the input reads as it did. -/
def fnExactSameStatesUptoRow : OpenClaim := { program := "ytfijknfdimcjhaa", sum := "97e7c51615473b58f2ea60b64c562ccc830882512096d12c8b242ac0788535a3", func := "loop.example/g00889/laws.FnExactSameStates", spec := "fnExactSameStates", unfollowed := true, recurses := true, apart := false, narrowed := true }
def FnExactSameStatesUptoSaid : Prop := fnExactSameStatesUptoRow.holds Try.pinned (OpenSpec.upto fnExactSameStatesSpec)

/-- 'laws.FnExactAreaLevel', WHERE WHAT IT READS IS OF BULK AT MOST 1048576: true; the input reads as it did. -/
def fnExactAreaLevelUptoRow : OpenClaim := { program := "ytfijknfdimcjhaa", sum := "97e7c51615473b58f2ea60b64c562ccc830882512096d12c8b242ac0788535a3", func := "loop.example/g00889/laws.FnExactAreaLevel", spec := "fnExactAreaLevel", unfollowed := true, recurses := true, apart := false, narrowed := true }
def FnExactAreaLevelUptoSaid : Prop := fnExactAreaLevelUptoRow.holds Try.pinned (OpenSpec.upto fnExactAreaLevelSpec)

/-- 'laws.FnExactActiveAt', WHERE WHAT IT READS IS OF BULK AT MOST 1048576: true; the input reads as it did. -/
def fnExactActiveAtUptoRow : OpenClaim := { program := "ytfijknfdimcjhaa", sum := "97e7c51615473b58f2ea60b64c562ccc830882512096d12c8b242ac0788535a3", func := "loop.example/g00889/laws.FnExactActiveAt", spec := "fnExactActiveAt", unfollowed := true, recurses := true, apart := false, narrowed := true }
def FnExactActiveAtUptoSaid : Prop := fnExactActiveAtUptoRow.holds Try.pinned (OpenSpec.upto fnExactActiveAtSpec)

/-- 'laws.FnExactMeetingWarnings', WHERE WHAT IT READS IS OF BULK AT MOST 1048576: true; the input reads as it did. -/
def fnExactMeetingWarningsUptoRow : OpenClaim := { program := "ytfijknfdimcjhaa", sum := "97e7c51615473b58f2ea60b64c562ccc830882512096d12c8b242ac0788535a3", func := "loop.example/g00889/laws.FnExactMeetingWarnings", spec := "fnExactMeetingWarnings", unfollowed := true, recurses := true, apart := false, narrowed := true }
def FnExactMeetingWarningsUptoSaid : Prop := fnExactMeetingWarningsUptoRow.holds Try.pinned (OpenSpec.upto fnExactMeetingWarningsSpec)

/-- 'laws.FnExactChangeHours', WHERE WHAT IT READS IS OF BULK AT MOST 1048576: true; the input reads as it did. -/
def fnExactChangeHoursUptoRow : OpenClaim := { program := "ytfijknfdimcjhaa", sum := "97e7c51615473b58f2ea60b64c562ccc830882512096d12c8b242ac0788535a3", func := "loop.example/g00889/laws.FnExactChangeHours", spec := "fnExactChangeHours", unfollowed := true, recurses := true, apart := false, narrowed := true }
def FnExactChangeHoursUptoSaid : Prop := fnExactChangeHoursUptoRow.holds Try.pinned (OpenSpec.upto fnExactChangeHoursSpec)

/-- 'laws.FnExactAreasAt', WHERE WHAT IT READS IS OF BULK AT MOST 1048576: true; the input reads as it did. -/
def fnExactAreasAtUptoRow : OpenClaim := { program := "ytfijknfdimcjhaa", sum := "97e7c51615473b58f2ea60b64c562ccc830882512096d12c8b242ac0788535a3", func := "loop.example/g00889/laws.FnExactAreasAt", spec := "fnExactAreasAt", unfollowed := true, recurses := true, apart := false, narrowed := true }
def FnExactAreasAtUptoSaid : Prop := fnExactAreasAtUptoRow.holds Try.pinned (OpenSpec.upto fnExactAreasAtSpec)

end Rows
end Go.Proofs.Ytfijknfdimcjhaa
