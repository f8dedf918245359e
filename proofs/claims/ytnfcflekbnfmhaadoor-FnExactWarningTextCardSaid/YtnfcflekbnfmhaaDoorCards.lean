/-
  DERIVED. GIVEN WITH THE SEED: THE CARDS: each row of YtnfcflekbnfmhaaDoorRows.lean that lists a variable, with what it lists TIED to the program's text (the seventh form; the later family's looks); each row that meets fmt, with fmt's text TOLD by the authors' own Lean function (tested against real Go, not proved from fmt's source: count such statements apart). THE CARD IS WHAT COUNTS. Prove the row's statement (the work); the ties are given (YtnfcflekbnfmhaaDoorTie.lean); close each card by the builder's one call (the guide's Derived/Test/ToyasCard.lean, 'card_holds'). Laid BY PROGRAM, IN A SANDBOX (cutbox-door.mjs). By AI agents, Wed Nov 11 2026. No macro, syntax, notation, axiom, sorry.
-/
import Derived.Test.YtnfcflekbnfmhaaDoorRows
import GoSem.ClaimSeven
namespace Go.Proofs.YtnfcflekbnfmhaaDoor
namespace Rows

/-- THE TIED CARD OF 'laws.FnExactHeadlineOf'. -/
def fnExactHeadlineOfCard : Claim7 := { stood := { row := fnExactHeadlineOfRow, standIns := [], harness := (true, "b54165c409e250be21794c40d098ee4d5667e4c7b5171e7aad3490ca3c48af52"), looks := false }, kinds := [], alts := [], laidByText := true, laidKinds := [.widerDeep, .widerDeep], laidTests := true, laidLooks := .later }
def FnExactHeadlineOfCardSaid : Prop := Claim7.holds Tryd.pinned (.plain (OpenSpec.ofChange fnExactHeadlineOfSpec)) fnExactHeadlineOfCard

/-- THE TIED CARD OF 'laws.FnExactHourText'. -/
def fnExactHourTextCard : Claim7 := { stood := { row := fnExactHourTextRow, standIns := [], harness := (true, "b54165c409e250be21794c40d098ee4d5667e4c7b5171e7aad3490ca3c48af52"), looks := false }, kinds := [], alts := [], laidByText := true, laidKinds := [.data, .data, .data], laidTests := true, laidLooks := .later }
def FnExactHourTextCardSaid : Prop := Claim7.holds Tryd.pinned (.plain (OpenSpec.ofChange fnExactHourTextSpec)) fnExactHourTextCard

/-- THE TIED CARD OF 'laws.FnExactParseHour'. -/
def fnExactParseHourCard : Claim7 := { stood := { row := fnExactParseHourRow, standIns := [], harness := (true, "b54165c409e250be21794c40d098ee4d5667e4c7b5171e7aad3490ca3c48af52"), looks := false }, kinds := [], alts := [], laidByText := true, laidKinds := [.data, .data, .data], laidTests := true, laidLooks := .later }
def FnExactParseHourCardSaid : Prop := Claim7.holds Tryd.pinned (.plain (OpenSpec.ofChange fnExactParseHourSpec)) fnExactParseHourCard

/-- THE TIED CARD OF 'laws.FnExactWarningText'. -/
def fnExactWarningTextCard : Claim7 := { stood := { row := fnExactWarningTextRow, standIns := [], harness := (true, "b54165c409e250be21794c40d098ee4d5667e4c7b5171e7aad3490ca3c48af52"), looks := false }, kinds := [], alts := [], laidByText := true, laidKinds := [.data, .data, .data, .widerDeep, .widerDeep], laidTests := true, laidLooks := .later }
def FnExactWarningTextCardSaid : Prop := Claim7.holds Tryd.pinned (.plain (OpenSpec.ofChange fnExactWarningTextSpec)) fnExactWarningTextCard

/-- THE TIED CARD OF 'laws.FnExactShortWarning'. -/
def fnExactShortWarningCard : Claim7 := { stood := { row := fnExactShortWarningRow, standIns := [], harness := (true, "b54165c409e250be21794c40d098ee4d5667e4c7b5171e7aad3490ca3c48af52"), looks := false }, kinds := [], alts := [], laidByText := true, laidKinds := [.data, .data, .data, .widerDeep], laidTests := true, laidLooks := .later }
def FnExactShortWarningCardSaid : Prop := Claim7.holds Tryd.pinned (.plain (OpenSpec.ofChange fnExactShortWarningSpec)) fnExactShortWarningCard

/-- THE TIED CARD OF 'laws.FnExactDurationText'. -/
def fnExactDurationTextCard : Claim7 := { stood := { row := fnExactDurationTextRow, standIns := [], harness := (true, "b54165c409e250be21794c40d098ee4d5667e4c7b5171e7aad3490ca3c48af52"), looks := false }, kinds := [], alts := [], laidByText := true, laidKinds := [.data, .data, .data], laidTests := true, laidLooks := .later }
def FnExactDurationTextCardSaid : Prop := Claim7.holds Tryd.pinned (.plain (OpenSpec.ofChange fnExactDurationTextSpec)) fnExactDurationTextCard

/-- THE TIED CARD OF 'laws.FnExactOverviewText'. -/
def fnExactOverviewTextCard : Claim7 := { stood := { row := fnExactOverviewTextRow, standIns := [], harness := (true, "b54165c409e250be21794c40d098ee4d5667e4c7b5171e7aad3490ca3c48af52"), looks := false }, kinds := [], alts := [], laidByText := true, laidKinds := [.data, .data, .data, .widerDeep, .widerDeep], laidTests := true, laidLooks := .later }
def FnExactOverviewTextCardSaid : Prop := Claim7.holds Tryd.pinned (.plain (OpenSpec.ofChange fnExactOverviewTextSpec)) fnExactOverviewTextCard

/-- THE SECOND FORM's CARD OF 'laws.FnExactHeadlineOf'. -/
def fnExactHeadlineOfUptoCard : Claim7 := { stood := { row := fnExactHeadlineOfUptoRow, standIns := [], harness := (true, "b54165c409e250be21794c40d098ee4d5667e4c7b5171e7aad3490ca3c48af52"), looks := false }, kinds := [], alts := [], laidByText := true, laidKinds := [.widerDeep, .widerDeep], laidTests := true, laidLooks := .later }
def FnExactHeadlineOfUptoCardSaid : Prop := Claim7.holds Tryd.pinned (.plain (OpenSpec.upto fnExactHeadlineOfSpec)) fnExactHeadlineOfUptoCard

/-- THE SECOND FORM's CARD OF 'laws.FnExactHourText'. -/
def fnExactHourTextUptoCard : Claim7 := { stood := { row := fnExactHourTextUptoRow, standIns := [], harness := (true, "b54165c409e250be21794c40d098ee4d5667e4c7b5171e7aad3490ca3c48af52"), looks := false }, kinds := [], alts := [], laidByText := true, laidKinds := [.data, .data, .data], laidTests := true, laidLooks := .later }
def FnExactHourTextUptoCardSaid : Prop := Claim7.holds Tryd.pinned (.plain (OpenSpec.upto fnExactHourTextSpec)) fnExactHourTextUptoCard

/-- THE SECOND FORM's CARD OF 'laws.FnExactParseHour'. -/
def fnExactParseHourUptoCard : Claim7 := { stood := { row := fnExactParseHourUptoRow, standIns := [], harness := (true, "b54165c409e250be21794c40d098ee4d5667e4c7b5171e7aad3490ca3c48af52"), looks := false }, kinds := [], alts := [], laidByText := true, laidKinds := [.data, .data, .data], laidTests := true, laidLooks := .later }
def FnExactParseHourUptoCardSaid : Prop := Claim7.holds Tryd.pinned (.plain (OpenSpec.upto fnExactParseHourSpec)) fnExactParseHourUptoCard

/-- THE SECOND FORM's CARD OF 'laws.FnExactWarningText'. -/
def fnExactWarningTextUptoCard : Claim7 := { stood := { row := fnExactWarningTextUptoRow, standIns := [], harness := (true, "b54165c409e250be21794c40d098ee4d5667e4c7b5171e7aad3490ca3c48af52"), looks := false }, kinds := [], alts := [], laidByText := true, laidKinds := [.data, .data, .data, .widerDeep, .widerDeep], laidTests := true, laidLooks := .later }
def FnExactWarningTextUptoCardSaid : Prop := Claim7.holds Tryd.pinned (.plain (OpenSpec.upto fnExactWarningTextSpec)) fnExactWarningTextUptoCard

/-- THE SECOND FORM's CARD OF 'laws.FnExactShortWarning'. -/
def fnExactShortWarningUptoCard : Claim7 := { stood := { row := fnExactShortWarningUptoRow, standIns := [], harness := (true, "b54165c409e250be21794c40d098ee4d5667e4c7b5171e7aad3490ca3c48af52"), looks := false }, kinds := [], alts := [], laidByText := true, laidKinds := [.data, .data, .data, .widerDeep], laidTests := true, laidLooks := .later }
def FnExactShortWarningUptoCardSaid : Prop := Claim7.holds Tryd.pinned (.plain (OpenSpec.upto fnExactShortWarningSpec)) fnExactShortWarningUptoCard

/-- THE SECOND FORM's CARD OF 'laws.FnExactDurationText'. -/
def fnExactDurationTextUptoCard : Claim7 := { stood := { row := fnExactDurationTextUptoRow, standIns := [], harness := (true, "b54165c409e250be21794c40d098ee4d5667e4c7b5171e7aad3490ca3c48af52"), looks := false }, kinds := [], alts := [], laidByText := true, laidKinds := [.data, .data, .data], laidTests := true, laidLooks := .later }
def FnExactDurationTextUptoCardSaid : Prop := Claim7.holds Tryd.pinned (.plain (OpenSpec.upto fnExactDurationTextSpec)) fnExactDurationTextUptoCard

/-- THE SECOND FORM's CARD OF 'laws.FnExactOverviewText'. -/
def fnExactOverviewTextUptoCard : Claim7 := { stood := { row := fnExactOverviewTextUptoRow, standIns := [], harness := (true, "b54165c409e250be21794c40d098ee4d5667e4c7b5171e7aad3490ca3c48af52"), looks := false }, kinds := [], alts := [], laidByText := true, laidKinds := [.data, .data, .data, .widerDeep, .widerDeep], laidTests := true, laidLooks := .later }
def FnExactOverviewTextUptoCardSaid : Prop := Claim7.holds Tryd.pinned (.plain (OpenSpec.upto fnExactOverviewTextSpec)) fnExactOverviewTextUptoCard
end Rows
end Go.Proofs.YtnfcflekbnfmhaaDoor
