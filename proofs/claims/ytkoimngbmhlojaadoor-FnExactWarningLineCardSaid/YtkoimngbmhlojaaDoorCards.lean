/-
  DERIVED. GIVEN WITH THE SEED: THE CARDS: each row of YtkoimngbmhlojaaDoorRows.lean that lists a variable, with what it lists TIED to the program's text (the seventh form; the later family's looks); each row that meets fmt, with fmt's text TOLD by the authors' own Lean function (tested against real Go, not proved from fmt's source: count such statements apart). THE CARD IS WHAT COUNTS. Prove the row's statement (the work); the ties are given (YtkoimngbmhlojaaDoorTie.lean); close each card by the builder's one call (the guide's Derived/Test/ToyasCard.lean, 'card_holds'). Laid BY PROGRAM, IN A SANDBOX (cutbox-door.mjs). By AI agents, Wed Nov 11 2026. No macro, syntax, notation, axiom, sorry.
-/
import Derived.Test.YtkoimngbmhlojaaDoorRows
import GoSem.ClaimSeven
namespace Go.Proofs.YtkoimngbmhlojaaDoor
namespace Rows

/-- THE TIED CARD OF 'laws.FnExactWarningCode'. -/
def fnExactWarningCodeCard : Claim7 := { stood := { row := fnExactWarningCodeRow, standIns := [], harness := (true, "9d5fd5d18ed57798cf613ca5c47fcdcf84f4699db96dbec4b4448300f033f4cd"), looks := false }, kinds := [], alts := [], laidByText := true, laidKinds := [.data, .data, .data], laidTests := true, laidLooks := .later }
def FnExactWarningCodeCardSaid : Prop := Claim7.holds Tryd.pinned (.plain (OpenSpec.ofChange fnExactWarningCodeSpec)) fnExactWarningCodeCard

/-- THE TIED CARD OF 'laws.FnExactWarningLine'. -/
def fnExactWarningLineCard : Claim7 := { stood := { row := fnExactWarningLineRow, standIns := [], harness := (true, "9d5fd5d18ed57798cf613ca5c47fcdcf84f4699db96dbec4b4448300f033f4cd"), looks := false }, kinds := [], alts := [], laidByText := true, laidKinds := [.data, .data, .data, .data, .widerDeep, .widerDeep, .pinned, .pinned], laidTests := true, laidLooks := .later }
def FnExactWarningLineCardSaid : Prop := Claim7.holds Tryd.pinned (.plain (OpenSpec.ofChange fnExactWarningLineSpec)) fnExactWarningLineCard

/-- THE TIED CARD OF 'laws.FnExactFormatBulletin'. -/
def fnExactFormatBulletinCard : Claim7 := { stood := { row := fnExactFormatBulletinRow, standIns := [], harness := (true, "9d5fd5d18ed57798cf613ca5c47fcdcf84f4699db96dbec4b4448300f033f4cd"), looks := false }, kinds := [], alts := [], laidByText := true, laidKinds := [.data, .data, .data, .data, .widerDeep, .widerDeep, .pinned, .pinned], laidTests := true, laidLooks := .later }
def FnExactFormatBulletinCardSaid : Prop := Claim7.holds Tryd.pinned (.plain (OpenSpec.ofChange fnExactFormatBulletinSpec)) fnExactFormatBulletinCard

/-- THE SECOND FORM's CARD OF 'laws.FnExactWarningCode'. -/
def fnExactWarningCodeUptoCard : Claim7 := { stood := { row := fnExactWarningCodeUptoRow, standIns := [], harness := (true, "9d5fd5d18ed57798cf613ca5c47fcdcf84f4699db96dbec4b4448300f033f4cd"), looks := false }, kinds := [], alts := [], laidByText := true, laidKinds := [.data, .data, .data], laidTests := true, laidLooks := .later }
def FnExactWarningCodeUptoCardSaid : Prop := Claim7.holds Tryd.pinned (.plain (OpenSpec.upto fnExactWarningCodeSpec)) fnExactWarningCodeUptoCard

/-- THE SECOND FORM's CARD OF 'laws.FnExactWarningLine'. -/
def fnExactWarningLineUptoCard : Claim7 := { stood := { row := fnExactWarningLineUptoRow, standIns := [], harness := (true, "9d5fd5d18ed57798cf613ca5c47fcdcf84f4699db96dbec4b4448300f033f4cd"), looks := false }, kinds := [], alts := [], laidByText := true, laidKinds := [.data, .data, .data, .data, .widerDeep, .widerDeep, .pinned, .pinned], laidTests := true, laidLooks := .later }
def FnExactWarningLineUptoCardSaid : Prop := Claim7.holds Tryd.pinned (.plain (OpenSpec.upto fnExactWarningLineSpec)) fnExactWarningLineUptoCard

/-- THE SECOND FORM's CARD OF 'laws.FnExactFormatBulletin'. -/
def fnExactFormatBulletinUptoCard : Claim7 := { stood := { row := fnExactFormatBulletinUptoRow, standIns := [], harness := (true, "9d5fd5d18ed57798cf613ca5c47fcdcf84f4699db96dbec4b4448300f033f4cd"), looks := false }, kinds := [], alts := [], laidByText := true, laidKinds := [.data, .data, .data, .data, .widerDeep, .widerDeep, .pinned, .pinned], laidTests := true, laidLooks := .later }
def FnExactFormatBulletinUptoCardSaid : Prop := Claim7.holds Tryd.pinned (.plain (OpenSpec.upto fnExactFormatBulletinSpec)) fnExactFormatBulletinUptoCard
end Rows
end Go.Proofs.YtkoimngbmhlojaaDoor
