/-
  DERIVED. GIVEN WITH THE SEED: THE CARDS: each row of YtnibkkfjgmfpnaaDoorRows.lean that lists a variable, with what it lists TIED to the program's text (the seventh form; the later family's looks); each row that meets fmt, with fmt's text TOLD by the authors' own Lean function (tested against real Go, not proved from fmt's source: count such statements apart). THE CARD IS WHAT COUNTS. Prove the row's statement (the work); the ties are given (YtnibkkfjgmfpnaaDoorTie.lean); close each card by the builder's one call (the guide's Derived/Test/ToyasCard.lean, 'card_holds'). Laid BY PROGRAM, IN A SANDBOX (cutbox-door.mjs). By AI agents, Wed Nov 11 2026. No macro, syntax, notation, axiom, sorry.
-/
import Derived.Test.YtnibkkfjgmfpnaaDoorRows
import GoSem.ClaimSeven
namespace Go.Proofs.YtnibkkfjgmfpnaaDoor
namespace Rows

/-- THE TIED CARD OF 'laws.FnExactHeadlineOf'. -/
def fnExactHeadlineOfCard : Claim7 := { stood := { row := fnExactHeadlineOfRow, standIns := [], harness := (true, "b58ffa73e0d4efcf6d97d2e7349700dbdeecaa91cb603c97988d5c730a7554bb"), looks := false }, kinds := [], alts := [], laidByText := true, laidKinds := [.widerDeep, .widerDeep], laidTests := true, laidLooks := .later }
def FnExactHeadlineOfCardSaid : Prop := Claim7.holds Tryd.pinned (.plain (OpenSpec.ofChange fnExactHeadlineOfSpec)) fnExactHeadlineOfCard

/-- THE TIED CARD OF 'laws.FnExactOverviewText'. -/
def fnExactOverviewTextCard : Claim7 := { stood := { row := fnExactOverviewTextRow, standIns := [], harness := (true, "b58ffa73e0d4efcf6d97d2e7349700dbdeecaa91cb603c97988d5c730a7554bb"), looks := false }, kinds := [], alts := [], laidByText := true, laidKinds := [.data, .data, .data, .widerDeep, .widerDeep], laidTests := true, laidLooks := .later }
def FnExactOverviewTextCardSaid : Prop := Claim7.holds Tryd.pinned (.plain (OpenSpec.ofChange fnExactOverviewTextSpec)) fnExactOverviewTextCard

/-- THE TIED CARD OF 'laws.FnExactFormatBulletin'. -/
def fnExactFormatBulletinCard : Claim7 := { stood := { row := fnExactFormatBulletinRow, standIns := [], harness := (true, "b58ffa73e0d4efcf6d97d2e7349700dbdeecaa91cb603c97988d5c730a7554bb"), looks := false }, kinds := [], alts := [], laidByText := true, laidKinds := [.data, .data, .data, .data, .widerDeep, .widerDeep, .pinned, .pinned], laidTests := true, laidLooks := .later }
def FnExactFormatBulletinCardSaid : Prop := Claim7.holds Tryd.pinned (.plain (OpenSpec.ofChange fnExactFormatBulletinSpec)) fnExactFormatBulletinCard

/-- THE SECOND FORM's CARD OF 'laws.FnExactHeadlineOf'. -/
def fnExactHeadlineOfUptoCard : Claim7 := { stood := { row := fnExactHeadlineOfUptoRow, standIns := [], harness := (true, "b58ffa73e0d4efcf6d97d2e7349700dbdeecaa91cb603c97988d5c730a7554bb"), looks := false }, kinds := [], alts := [], laidByText := true, laidKinds := [.widerDeep, .widerDeep], laidTests := true, laidLooks := .later }
def FnExactHeadlineOfUptoCardSaid : Prop := Claim7.holds Tryd.pinned (.plain (OpenSpec.upto fnExactHeadlineOfSpec)) fnExactHeadlineOfUptoCard

/-- THE SECOND FORM's CARD OF 'laws.FnExactOverviewText'. -/
def fnExactOverviewTextUptoCard : Claim7 := { stood := { row := fnExactOverviewTextUptoRow, standIns := [], harness := (true, "b58ffa73e0d4efcf6d97d2e7349700dbdeecaa91cb603c97988d5c730a7554bb"), looks := false }, kinds := [], alts := [], laidByText := true, laidKinds := [.data, .data, .data, .widerDeep, .widerDeep], laidTests := true, laidLooks := .later }
def FnExactOverviewTextUptoCardSaid : Prop := Claim7.holds Tryd.pinned (.plain (OpenSpec.upto fnExactOverviewTextSpec)) fnExactOverviewTextUptoCard

/-- THE SECOND FORM's CARD OF 'laws.FnExactFormatBulletin'. -/
def fnExactFormatBulletinUptoCard : Claim7 := { stood := { row := fnExactFormatBulletinUptoRow, standIns := [], harness := (true, "b58ffa73e0d4efcf6d97d2e7349700dbdeecaa91cb603c97988d5c730a7554bb"), looks := false }, kinds := [], alts := [], laidByText := true, laidKinds := [.data, .data, .data, .data, .widerDeep, .widerDeep, .pinned, .pinned], laidTests := true, laidLooks := .later }
def FnExactFormatBulletinUptoCardSaid : Prop := Claim7.holds Tryd.pinned (.plain (OpenSpec.upto fnExactFormatBulletinSpec)) fnExactFormatBulletinUptoCard
end Rows
end Go.Proofs.YtnibkkfjgmfpnaaDoor
