/-
  DERIVED. GIVEN WITH THE SEED: THE CARDS: each row of YtjgkinpjjbgcpaaDoorRows.lean that lists a variable, with what it lists TIED to the program's text (the seventh form; the later family's looks); each row that meets fmt, with fmt's text TOLD by the authors' own Lean function (tested against real Go, not proved from fmt's source: count such statements apart). THE CARD IS WHAT COUNTS. Prove the row's statement (the work); the ties are given (YtjgkinpjjbgcpaaDoorTie.lean); close each card by the builder's one call (the guide's Derived/Test/ToyasCard.lean, 'card_holds'). Laid BY PROGRAM, IN A SANDBOX (cutbox-door.mjs). By AI agents, Wed Nov 11 2026. No macro, syntax, notation, axiom, sorry.
-/
import Derived.Test.YtjgkinpjjbgcpaaDoorRows
import GoSem.ClaimSeven
namespace Go.Proofs.YtjgkinpjjbgcpaaDoor
namespace Rows

/-- THE TIED CARD OF 'laws.FnShortTexts'. -/
def fnShortTextsCard : Claim7 := { stood := { row := fnShortTextsRow, standIns := [], harness := (true, "4c99589f689e66be51a1956a0860e8e1b304d6367e8d4522e0c5fd77b230288b"), looks := false }, kinds := [], alts := [], laidByText := true, laidKinds := [.data, .data, .data, .widerDeep, .widerDeep], laidTests := true, laidLooks := .later }
def FnShortTextsCardSaid : Prop := Claim7.holds Tryd.pinned (.plain (OpenSpec.ofChange fnShortTextsSpec)) fnShortTextsCard

/-- THE SECOND FORM's CARD OF 'laws.FnShortTexts'. -/
def fnShortTextsUptoCard : Claim7 := { stood := { row := fnShortTextsUptoRow, standIns := [], harness := (true, "4c99589f689e66be51a1956a0860e8e1b304d6367e8d4522e0c5fd77b230288b"), looks := false }, kinds := [], alts := [], laidByText := true, laidKinds := [.data, .data, .data, .widerDeep, .widerDeep], laidTests := true, laidLooks := .later }
def FnShortTextsUptoCardSaid : Prop := Claim7.holds Tryd.pinned (.plain (OpenSpec.upto fnShortTextsSpec)) fnShortTextsUptoCard
end Rows
end Go.Proofs.YtjgkinpjjbgcpaaDoor
