/-
  DERIVED. GIVEN WITH THE SEED: THE CARDS: each row of YthafdpnboclkbaaGreatDoorRows.lean that lists a variable, with what it lists TIED to the program's text (the seventh form; the later family's looks); each row that meets fmt, with fmt's text TOLD by the authors' own Lean function (tested against real Go, not proved from fmt's source: count such statements apart). THE CARD IS WHAT COUNTS. Prove the row's statement (the work); the ties are given (YthafdpnboclkbaaGreatDoorTie.lean); close each card by the builder's one call (the guide's Derived/Test/ToyasCard.lean, 'card_holds'). Laid BY PROGRAM, IN A SANDBOX (cutbox-door.mjs). By AI agents, Wed Nov 11 2026. No macro, syntax, notation, axiom, sorry.
-/
import Derived.Test.YthafdpnboclkbaaGreatDoorRows
import GoSem.ClaimSeven
namespace Go.Proofs.YthafdpnboclkbaaGreatDoor
namespace Rows

/-- THE TIED CARD OF 'berthmasterlaw29.PollNames'. -/
def pollNamesCard : Claim7 := { stood := { row := pollNamesRow, standIns := [], harness := (true, "7f4738428b2e8a7409251129ea3b1c70803528c41667f3c461d176d414731df5"), looks := true }, kinds := [], alts := [], laidByText := true, laidKinds := [.data, .data, .data, .sentinel, .sentinel], laidTests := true, laidLooks := .later }
def PollNamesCardSaid : Prop := Claim7.holds Tryz.pinned (.plain (OpenSpec.ofChange pollNamesSpec)) pollNamesCard

/-- THE SECOND FORM's CARD OF 'berthmasterlaw29.PollNames'. -/
def pollNamesUptoCard : Claim7 := { stood := { row := pollNamesUptoRow, standIns := [], harness := (true, "7f4738428b2e8a7409251129ea3b1c70803528c41667f3c461d176d414731df5"), looks := true }, kinds := [], alts := [], laidByText := true, laidKinds := [.data, .data, .data, .sentinel, .sentinel], laidTests := true, laidLooks := .later }
def PollNamesUptoCardSaid : Prop := Claim7.holds Tryz.pinned (.plain (OpenSpec.upto pollNamesSpec)) pollNamesUptoCard
end Rows
end Go.Proofs.YthafdpnboclkbaaGreatDoor
