/-
  DERIVED. GIVEN WITH THE SEED: THE CARDS: each row of YtkhjbgpkkeioeaaGreatDoorRows.lean that lists a variable, with what it lists TIED to the program's text (the seventh form; the later family's looks); each row that meets fmt, with fmt's text TOLD by the authors' own Lean function (tested against real Go, not proved from fmt's source: count such statements apart). THE CARD IS WHAT COUNTS. Prove the row's statement (the work); the ties are given (YtkhjbgpkkeioeaaGreatDoorTie.lean); close each card by the builder's one call (the guide's Derived/Test/ToyasCard.lean, 'card_holds'). Laid BY PROGRAM, IN A SANDBOX (cutbox-door.mjs). By AI agents, Wed Nov 11 2026. No macro, syntax, notation, axiom, sorry.
-/
import Derived.Test.YtkhjbgpkkeioeaaGreatDoorRows
import GoSem.ClaimSeven
namespace Go.Proofs.YtkhjbgpkkeioeaaGreatDoor
namespace Rows

/-- THE TIED CARD OF 'berthmasterlaw05.JournalNames'. -/
def journalNamesCard : Claim7 := { stood := { row := journalNamesRow, standIns := [], harness := (true, "6bb55e015e9be39f2c8831f1ee359d866d1e94e7d809f72236c376bd34042661"), looks := true }, kinds := [], alts := [], laidByText := true, laidKinds := [.data, .data, .data, .sentinel, .sentinel], laidTests := true, laidLooks := .later }
def JournalNamesCardSaid : Prop := Claim7.holds Tryz.pinned (.plain (OpenSpec.ofChange journalNamesSpec)) journalNamesCard

/-- THE SECOND FORM's CARD OF 'berthmasterlaw05.JournalNames'. -/
def journalNamesUptoCard : Claim7 := { stood := { row := journalNamesUptoRow, standIns := [], harness := (true, "6bb55e015e9be39f2c8831f1ee359d866d1e94e7d809f72236c376bd34042661"), looks := true }, kinds := [], alts := [], laidByText := true, laidKinds := [.data, .data, .data, .sentinel, .sentinel], laidTests := true, laidLooks := .later }
def JournalNamesUptoCardSaid : Prop := Claim7.holds Tryz.pinned (.plain (OpenSpec.upto journalNamesSpec)) journalNamesUptoCard
end Rows
end Go.Proofs.YtkhjbgpkkeioeaaGreatDoor
