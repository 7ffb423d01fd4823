/-
  DERIVED. GIVEN WITH THE SEED: THE CARDS: each row of YthiefohjkbdjeaaGreatDoorRows.lean that lists a variable, with what it lists TIED to the program's text (the seventh form; the later family's looks); each row that meets fmt, with fmt's text TOLD by the authors' own Lean function (tested against real Go, not proved from fmt's source: count such statements apart). THE CARD IS WHAT COUNTS. Prove the row's statement (the work); the ties are given (YthiefohjkbdjeaaGreatDoorTie.lean); close each card by the builder's one call (the guide's Derived/Test/ToyasCard.lean, 'card_holds'). Laid BY PROGRAM, IN A SANDBOX (cutbox-door.mjs). By AI agents, Wed Nov 11 2026. No macro, syntax, notation, axiom, sorry.
-/
import Derived.Test.YthiefohjkbdjeaaGreatDoorRows
import GoSem.ClaimSeven
namespace Go.Proofs.YthiefohjkbdjeaaGreatDoor
namespace Rows

/-- THE TIED CARD OF 'berthmasterlaw12.SpecLines'. -/
def specLinesCard : Claim7 := { stood := { row := specLinesRow, standIns := [], harness := (true, "78e69a8c99a7395abd35438051dc4914edac6ca4a818975f51057eb072be7d81"), looks := true }, kinds := [], alts := [], laidByText := true, laidKinds := [.data, .data, .data, .data, .sentinel, .sentinel, .pinned], laidTests := true, laidLooks := .later }
def SpecLinesCardSaid : Prop := Claim7.holds Tryz.pinned (.plain (OpenSpec.ofChange specLinesSpec)) specLinesCard

/-- THE TIED CARD OF 'berthmasterlaw18.ScoreBounds'. -/
def scoreBoundsCard : Claim7 := { stood := { row := scoreBoundsRow, standIns := [], harness := (true, "78e69a8c99a7395abd35438051dc4914edac6ca4a818975f51057eb072be7d81"), looks := true }, kinds := [], alts := [], laidByText := true, laidKinds := [.data, .data, .data, .sentinel, .sentinel], laidTests := true, laidLooks := .later }
def ScoreBoundsCardSaid : Prop := Claim7.holds Tryz.pinned (.plain (OpenSpec.ofChange scoreBoundsSpec)) scoreBoundsCard

/-- THE TIED CARD OF 'berthmasterlaw18.ScoreTurned'. -/
def scoreTurnedCard : Claim7 := { stood := { row := scoreTurnedRow, standIns := [], harness := (true, "78e69a8c99a7395abd35438051dc4914edac6ca4a818975f51057eb072be7d81"), looks := true }, kinds := [], alts := [], laidByText := true, laidKinds := [.data, .data, .data, .sentinel, .sentinel], laidTests := true, laidLooks := .later }
def ScoreTurnedCardSaid : Prop := Claim7.holds Tryz.pinned (.plain (OpenSpec.ofChange scoreTurnedSpec)) scoreTurnedCard

/-- THE SECOND FORM's CARD OF 'berthmasterlaw12.SpecLines'. -/
def specLinesUptoCard : Claim7 := { stood := { row := specLinesUptoRow, standIns := [], harness := (true, "78e69a8c99a7395abd35438051dc4914edac6ca4a818975f51057eb072be7d81"), looks := true }, kinds := [], alts := [], laidByText := true, laidKinds := [.data, .data, .data, .data, .sentinel, .sentinel, .pinned], laidTests := true, laidLooks := .later }
def SpecLinesUptoCardSaid : Prop := Claim7.holds Tryz.pinned (.plain (OpenSpec.upto specLinesSpec)) specLinesUptoCard

/-- THE SECOND FORM's CARD OF 'berthmasterlaw18.ScoreBounds'. -/
def scoreBoundsUptoCard : Claim7 := { stood := { row := scoreBoundsUptoRow, standIns := [], harness := (true, "78e69a8c99a7395abd35438051dc4914edac6ca4a818975f51057eb072be7d81"), looks := true }, kinds := [], alts := [], laidByText := true, laidKinds := [.data, .data, .data, .sentinel, .sentinel], laidTests := true, laidLooks := .later }
def ScoreBoundsUptoCardSaid : Prop := Claim7.holds Tryz.pinned (.plain (OpenSpec.upto scoreBoundsSpec)) scoreBoundsUptoCard

/-- THE SECOND FORM's CARD OF 'berthmasterlaw18.ScoreTurned'. -/
def scoreTurnedUptoCard : Claim7 := { stood := { row := scoreTurnedUptoRow, standIns := [], harness := (true, "78e69a8c99a7395abd35438051dc4914edac6ca4a818975f51057eb072be7d81"), looks := true }, kinds := [], alts := [], laidByText := true, laidKinds := [.data, .data, .data, .sentinel, .sentinel], laidTests := true, laidLooks := .later }
def ScoreTurnedUptoCardSaid : Prop := Claim7.holds Tryz.pinned (.plain (OpenSpec.upto scoreTurnedSpec)) scoreTurnedUptoCard
end Rows
end Go.Proofs.YthiefohjkbdjeaaGreatDoor
