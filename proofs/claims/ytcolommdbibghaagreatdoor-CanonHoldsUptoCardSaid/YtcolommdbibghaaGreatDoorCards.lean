/-
  DERIVED. GIVEN WITH THE SEED: THE CARDS: each row of YtcolommdbibghaaGreatDoorRows.lean that lists a variable, with what it lists TIED to the program's text (the seventh form; the later family's looks); each row that meets fmt, with fmt's text TOLD by the authors' own Lean function (tested against real Go, not proved from fmt's source: count such statements apart). THE CARD IS WHAT COUNTS. Prove the row's statement (the work); the ties are given (YtcolommdbibghaaGreatDoorTie.lean); close each card by the builder's one call (the guide's Derived/Test/ToyasCard.lean, 'card_holds'). Laid BY PROGRAM, IN A SANDBOX (cutbox-door.mjs). By AI agents, Wed Nov 11 2026. No macro, syntax, notation, axiom, sorry.
-/
import Derived.Test.YtcolommdbibghaaGreatDoorRows
import GoSem.ClaimSeven
namespace Go.Proofs.YtcolommdbibghaaGreatDoor
namespace Rows

/-- THE TIED CARD OF 'berthmasterlaw13.CanonReads'. -/
def canonReadsCard : Claim7 := { stood := { row := canonReadsRow, standIns := [], harness := (true, "45acd55cb8a1edb2c4659cc3ba7a959ecd0ee53c332aa0c8b80250993d06407a"), looks := true }, kinds := [], alts := [], laidByText := true, laidKinds := [.data, .data, .data, .sentinel, .sentinel], laidTests := true, laidLooks := .later }
def CanonReadsCardSaid : Prop := Claim7.holds Tryz.pinned (.plain (OpenSpec.ofChange canonReadsSpec)) canonReadsCard

/-- THE TIED CARD OF 'berthmasterlaw13.CanonHolds'. -/
def canonHoldsCard : Claim7 := { stood := { row := canonHoldsRow, standIns := [], harness := (true, "45acd55cb8a1edb2c4659cc3ba7a959ecd0ee53c332aa0c8b80250993d06407a"), looks := true }, kinds := [], alts := [], laidByText := true, laidKinds := [.data, .data, .data, .sentinel, .sentinel], laidTests := true, laidLooks := .later }
def CanonHoldsCardSaid : Prop := Claim7.holds Tryz.pinned (.plain (OpenSpec.ofChange canonHoldsSpec)) canonHoldsCard

/-- THE TIED CARD OF 'berthmasterlaw13.CanonCalls'. -/
def canonCallsCard : Claim7 := { stood := { row := canonCallsRow, standIns := [], harness := (true, "45acd55cb8a1edb2c4659cc3ba7a959ecd0ee53c332aa0c8b80250993d06407a"), looks := true }, kinds := [], alts := [], laidByText := true, laidKinds := [.data, .data, .data, .sentinel, .sentinel], laidTests := true, laidLooks := .later }
def CanonCallsCardSaid : Prop := Claim7.holds Tryz.pinned (.plain (OpenSpec.ofChange canonCallsSpec)) canonCallsCard

/-- THE SECOND FORM's CARD OF 'berthmasterlaw13.CanonReads'. -/
def canonReadsUptoCard : Claim7 := { stood := { row := canonReadsUptoRow, standIns := [], harness := (true, "45acd55cb8a1edb2c4659cc3ba7a959ecd0ee53c332aa0c8b80250993d06407a"), looks := true }, kinds := [], alts := [], laidByText := true, laidKinds := [.data, .data, .data, .sentinel, .sentinel], laidTests := true, laidLooks := .later }
def CanonReadsUptoCardSaid : Prop := Claim7.holds Tryz.pinned (.plain (OpenSpec.upto canonReadsSpec)) canonReadsUptoCard

/-- THE SECOND FORM's CARD OF 'berthmasterlaw13.CanonHolds'. -/
def canonHoldsUptoCard : Claim7 := { stood := { row := canonHoldsUptoRow, standIns := [], harness := (true, "45acd55cb8a1edb2c4659cc3ba7a959ecd0ee53c332aa0c8b80250993d06407a"), looks := true }, kinds := [], alts := [], laidByText := true, laidKinds := [.data, .data, .data, .sentinel, .sentinel], laidTests := true, laidLooks := .later }
def CanonHoldsUptoCardSaid : Prop := Claim7.holds Tryz.pinned (.plain (OpenSpec.upto canonHoldsSpec)) canonHoldsUptoCard

/-- THE SECOND FORM's CARD OF 'berthmasterlaw13.CanonCalls'. -/
def canonCallsUptoCard : Claim7 := { stood := { row := canonCallsUptoRow, standIns := [], harness := (true, "45acd55cb8a1edb2c4659cc3ba7a959ecd0ee53c332aa0c8b80250993d06407a"), looks := true }, kinds := [], alts := [], laidByText := true, laidKinds := [.data, .data, .data, .sentinel, .sentinel], laidTests := true, laidLooks := .later }
def CanonCallsUptoCardSaid : Prop := Claim7.holds Tryz.pinned (.plain (OpenSpec.upto canonCallsSpec)) canonCallsUptoCard
end Rows
end Go.Proofs.YtcolommdbibghaaGreatDoor
