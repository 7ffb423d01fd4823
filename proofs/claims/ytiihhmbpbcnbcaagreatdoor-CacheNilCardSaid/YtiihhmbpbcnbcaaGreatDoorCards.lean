/-
  DERIVED. GIVEN WITH THE SEED: THE CARDS: each row of YtiihhmbpbcnbcaaGreatDoorRows.lean that lists a variable, with what it lists TIED to the program's text (the seventh form; the later family's looks); each row that meets fmt, with fmt's text TOLD by the authors' own Lean function (tested against real Go, not proved from fmt's source: count such statements apart). THE CARD IS WHAT COUNTS. Prove the row's statement (the work); the ties are given (YtiihhmbpbcnbcaaGreatDoorTie.lean); close each card by the builder's one call (the guide's Derived/Test/ToyasCard.lean, 'card_holds'). Laid BY PROGRAM, IN A SANDBOX (cutbox-door.mjs). By AI agents, Wed Nov 11 2026. No macro, syntax, notation, axiom, sorry.
-/
import Derived.Test.YtiihhmbpbcnbcaaGreatDoorRows
import GoSem.ClaimSeven
namespace Go.Proofs.YtiihhmbpbcnbcaaGreatDoor
namespace Rows

/-- THE TIED CARD OF 'berthmasterlaw19.CacheNil'. -/
def cacheNilCard : Claim7 := { stood := { row := cacheNilRow, standIns := [], harness := (true, "e1ccf0f3ce9633f1d5258ef520d1cd3877c99f1d91614e9d567d50b76b31b307"), looks := true }, kinds := [], alts := [], laidByText := true, laidKinds := [.data, .data, .data, .sentinel, .sentinel], laidTests := true, laidLooks := .later }
def CacheNilCardSaid : Prop := Claim7.holds Tryz.pinned (.plain (OpenSpec.ofChange cacheNilSpec)) cacheNilCard

/-- THE TIED CARD OF 'berthmasterlaw22.BudgetNames'. -/
def budgetNamesCard : Claim7 := { stood := { row := budgetNamesRow, standIns := [], harness := (true, "e1ccf0f3ce9633f1d5258ef520d1cd3877c99f1d91614e9d567d50b76b31b307"), looks := true }, kinds := [], alts := [], laidByText := true, laidKinds := [.data, .data, .data, .sentinel, .sentinel], laidTests := true, laidLooks := .later }
def BudgetNamesCardSaid : Prop := Claim7.holds Tryz.pinned (.plain (OpenSpec.ofChange budgetNamesSpec)) budgetNamesCard

/-- THE TIED CARD OF 'berthmasterlaw21.VictimNames'. -/
def victimNamesCard : Claim7 := { stood := { row := victimNamesRow, standIns := [], harness := (true, "e1ccf0f3ce9633f1d5258ef520d1cd3877c99f1d91614e9d567d50b76b31b307"), looks := true }, kinds := [], alts := [], laidByText := true, laidKinds := [.data, .data, .data, .sentinel, .sentinel], laidTests := true, laidLooks := .later }
def VictimNamesCardSaid : Prop := Claim7.holds Tryz.pinned (.plain (OpenSpec.ofChange victimNamesSpec)) victimNamesCard

/-- THE TIED CARD OF 'berthmasterlaw23.RolloutNames'. -/
def rolloutNamesCard : Claim7 := { stood := { row := rolloutNamesRow, standIns := [], harness := (true, "e1ccf0f3ce9633f1d5258ef520d1cd3877c99f1d91614e9d567d50b76b31b307"), looks := true }, kinds := [], alts := [], laidByText := true, laidKinds := [.data, .data, .data, .sentinel, .sentinel], laidTests := true, laidLooks := .later }
def RolloutNamesCardSaid : Prop := Claim7.holds Tryz.pinned (.plain (OpenSpec.ofChange rolloutNamesSpec)) rolloutNamesCard

/-- THE TIED CARD OF 'berthmasterlaw16.StateNames'. -/
def stateNamesCard : Claim7 := { stood := { row := stateNamesRow, standIns := [], harness := (true, "e1ccf0f3ce9633f1d5258ef520d1cd3877c99f1d91614e9d567d50b76b31b307"), looks := true }, kinds := [], alts := [], laidByText := true, laidKinds := [.data, .data, .data, .data, .sentinel, .sentinel, .pinned], laidTests := true, laidLooks := .later }
def StateNamesCardSaid : Prop := Claim7.holds Tryz.pinned (.plain (OpenSpec.ofChange stateNamesSpec)) stateNamesCard

/-- THE SECOND FORM's CARD OF 'berthmasterlaw19.CacheNil'. -/
def cacheNilUptoCard : Claim7 := { stood := { row := cacheNilUptoRow, standIns := [], harness := (true, "e1ccf0f3ce9633f1d5258ef520d1cd3877c99f1d91614e9d567d50b76b31b307"), looks := true }, kinds := [], alts := [], laidByText := true, laidKinds := [.data, .data, .data, .sentinel, .sentinel], laidTests := true, laidLooks := .later }
def CacheNilUptoCardSaid : Prop := Claim7.holds Tryz.pinned (.plain (OpenSpec.upto cacheNilSpec)) cacheNilUptoCard

/-- THE SECOND FORM's CARD OF 'berthmasterlaw22.BudgetNames'. -/
def budgetNamesUptoCard : Claim7 := { stood := { row := budgetNamesUptoRow, standIns := [], harness := (true, "e1ccf0f3ce9633f1d5258ef520d1cd3877c99f1d91614e9d567d50b76b31b307"), looks := true }, kinds := [], alts := [], laidByText := true, laidKinds := [.data, .data, .data, .sentinel, .sentinel], laidTests := true, laidLooks := .later }
def BudgetNamesUptoCardSaid : Prop := Claim7.holds Tryz.pinned (.plain (OpenSpec.upto budgetNamesSpec)) budgetNamesUptoCard

/-- THE SECOND FORM's CARD OF 'berthmasterlaw21.VictimNames'. -/
def victimNamesUptoCard : Claim7 := { stood := { row := victimNamesUptoRow, standIns := [], harness := (true, "e1ccf0f3ce9633f1d5258ef520d1cd3877c99f1d91614e9d567d50b76b31b307"), looks := true }, kinds := [], alts := [], laidByText := true, laidKinds := [.data, .data, .data, .sentinel, .sentinel], laidTests := true, laidLooks := .later }
def VictimNamesUptoCardSaid : Prop := Claim7.holds Tryz.pinned (.plain (OpenSpec.upto victimNamesSpec)) victimNamesUptoCard

/-- THE SECOND FORM's CARD OF 'berthmasterlaw23.RolloutNames'. -/
def rolloutNamesUptoCard : Claim7 := { stood := { row := rolloutNamesUptoRow, standIns := [], harness := (true, "e1ccf0f3ce9633f1d5258ef520d1cd3877c99f1d91614e9d567d50b76b31b307"), looks := true }, kinds := [], alts := [], laidByText := true, laidKinds := [.data, .data, .data, .sentinel, .sentinel], laidTests := true, laidLooks := .later }
def RolloutNamesUptoCardSaid : Prop := Claim7.holds Tryz.pinned (.plain (OpenSpec.upto rolloutNamesSpec)) rolloutNamesUptoCard

/-- THE SECOND FORM's CARD OF 'berthmasterlaw16.StateNames'. -/
def stateNamesUptoCard : Claim7 := { stood := { row := stateNamesUptoRow, standIns := [], harness := (true, "e1ccf0f3ce9633f1d5258ef520d1cd3877c99f1d91614e9d567d50b76b31b307"), looks := true }, kinds := [], alts := [], laidByText := true, laidKinds := [.data, .data, .data, .data, .sentinel, .sentinel, .pinned], laidTests := true, laidLooks := .later }
def StateNamesUptoCardSaid : Prop := Claim7.holds Tryz.pinned (.plain (OpenSpec.upto stateNamesSpec)) stateNamesUptoCard
end Rows
end Go.Proofs.YtiihhmbpbcnbcaaGreatDoor
