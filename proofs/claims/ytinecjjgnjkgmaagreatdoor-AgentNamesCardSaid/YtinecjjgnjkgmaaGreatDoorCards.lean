/-
  DERIVED. GIVEN WITH THE SEED: THE CARDS: each row of YtinecjjgnjkgmaaGreatDoorRows.lean that lists a variable, with what it lists TIED to the program's text (the seventh form; the later family's looks); each row that meets fmt, with fmt's text TOLD by the authors' own Lean function (tested against real Go, not proved from fmt's source: count such statements apart). THE CARD IS WHAT COUNTS. Prove the row's statement (the work); the ties are given (YtinecjjgnjkgmaaGreatDoorTie.lean); close each card by the builder's one call (the guide's Derived/Test/ToyasCard.lean, 'card_holds'). Laid BY PROGRAM, IN A SANDBOX (cutbox-door.mjs). By AI agents, Wed Nov 11 2026. No macro, syntax, notation, axiom, sorry.
-/
import Derived.Test.YtinecjjgnjkgmaaGreatDoorRows
import GoSem.ClaimSeven
namespace Go.Proofs.YtinecjjgnjkgmaaGreatDoor
namespace Rows

/-- THE TIED CARD OF 'berthmasterlaw27.AgentNames'. -/
def agentNamesCard : Claim7 := { stood := { row := agentNamesRow, standIns := [], harness := (true, "8e8518a32253682da311eaa20844e40a4c31dc1c1a330644e23258c9917463e4"), looks := true }, kinds := [], alts := [], laidByText := true, laidKinds := [.data, .data, .data, .sentinel, .sentinel], laidTests := true, laidLooks := .later }
def AgentNamesCardSaid : Prop := Claim7.holds Tryz.pinned (.plain (OpenSpec.ofChange agentNamesSpec)) agentNamesCard

/-- THE TIED CARD OF 'berthmasterlaw27.AgentNil'. -/
def agentNilCard : Claim7 := { stood := { row := agentNilRow, standIns := [], harness := (true, "8e8518a32253682da311eaa20844e40a4c31dc1c1a330644e23258c9917463e4"), looks := true }, kinds := [], alts := [], laidByText := true, laidKinds := [.data, .data, .data, .sentinel, .sentinel], laidTests := true, laidLooks := .later }
def AgentNilCardSaid : Prop := Claim7.holds Tryz.pinned (.plain (OpenSpec.ofChange agentNilSpec)) agentNilCard

/-- THE SECOND FORM's CARD OF 'berthmasterlaw27.AgentNames'. -/
def agentNamesUptoCard : Claim7 := { stood := { row := agentNamesUptoRow, standIns := [], harness := (true, "8e8518a32253682da311eaa20844e40a4c31dc1c1a330644e23258c9917463e4"), looks := true }, kinds := [], alts := [], laidByText := true, laidKinds := [.data, .data, .data, .sentinel, .sentinel], laidTests := true, laidLooks := .later }
def AgentNamesUptoCardSaid : Prop := Claim7.holds Tryz.pinned (.plain (OpenSpec.upto agentNamesSpec)) agentNamesUptoCard

/-- THE SECOND FORM's CARD OF 'berthmasterlaw27.AgentNil'. -/
def agentNilUptoCard : Claim7 := { stood := { row := agentNilUptoRow, standIns := [], harness := (true, "8e8518a32253682da311eaa20844e40a4c31dc1c1a330644e23258c9917463e4"), looks := true }, kinds := [], alts := [], laidByText := true, laidKinds := [.data, .data, .data, .sentinel, .sentinel], laidTests := true, laidLooks := .later }
def AgentNilUptoCardSaid : Prop := Claim7.holds Tryz.pinned (.plain (OpenSpec.upto agentNilSpec)) agentNilUptoCard
end Rows
end Go.Proofs.YtinecjjgnjkgmaaGreatDoor
