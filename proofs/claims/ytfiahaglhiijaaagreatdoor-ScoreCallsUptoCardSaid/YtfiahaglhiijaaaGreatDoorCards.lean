/-
  DERIVED. GIVEN WITH THE SEED: THE CARDS: each row of YtfiahaglhiijaaaGreatDoorRows.lean that lists a variable, with what it lists TIED to the program's text (the seventh form; the later family's looks); each row that meets fmt, with fmt's text TOLD by the authors' own Lean function (tested against real Go, not proved from fmt's source: count such statements apart). THE CARD IS WHAT COUNTS. Prove the row's statement (the work); the ties are given (YtfiahaglhiijaaaGreatDoorTie.lean); close each card by the builder's one call (the guide's Derived/Test/ToyasCard.lean, 'card_holds'). Laid BY PROGRAM, IN A SANDBOX (cutbox-door.mjs). By AI agents, Wed Nov 11 2026. No macro, syntax, notation, axiom, sorry.
-/
import Derived.Test.YtfiahaglhiijaaaGreatDoorRows
import GoSem.ClaimSeven
namespace Go.Proofs.YtfiahaglhiijaaaGreatDoor
namespace Rows

/-- THE TIED CARD OF 'berthmasterlaw18.ScoreCalls'. -/
def scoreCallsCard : Claim7 := { stood := { row := scoreCallsRow, standIns := [], harness := (true, "b4e2ed40e242b80b031e36a6b9ff6a6f3cb4684106f59e03051ca3f46ffd6771"), looks := true }, kinds := [], alts := [], laidByText := true, laidKinds := [.data, .data, .data, .sentinel, .sentinel], laidTests := true, laidLooks := .later }
def ScoreCallsCardSaid : Prop := Claim7.holds Tryz.pinned (.plain (OpenSpec.ofChange scoreCallsSpec)) scoreCallsCard

/-- THE SECOND FORM's CARD OF 'berthmasterlaw18.ScoreCalls'. -/
def scoreCallsUptoCard : Claim7 := { stood := { row := scoreCallsUptoRow, standIns := [], harness := (true, "b4e2ed40e242b80b031e36a6b9ff6a6f3cb4684106f59e03051ca3f46ffd6771"), looks := true }, kinds := [], alts := [], laidByText := true, laidKinds := [.data, .data, .data, .sentinel, .sentinel], laidTests := true, laidLooks := .later }
def ScoreCallsUptoCardSaid : Prop := Claim7.holds Tryz.pinned (.plain (OpenSpec.upto scoreCallsSpec)) scoreCallsUptoCard
end Rows
end Go.Proofs.YtfiahaglhiijaaaGreatDoor
