/-
  DERIVED. GIVEN WITH THE SEED: THE CARDS: each row of YtdodmofhdmnenaaGreatDoorRows.lean that lists a variable, with what it lists TIED to the program's text (the seventh form; the later family's looks); each row that meets fmt, with fmt's text TOLD by the authors' own Lean function (tested against real Go, not proved from fmt's source: count such statements apart). THE CARD IS WHAT COUNTS. Prove the row's statement (the work); the ties are given (YtdodmofhdmnenaaGreatDoorTie.lean); close each card by the builder's one call (the guide's Derived/Test/ToyasCard.lean, 'card_holds'). Laid BY PROGRAM, IN A SANDBOX (cutbox-door.mjs). By AI agents, Wed Nov 11 2026. No macro, syntax, notation, axiom, sorry.
-/
import Derived.Test.YtdodmofhdmnenaaGreatDoorRows
import GoSem.ClaimSeven
namespace Go.Proofs.YtdodmofhdmnenaaGreatDoor
namespace Rows

/-- THE TIED CARD OF 'berthmasterlaw24.SchedNames'. -/
def schedNamesCard : Claim7 := { stood := { row := schedNamesRow, standIns := [], harness := (true, "36d1204fe43986bbeb96d96f0104a850bea669c7136f611f56d9a392f7b07686"), looks := true }, kinds := [], alts := [], laidByText := true, laidKinds := [.data, .data, .data, .sentinel, .sentinel], laidTests := true, laidLooks := .later }
def SchedNamesCardSaid : Prop := Claim7.holds Tryz.pinned (.plain (OpenSpec.ofChange schedNamesSpec)) schedNamesCard

/-- THE SECOND FORM's CARD OF 'berthmasterlaw24.SchedNames'. -/
def schedNamesUptoCard : Claim7 := { stood := { row := schedNamesUptoRow, standIns := [], harness := (true, "36d1204fe43986bbeb96d96f0104a850bea669c7136f611f56d9a392f7b07686"), looks := true }, kinds := [], alts := [], laidByText := true, laidKinds := [.data, .data, .data, .sentinel, .sentinel], laidTests := true, laidLooks := .later }
def SchedNamesUptoCardSaid : Prop := Claim7.holds Tryz.pinned (.plain (OpenSpec.upto schedNamesSpec)) schedNamesUptoCard
end Rows
end Go.Proofs.YtdodmofhdmnenaaGreatDoor
