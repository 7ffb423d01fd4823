/-
  DERIVED. GIVEN WITH THE SEED: THE CARDS: each row of YtkdgobmbnlbbpaaGreatDoorRows.lean that lists a variable, with what it lists TIED to the program's text (the seventh form; the later family's looks); each row that meets fmt, with fmt's text TOLD by the authors' own Lean function (tested against real Go, not proved from fmt's source: count such statements apart). THE CARD IS WHAT COUNTS. Prove the row's statement (the work); the ties are given (YtkdgobmbnlbbpaaGreatDoorTie.lean); close each card by the builder's one call (the guide's Derived/Test/ToyasCard.lean, 'card_holds'). Laid BY PROGRAM, IN A SANDBOX (cutbox-door.mjs). By AI agents, Wed Nov 11 2026. No macro, syntax, notation, axiom, sorry.
-/
import Derived.Test.YtkdgobmbnlbbpaaGreatDoorRows
import GoSem.ClaimSeven
namespace Go.Proofs.YtkdgobmbnlbbpaaGreatDoor
namespace Rows

/-- THE TIED CARD OF 'berthmasterlaw13.CanonTask'. -/
def canonTaskCard : Claim7 := { stood := { row := canonTaskRow, standIns := [], harness := (true, "8b821fc6f1b7fb9a48125765bb0cc9c8566a77cdcbb2ed0fd24dc7d677f9b335"), looks := true }, kinds := [], alts := [], laidByText := true, laidKinds := [.data, .data, .data, .sentinel, .sentinel], laidTests := true, laidLooks := .later }
def CanonTaskCardSaid : Prop := Claim7.holds Tryz.pinned (.plain (OpenSpec.ofChange canonTaskSpec)) canonTaskCard

/-- THE SECOND FORM's CARD OF 'berthmasterlaw13.CanonTask'. -/
def canonTaskUptoCard : Claim7 := { stood := { row := canonTaskUptoRow, standIns := [], harness := (true, "8b821fc6f1b7fb9a48125765bb0cc9c8566a77cdcbb2ed0fd24dc7d677f9b335"), looks := true }, kinds := [], alts := [], laidByText := true, laidKinds := [.data, .data, .data, .sentinel, .sentinel], laidTests := true, laidLooks := .later }
def CanonTaskUptoCardSaid : Prop := Claim7.holds Tryz.pinned (.plain (OpenSpec.upto canonTaskSpec)) canonTaskUptoCard
end Rows
end Go.Proofs.YtkdgobmbnlbbpaaGreatDoor
