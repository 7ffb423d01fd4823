/-
  DERIVED. GIVEN WITH THE SEED: THE CARDS: each row of YtmmmpgnkglhkjaaGreatDoorRows.lean that lists a variable, with what it lists TIED to the program's text (the seventh form; the later family's looks); each row that meets fmt, with fmt's text TOLD by the authors' own Lean function (tested against real Go, not proved from fmt's source: count such statements apart). THE CARD IS WHAT COUNTS. Prove the row's statement (the work); the ties are given (YtmmmpgnkglhkjaaGreatDoorTie.lean); close each card by the builder's one call (the guide's Derived/Test/ToyasCard.lean, 'card_holds'). Laid BY PROGRAM, IN A SANDBOX (cutbox-door.mjs). By AI agents, Wed Nov 11 2026. No macro, syntax, notation, axiom, sorry.
-/
import Derived.Test.YtmmmpgnkglhkjaaGreatDoorRows
import GoSem.ClaimSeven
namespace Go.Proofs.YtmmmpgnkglhkjaaGreatDoor
namespace Rows

/-- THE TIED CARD OF 'berthmasterlaw19.CacheBound'. -/
def cacheBoundCard : Claim7 := { stood := { row := cacheBoundRow, standIns := [], harness := (true, "d95786f6e18138e32e647da765f40310467924aec1e92a61d89514b8679e69e6"), looks := true }, kinds := [], alts := [], laidByText := true, laidKinds := [.data, .data, .data, .sentinel, .sentinel], laidTests := true, laidLooks := .later }
def CacheBoundCardSaid : Prop := Claim7.holds Tryz.pinned (.plain (OpenSpec.ofChange cacheBoundSpec)) cacheBoundCard

/-- THE SECOND FORM's CARD OF 'berthmasterlaw19.CacheBound'. -/
def cacheBoundUptoCard : Claim7 := { stood := { row := cacheBoundUptoRow, standIns := [], harness := (true, "d95786f6e18138e32e647da765f40310467924aec1e92a61d89514b8679e69e6"), looks := true }, kinds := [], alts := [], laidByText := true, laidKinds := [.data, .data, .data, .sentinel, .sentinel], laidTests := true, laidLooks := .later }
def CacheBoundUptoCardSaid : Prop := Claim7.holds Tryz.pinned (.plain (OpenSpec.upto cacheBoundSpec)) cacheBoundUptoCard
end Rows
end Go.Proofs.YtmmmpgnkglhkjaaGreatDoor
