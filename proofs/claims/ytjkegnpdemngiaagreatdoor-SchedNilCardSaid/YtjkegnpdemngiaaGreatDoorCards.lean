/-
  DERIVED. GIVEN WITH THE SEED: THE CARDS: each row of YtjkegnpdemngiaaGreatDoorRows.lean that lists a variable, with what it lists TIED to the program's text (the seventh form; the later family's looks); each row that meets fmt, with fmt's text TOLD by the authors' own Lean function (tested against real Go, not proved from fmt's source: count such statements apart). THE CARD IS WHAT COUNTS. Prove the row's statement (the work); the ties are given (YtjkegnpdemngiaaGreatDoorTie.lean); close each card by the builder's one call (the guide's Derived/Test/ToyasCard.lean, 'card_holds'). Laid BY PROGRAM, IN A SANDBOX (cutbox-door.mjs). By AI agents, Wed Nov 11 2026. No macro, syntax, notation, axiom, sorry.
-/
import Derived.Test.YtjkegnpdemngiaaGreatDoorRows
import GoSem.ClaimSeven
namespace Go.Proofs.YtjkegnpdemngiaaGreatDoor
namespace Rows

/-- THE TIED CARD OF 'berthmasterlaw24.SchedNil'. -/
def schedNilCard : Claim7 := { stood := { row := schedNilRow, standIns := [], harness := (true, "8a522924cb6e2a05e22a4d621e7f613c3d6b1ebb1e5c3d0d5295eb0cdb782c7b"), looks := true }, kinds := [], alts := [], laidByText := true, laidKinds := [.data, .data, .data, .sentinel, .sentinel], laidTests := true, laidLooks := .later }
def SchedNilCardSaid : Prop := Claim7.holds Tryz.pinned (.plain (OpenSpec.ofChange schedNilSpec)) schedNilCard

/-- THE SECOND FORM's CARD OF 'berthmasterlaw24.SchedNil'. -/
def schedNilUptoCard : Claim7 := { stood := { row := schedNilUptoRow, standIns := [], harness := (true, "8a522924cb6e2a05e22a4d621e7f613c3d6b1ebb1e5c3d0d5295eb0cdb782c7b"), looks := true }, kinds := [], alts := [], laidByText := true, laidKinds := [.data, .data, .data, .sentinel, .sentinel], laidTests := true, laidLooks := .later }
def SchedNilUptoCardSaid : Prop := Claim7.holds Tryz.pinned (.plain (OpenSpec.upto schedNilSpec)) schedNilUptoCard
end Rows
end Go.Proofs.YtjkegnpdemngiaaGreatDoor
