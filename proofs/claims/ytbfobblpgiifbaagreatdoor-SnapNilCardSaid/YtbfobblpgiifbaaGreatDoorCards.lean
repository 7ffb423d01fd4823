/-
  DERIVED. GIVEN WITH THE SEED: THE CARDS: each row of YtbfobblpgiifbaaGreatDoorRows.lean that lists a variable, with what it lists TIED to the program's text (the seventh form; the later family's looks); each row that meets fmt, with fmt's text TOLD by the authors' own Lean function (tested against real Go, not proved from fmt's source: count such statements apart). THE CARD IS WHAT COUNTS. Prove the row's statement (the work); the ties are given (YtbfobblpgiifbaaGreatDoorTie.lean); close each card by the builder's one call (the guide's Derived/Test/ToyasCard.lean, 'card_holds'). Laid BY PROGRAM, IN A SANDBOX (cutbox-door.mjs). By AI agents, Wed Nov 11 2026. No macro, syntax, notation, axiom, sorry.
-/
import Derived.Test.YtbfobblpgiifbaaGreatDoorRows
import GoSem.ClaimSeven
namespace Go.Proofs.YtbfobblpgiifbaaGreatDoor
namespace Rows

/-- THE TIED CARD OF 'berthmasterlaw06.SnapNil'. -/
def snapNilCard : Claim7 := { stood := { row := snapNilRow, standIns := [], harness := (true, "dedf0d1cdb1a07dafcfc854a1d25733b8cd3166316c06fd83437ccf5e0f52929"), looks := true }, kinds := [], alts := [], laidByText := true, laidKinds := [.data, .data, .data, .sentinel, .sentinel], laidTests := true, laidLooks := .later }
def SnapNilCardSaid : Prop := Claim7.holds Tryz.pinned (.plain (OpenSpec.ofChange snapNilSpec)) snapNilCard

/-- THE TIED CARD OF 'berthmasterlaw06.SnapNames'. -/
def snapNamesCard : Claim7 := { stood := { row := snapNamesRow, standIns := [], harness := (true, "dedf0d1cdb1a07dafcfc854a1d25733b8cd3166316c06fd83437ccf5e0f52929"), looks := true }, kinds := [], alts := [], laidByText := true, laidKinds := [.data, .data, .data, .sentinel, .sentinel], laidTests := true, laidLooks := .later }
def SnapNamesCardSaid : Prop := Claim7.holds Tryz.pinned (.plain (OpenSpec.ofChange snapNamesSpec)) snapNamesCard

/-- THE SECOND FORM's CARD OF 'berthmasterlaw06.SnapNil'. -/
def snapNilUptoCard : Claim7 := { stood := { row := snapNilUptoRow, standIns := [], harness := (true, "dedf0d1cdb1a07dafcfc854a1d25733b8cd3166316c06fd83437ccf5e0f52929"), looks := true }, kinds := [], alts := [], laidByText := true, laidKinds := [.data, .data, .data, .sentinel, .sentinel], laidTests := true, laidLooks := .later }
def SnapNilUptoCardSaid : Prop := Claim7.holds Tryz.pinned (.plain (OpenSpec.upto snapNilSpec)) snapNilUptoCard

/-- THE SECOND FORM's CARD OF 'berthmasterlaw06.SnapNames'. -/
def snapNamesUptoCard : Claim7 := { stood := { row := snapNamesUptoRow, standIns := [], harness := (true, "dedf0d1cdb1a07dafcfc854a1d25733b8cd3166316c06fd83437ccf5e0f52929"), looks := true }, kinds := [], alts := [], laidByText := true, laidKinds := [.data, .data, .data, .sentinel, .sentinel], laidTests := true, laidLooks := .later }
def SnapNamesUptoCardSaid : Prop := Claim7.holds Tryz.pinned (.plain (OpenSpec.upto snapNamesSpec)) snapNamesUptoCard
end Rows
end Go.Proofs.YtbfobblpgiifbaaGreatDoor
