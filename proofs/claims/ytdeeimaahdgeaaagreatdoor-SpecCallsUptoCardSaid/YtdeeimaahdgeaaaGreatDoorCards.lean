/-
  DERIVED. GIVEN WITH THE SEED: THE CARDS: each row of YtdeeimaahdgeaaaGreatDoorRows.lean that lists a variable, with what it lists TIED to the program's text (the seventh form; the later family's looks); each row that meets fmt, with fmt's text TOLD by the authors' own Lean function (tested against real Go, not proved from fmt's source: count such statements apart). THE CARD IS WHAT COUNTS. Prove the row's statement (the work); the ties are given (YtdeeimaahdgeaaaGreatDoorTie.lean); close each card by the builder's one call (the guide's Derived/Test/ToyasCard.lean, 'card_holds'). Laid BY PROGRAM, IN A SANDBOX (cutbox-door.mjs). By AI agents, Wed Nov 11 2026. No macro, syntax, notation, axiom, sorry.
-/
import Derived.Test.YtdeeimaahdgeaaaGreatDoorRows
import GoSem.ClaimSeven
namespace Go.Proofs.YtdeeimaahdgeaaaGreatDoor
namespace Rows

/-- THE TIED CARD OF 'berthmasterlaw12.SpecReads'. -/
def specReadsCard : Claim7 := { stood := { row := specReadsRow, standIns := [], harness := (true, "f47dae0ccda90741dd0e878a8f492aca3555fa6a3490c09a3daf41ba0e4eaf0a"), looks := true }, kinds := [], alts := [], laidByText := true, laidKinds := [.data, .data, .data, .data, .sentinel, .sentinel, .pinned], laidTests := true, laidLooks := .later }
def SpecReadsCardSaid : Prop := Claim7.holds Tryz.pinned (.plain (OpenSpec.ofChange specReadsSpec)) specReadsCard

/-- THE TIED CARD OF 'berthmasterlaw12.SpecCalls'. -/
def specCallsCard : Claim7 := { stood := { row := specCallsRow, standIns := [], harness := (true, "f47dae0ccda90741dd0e878a8f492aca3555fa6a3490c09a3daf41ba0e4eaf0a"), looks := true }, kinds := [], alts := [], laidByText := true, laidKinds := [.data, .data, .data, .data, .sentinel, .sentinel, .pinned], laidTests := true, laidLooks := .later }
def SpecCallsCardSaid : Prop := Claim7.holds Tryz.pinned (.plain (OpenSpec.ofChange specCallsSpec)) specCallsCard

/-- THE TIED CARD OF 'berthmasterlaw12.SpecBack'. -/
def specBackCard : Claim7 := { stood := { row := specBackRow, standIns := [], harness := (true, "f47dae0ccda90741dd0e878a8f492aca3555fa6a3490c09a3daf41ba0e4eaf0a"), looks := true }, kinds := [], alts := [], laidByText := true, laidKinds := [.data, .data, .data, .data, .sentinel, .sentinel, .pinned], laidTests := true, laidLooks := .later }
def SpecBackCardSaid : Prop := Claim7.holds Tryz.pinned (.plain (OpenSpec.ofChange specBackSpec)) specBackCard

/-- THE TIED CARD OF 'berthmasterlaw12.SpecLines'. -/
def specLinesCard : Claim7 := { stood := { row := specLinesRow, standIns := [], harness := (true, "f47dae0ccda90741dd0e878a8f492aca3555fa6a3490c09a3daf41ba0e4eaf0a"), looks := true }, kinds := [], alts := [], laidByText := true, laidKinds := [.data, .data, .data, .data, .sentinel, .sentinel, .pinned], laidTests := true, laidLooks := .later }
def SpecLinesCardSaid : Prop := Claim7.holds Tryz.pinned (.plain (OpenSpec.ofChange specLinesSpec)) specLinesCard

/-- THE SECOND FORM's CARD OF 'berthmasterlaw12.SpecReads'. -/
def specReadsUptoCard : Claim7 := { stood := { row := specReadsUptoRow, standIns := [], harness := (true, "f47dae0ccda90741dd0e878a8f492aca3555fa6a3490c09a3daf41ba0e4eaf0a"), looks := true }, kinds := [], alts := [], laidByText := true, laidKinds := [.data, .data, .data, .data, .sentinel, .sentinel, .pinned], laidTests := true, laidLooks := .later }
def SpecReadsUptoCardSaid : Prop := Claim7.holds Tryz.pinned (.plain (OpenSpec.upto specReadsSpec)) specReadsUptoCard

/-- THE SECOND FORM's CARD OF 'berthmasterlaw12.SpecCalls'. -/
def specCallsUptoCard : Claim7 := { stood := { row := specCallsUptoRow, standIns := [], harness := (true, "f47dae0ccda90741dd0e878a8f492aca3555fa6a3490c09a3daf41ba0e4eaf0a"), looks := true }, kinds := [], alts := [], laidByText := true, laidKinds := [.data, .data, .data, .data, .sentinel, .sentinel, .pinned], laidTests := true, laidLooks := .later }
def SpecCallsUptoCardSaid : Prop := Claim7.holds Tryz.pinned (.plain (OpenSpec.upto specCallsSpec)) specCallsUptoCard

/-- THE SECOND FORM's CARD OF 'berthmasterlaw12.SpecBack'. -/
def specBackUptoCard : Claim7 := { stood := { row := specBackUptoRow, standIns := [], harness := (true, "f47dae0ccda90741dd0e878a8f492aca3555fa6a3490c09a3daf41ba0e4eaf0a"), looks := true }, kinds := [], alts := [], laidByText := true, laidKinds := [.data, .data, .data, .data, .sentinel, .sentinel, .pinned], laidTests := true, laidLooks := .later }
def SpecBackUptoCardSaid : Prop := Claim7.holds Tryz.pinned (.plain (OpenSpec.upto specBackSpec)) specBackUptoCard

/-- THE SECOND FORM's CARD OF 'berthmasterlaw12.SpecLines'. -/
def specLinesUptoCard : Claim7 := { stood := { row := specLinesUptoRow, standIns := [], harness := (true, "f47dae0ccda90741dd0e878a8f492aca3555fa6a3490c09a3daf41ba0e4eaf0a"), looks := true }, kinds := [], alts := [], laidByText := true, laidKinds := [.data, .data, .data, .data, .sentinel, .sentinel, .pinned], laidTests := true, laidLooks := .later }
def SpecLinesUptoCardSaid : Prop := Claim7.holds Tryz.pinned (.plain (OpenSpec.upto specLinesSpec)) specLinesUptoCard
end Rows
end Go.Proofs.YtdeeimaahdgeaaaGreatDoor
