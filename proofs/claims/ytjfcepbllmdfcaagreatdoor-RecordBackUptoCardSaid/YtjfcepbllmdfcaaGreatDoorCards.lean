/-
  DERIVED. GIVEN WITH THE SEED: THE CARDS: each row of YtjfcepbllmdfcaaGreatDoorRows.lean that lists a variable, with what it lists TIED to the program's text (the seventh form; the later family's looks); each row that meets fmt, with fmt's text TOLD by the authors' own Lean function (tested against real Go, not proved from fmt's source: count such statements apart). THE CARD IS WHAT COUNTS. Prove the row's statement (the work); the ties are given (YtjfcepbllmdfcaaGreatDoorTie.lean); close each card by the builder's one call (the guide's Derived/Test/ToyasCard.lean, 'card_holds'). Laid BY PROGRAM, IN A SANDBOX (cutbox-door.mjs). By AI agents, Wed Nov 11 2026. No macro, syntax, notation, axiom, sorry.
-/
import Derived.Test.YtjfcepbllmdfcaaGreatDoorRows
import GoSem.ClaimSeven
namespace Go.Proofs.YtjfcepbllmdfcaaGreatDoor
namespace Rows

/-- THE TIED CARD OF 'berthmasterlaw15.RecordBack'. -/
def recordBackCard : Claim7 := { stood := { row := recordBackRow, standIns := [], harness := (true, "6809a1e59716ef6058ca0664e97c9e61793ac629a7f21a3ef1d234e90c9ad586"), looks := true }, kinds := [], alts := [], laidByText := true, laidKinds := [.data, .data, .data, .data, .sentinel, .sentinel, .pinned], laidTests := true, laidLooks := .later }
def RecordBackCardSaid : Prop := Claim7.holds Tryz.pinned (.plain (OpenSpec.ofChange recordBackSpec)) recordBackCard

/-- THE TIED CARD OF 'berthmasterlaw15.RecordOnce'. -/
def recordOnceCard : Claim7 := { stood := { row := recordOnceRow, standIns := [], harness := (true, "6809a1e59716ef6058ca0664e97c9e61793ac629a7f21a3ef1d234e90c9ad586"), looks := true }, kinds := [], alts := [], laidByText := true, laidKinds := [.data, .data, .data, .data, .sentinel, .sentinel, .pinned], laidTests := true, laidLooks := .later }
def RecordOnceCardSaid : Prop := Claim7.holds Tryz.pinned (.plain (OpenSpec.ofChange recordOnceSpec)) recordOnceCard

/-- THE SECOND FORM's CARD OF 'berthmasterlaw15.RecordBack'. -/
def recordBackUptoCard : Claim7 := { stood := { row := recordBackUptoRow, standIns := [], harness := (true, "6809a1e59716ef6058ca0664e97c9e61793ac629a7f21a3ef1d234e90c9ad586"), looks := true }, kinds := [], alts := [], laidByText := true, laidKinds := [.data, .data, .data, .data, .sentinel, .sentinel, .pinned], laidTests := true, laidLooks := .later }
def RecordBackUptoCardSaid : Prop := Claim7.holds Tryz.pinned (.plain (OpenSpec.upto recordBackSpec)) recordBackUptoCard

/-- THE SECOND FORM's CARD OF 'berthmasterlaw15.RecordOnce'. -/
def recordOnceUptoCard : Claim7 := { stood := { row := recordOnceUptoRow, standIns := [], harness := (true, "6809a1e59716ef6058ca0664e97c9e61793ac629a7f21a3ef1d234e90c9ad586"), looks := true }, kinds := [], alts := [], laidByText := true, laidKinds := [.data, .data, .data, .data, .sentinel, .sentinel, .pinned], laidTests := true, laidLooks := .later }
def RecordOnceUptoCardSaid : Prop := Claim7.holds Tryz.pinned (.plain (OpenSpec.upto recordOnceSpec)) recordOnceUptoCard
end Rows
end Go.Proofs.YtjfcepbllmdfcaaGreatDoor
