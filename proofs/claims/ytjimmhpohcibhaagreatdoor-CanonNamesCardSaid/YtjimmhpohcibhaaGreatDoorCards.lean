/-
  DERIVED. GIVEN WITH THE SEED: THE CARDS: each row of YtjimmhpohcibhaaGreatDoorRows.lean that lists a variable, with what it lists TIED to the program's text (the seventh form; the later family's looks); each row that meets fmt, with fmt's text TOLD by the authors' own Lean function (tested against real Go, not proved from fmt's source: count such statements apart). THE CARD IS WHAT COUNTS. Prove the row's statement (the work); the ties are given (YtjimmhpohcibhaaGreatDoorTie.lean); close each card by the builder's one call (the guide's Derived/Test/ToyasCard.lean, 'card_holds'). Laid BY PROGRAM, IN A SANDBOX (cutbox-door.mjs). By AI agents, Wed Nov 11 2026. No macro, syntax, notation, axiom, sorry.
-/
import Derived.Test.YtjimmhpohcibhaaGreatDoorRows
import GoSem.ClaimSeven
namespace Go.Proofs.YtjimmhpohcibhaaGreatDoor
namespace Rows

/-- THE TIED CARD OF 'berthmasterlaw12.SpecNames'. -/
def specNamesCard : Claim7 := { stood := { row := specNamesRow, standIns := [], harness := (true, "e069801bf074b035523cb06857540ef6d4da2b318f2b90551a804ee6b8a39882"), looks := true }, kinds := [], alts := [], laidByText := true, laidKinds := [.data, .data, .data, .data, .sentinel, .sentinel, .pinned], laidTests := true, laidLooks := .later }
def SpecNamesCardSaid : Prop := Claim7.holds Tryz.pinned (.plain (OpenSpec.ofChange specNamesSpec)) specNamesCard

/-- THE TIED CARD OF 'berthmasterlaw18.ScoreNames'. -/
def scoreNamesCard : Claim7 := { stood := { row := scoreNamesRow, standIns := [], harness := (true, "e069801bf074b035523cb06857540ef6d4da2b318f2b90551a804ee6b8a39882"), looks := true }, kinds := [], alts := [], laidByText := true, laidKinds := [.data, .data, .data, .sentinel, .sentinel], laidTests := true, laidLooks := .later }
def ScoreNamesCardSaid : Prop := Claim7.holds Tryz.pinned (.plain (OpenSpec.ofChange scoreNamesSpec)) scoreNamesCard

/-- THE TIED CARD OF 'berthmasterlaw22.BudgetNames'. -/
def budgetNamesCard : Claim7 := { stood := { row := budgetNamesRow, standIns := [], harness := (true, "e069801bf074b035523cb06857540ef6d4da2b318f2b90551a804ee6b8a39882"), looks := true }, kinds := [], alts := [], laidByText := true, laidKinds := [.data, .data, .data, .sentinel, .sentinel], laidTests := true, laidLooks := .later }
def BudgetNamesCardSaid : Prop := Claim7.holds Tryz.pinned (.plain (OpenSpec.ofChange budgetNamesSpec)) budgetNamesCard

/-- THE TIED CARD OF 'berthmasterlaw21.VictimNames'. -/
def victimNamesCard : Claim7 := { stood := { row := victimNamesRow, standIns := [], harness := (true, "e069801bf074b035523cb06857540ef6d4da2b318f2b90551a804ee6b8a39882"), looks := true }, kinds := [], alts := [], laidByText := true, laidKinds := [.data, .data, .data, .sentinel, .sentinel], laidTests := true, laidLooks := .later }
def VictimNamesCardSaid : Prop := Claim7.holds Tryz.pinned (.plain (OpenSpec.ofChange victimNamesSpec)) victimNamesCard

/-- THE TIED CARD OF 'berthmasterlaw13.CanonNames'. -/
def canonNamesCard : Claim7 := { stood := { row := canonNamesRow, standIns := [], harness := (true, "e069801bf074b035523cb06857540ef6d4da2b318f2b90551a804ee6b8a39882"), looks := true }, kinds := [], alts := [], laidByText := true, laidKinds := [.data, .data, .data, .data, .sentinel, .sentinel, .pinned], laidTests := true, laidLooks := .later }
def CanonNamesCardSaid : Prop := Claim7.holds Tryz.pinned (.plain (OpenSpec.ofChange canonNamesSpec)) canonNamesCard

/-- THE TIED CARD OF 'berthmasterlaw15.RecordNames'. -/
def recordNamesCard : Claim7 := { stood := { row := recordNamesRow, standIns := [], harness := (true, "e069801bf074b035523cb06857540ef6d4da2b318f2b90551a804ee6b8a39882"), looks := true }, kinds := [], alts := [], laidByText := true, laidKinds := [.data, .data, .data, .data, .sentinel, .sentinel, .listed, .data, .pinned], laidTests := true, laidLooks := .later }
def RecordNamesCardSaid : Prop := Claim7.holds Tryz.pinned (.plain (OpenSpec.ofChange recordNamesSpec)) recordNamesCard

/-- THE SECOND FORM's CARD OF 'berthmasterlaw12.SpecNames'. -/
def specNamesUptoCard : Claim7 := { stood := { row := specNamesUptoRow, standIns := [], harness := (true, "e069801bf074b035523cb06857540ef6d4da2b318f2b90551a804ee6b8a39882"), looks := true }, kinds := [], alts := [], laidByText := true, laidKinds := [.data, .data, .data, .data, .sentinel, .sentinel, .pinned], laidTests := true, laidLooks := .later }
def SpecNamesUptoCardSaid : Prop := Claim7.holds Tryz.pinned (.plain (OpenSpec.upto specNamesSpec)) specNamesUptoCard

/-- THE SECOND FORM's CARD OF 'berthmasterlaw18.ScoreNames'. -/
def scoreNamesUptoCard : Claim7 := { stood := { row := scoreNamesUptoRow, standIns := [], harness := (true, "e069801bf074b035523cb06857540ef6d4da2b318f2b90551a804ee6b8a39882"), looks := true }, kinds := [], alts := [], laidByText := true, laidKinds := [.data, .data, .data, .sentinel, .sentinel], laidTests := true, laidLooks := .later }
def ScoreNamesUptoCardSaid : Prop := Claim7.holds Tryz.pinned (.plain (OpenSpec.upto scoreNamesSpec)) scoreNamesUptoCard

/-- THE SECOND FORM's CARD OF 'berthmasterlaw22.BudgetNames'. -/
def budgetNamesUptoCard : Claim7 := { stood := { row := budgetNamesUptoRow, standIns := [], harness := (true, "e069801bf074b035523cb06857540ef6d4da2b318f2b90551a804ee6b8a39882"), looks := true }, kinds := [], alts := [], laidByText := true, laidKinds := [.data, .data, .data, .sentinel, .sentinel], laidTests := true, laidLooks := .later }
def BudgetNamesUptoCardSaid : Prop := Claim7.holds Tryz.pinned (.plain (OpenSpec.upto budgetNamesSpec)) budgetNamesUptoCard

/-- THE SECOND FORM's CARD OF 'berthmasterlaw21.VictimNames'. -/
def victimNamesUptoCard : Claim7 := { stood := { row := victimNamesUptoRow, standIns := [], harness := (true, "e069801bf074b035523cb06857540ef6d4da2b318f2b90551a804ee6b8a39882"), looks := true }, kinds := [], alts := [], laidByText := true, laidKinds := [.data, .data, .data, .sentinel, .sentinel], laidTests := true, laidLooks := .later }
def VictimNamesUptoCardSaid : Prop := Claim7.holds Tryz.pinned (.plain (OpenSpec.upto victimNamesSpec)) victimNamesUptoCard

/-- THE SECOND FORM's CARD OF 'berthmasterlaw13.CanonNames'. -/
def canonNamesUptoCard : Claim7 := { stood := { row := canonNamesUptoRow, standIns := [], harness := (true, "e069801bf074b035523cb06857540ef6d4da2b318f2b90551a804ee6b8a39882"), looks := true }, kinds := [], alts := [], laidByText := true, laidKinds := [.data, .data, .data, .data, .sentinel, .sentinel, .pinned], laidTests := true, laidLooks := .later }
def CanonNamesUptoCardSaid : Prop := Claim7.holds Tryz.pinned (.plain (OpenSpec.upto canonNamesSpec)) canonNamesUptoCard

/-- THE SECOND FORM's CARD OF 'berthmasterlaw15.RecordNames'. -/
def recordNamesUptoCard : Claim7 := { stood := { row := recordNamesUptoRow, standIns := [], harness := (true, "e069801bf074b035523cb06857540ef6d4da2b318f2b90551a804ee6b8a39882"), looks := true }, kinds := [], alts := [], laidByText := true, laidKinds := [.data, .data, .data, .data, .sentinel, .sentinel, .listed, .data, .pinned], laidTests := true, laidLooks := .later }
def RecordNamesUptoCardSaid : Prop := Claim7.holds Tryz.pinned (.plain (OpenSpec.upto recordNamesSpec)) recordNamesUptoCard
end Rows
end Go.Proofs.YtjimmhpohcibhaaGreatDoor
