/-
  DERIVED. GIVEN WITH THE SEED: THE CARDS: each row of YteaghohpdchkgaaGreatDoorRows.lean that lists a variable, with what it lists TIED to the program's text (the seventh form; the later family's looks); each row that meets fmt, with fmt's text TOLD by the authors' own Lean function (tested against real Go, not proved from fmt's source: count such statements apart). THE CARD IS WHAT COUNTS. Prove the row's statement (the work); the ties are given (YteaghohpdchkgaaGreatDoorTie.lean); close each card by the builder's one call (the guide's Derived/Test/ToyasCard.lean, 'card_holds'). Laid BY PROGRAM, IN A SANDBOX (cutbox-door.mjs). By AI agents, Wed Nov 11 2026. No macro, syntax, notation, axiom, sorry.
-/
import Derived.Test.YteaghohpdchkgaaGreatDoorRows
import GoSem.ClaimSeven
namespace Go.Proofs.YteaghohpdchkgaaGreatDoor
namespace Rows

/-- THE TIED CARD OF 'berthmasterlaw19.CacheBound'. -/
def cacheBoundCard : Claim7 := { stood := { row := cacheBoundRow, standIns := [], harness := (true, "6156e1fa41033dcb688dc0e117e0d409a3342b6a4e689af00f9720dde97d2b81"), looks := true }, kinds := [], alts := [], laidByText := true, laidKinds := [.data, .data, .data, .sentinel, .sentinel], laidTests := true, laidLooks := .later }
def CacheBoundCardSaid : Prop := Claim7.holds Tryz.pinned (.plain (OpenSpec.ofChange cacheBoundSpec)) cacheBoundCard

/-- THE TIED CARD OF 'berthmasterlaw19.CacheNames'. -/
def cacheNamesCard : Claim7 := { stood := { row := cacheNamesRow, standIns := [], harness := (true, "6156e1fa41033dcb688dc0e117e0d409a3342b6a4e689af00f9720dde97d2b81"), looks := true }, kinds := [], alts := [], laidByText := true, laidKinds := [.data, .data, .data, .sentinel, .sentinel], laidTests := true, laidLooks := .later }
def CacheNamesCardSaid : Prop := Claim7.holds Tryz.pinned (.plain (OpenSpec.ofChange cacheNamesSpec)) cacheNamesCard

/-- THE TIED CARD OF 'berthmasterlaw19.CacheScript'. -/
def cacheScriptCard : Claim7 := { stood := { row := cacheScriptRow, standIns := [], harness := (true, "6156e1fa41033dcb688dc0e117e0d409a3342b6a4e689af00f9720dde97d2b81"), looks := true }, kinds := [], alts := [], laidByText := true, laidKinds := [.data, .data, .data, .sentinel, .sentinel], laidTests := true, laidLooks := .later }
def CacheScriptCardSaid : Prop := Claim7.holds Tryz.pinned (.plain (OpenSpec.ofChange cacheScriptSpec)) cacheScriptCard

/-- THE TIED CARD OF 'berthmasterlaw19.CacheNil'. -/
def cacheNilCard : Claim7 := { stood := { row := cacheNilRow, standIns := [], harness := (true, "6156e1fa41033dcb688dc0e117e0d409a3342b6a4e689af00f9720dde97d2b81"), looks := true }, kinds := [], alts := [], laidByText := true, laidKinds := [.data, .data, .data, .sentinel, .sentinel], laidTests := true, laidLooks := .later }
def CacheNilCardSaid : Prop := Claim7.holds Tryz.pinned (.plain (OpenSpec.ofChange cacheNilSpec)) cacheNilCard

/-- THE SECOND FORM's CARD OF 'berthmasterlaw19.CacheBound'. -/
def cacheBoundUptoCard : Claim7 := { stood := { row := cacheBoundUptoRow, standIns := [], harness := (true, "6156e1fa41033dcb688dc0e117e0d409a3342b6a4e689af00f9720dde97d2b81"), looks := true }, kinds := [], alts := [], laidByText := true, laidKinds := [.data, .data, .data, .sentinel, .sentinel], laidTests := true, laidLooks := .later }
def CacheBoundUptoCardSaid : Prop := Claim7.holds Tryz.pinned (.plain (OpenSpec.upto cacheBoundSpec)) cacheBoundUptoCard

/-- THE SECOND FORM's CARD OF 'berthmasterlaw19.CacheNames'. -/
def cacheNamesUptoCard : Claim7 := { stood := { row := cacheNamesUptoRow, standIns := [], harness := (true, "6156e1fa41033dcb688dc0e117e0d409a3342b6a4e689af00f9720dde97d2b81"), looks := true }, kinds := [], alts := [], laidByText := true, laidKinds := [.data, .data, .data, .sentinel, .sentinel], laidTests := true, laidLooks := .later }
def CacheNamesUptoCardSaid : Prop := Claim7.holds Tryz.pinned (.plain (OpenSpec.upto cacheNamesSpec)) cacheNamesUptoCard

/-- THE SECOND FORM's CARD OF 'berthmasterlaw19.CacheScript'. -/
def cacheScriptUptoCard : Claim7 := { stood := { row := cacheScriptUptoRow, standIns := [], harness := (true, "6156e1fa41033dcb688dc0e117e0d409a3342b6a4e689af00f9720dde97d2b81"), looks := true }, kinds := [], alts := [], laidByText := true, laidKinds := [.data, .data, .data, .sentinel, .sentinel], laidTests := true, laidLooks := .later }
def CacheScriptUptoCardSaid : Prop := Claim7.holds Tryz.pinned (.plain (OpenSpec.upto cacheScriptSpec)) cacheScriptUptoCard

/-- THE SECOND FORM's CARD OF 'berthmasterlaw19.CacheNil'. -/
def cacheNilUptoCard : Claim7 := { stood := { row := cacheNilUptoRow, standIns := [], harness := (true, "6156e1fa41033dcb688dc0e117e0d409a3342b6a4e689af00f9720dde97d2b81"), looks := true }, kinds := [], alts := [], laidByText := true, laidKinds := [.data, .data, .data, .sentinel, .sentinel], laidTests := true, laidLooks := .later }
def CacheNilUptoCardSaid : Prop := Claim7.holds Tryz.pinned (.plain (OpenSpec.upto cacheNilSpec)) cacheNilUptoCard
end Rows
end Go.Proofs.YteaghohpdchkgaaGreatDoor
