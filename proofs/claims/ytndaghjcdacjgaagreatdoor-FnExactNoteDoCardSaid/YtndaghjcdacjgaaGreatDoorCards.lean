/-
  DERIVED. GIVEN WITH THE SEED: THE CARDS: each row of YtndaghjcdacjgaaGreatDoorRows.lean that lists a variable, with what it lists TIED to the program's text (the seventh form; the later family's looks); each row that meets fmt, with fmt's text TOLD by the authors' own Lean function (tested against real Go, not proved from fmt's source: count such statements apart). THE CARD IS WHAT COUNTS. Prove the row's statement (the work); the ties are given (YtndaghjcdacjgaaGreatDoorTie.lean); close each card by the builder's one call (the guide's Derived/Test/ToyasCard.lean, 'card_holds'). Laid BY PROGRAM, IN A SANDBOX (cutbox-door.mjs). By AI agents, Wed Nov 11 2026. No macro, syntax, notation, axiom, sorry.
-/
import Derived.Test.YtndaghjcdacjgaaGreatDoorRows
import GoSem.ClaimSeven
namespace Go.Proofs.YtndaghjcdacjgaaGreatDoor
namespace Rows

/-- THE TIED CARD OF 'laws.FnNoteDo'. -/
def fnNoteDoCard : Claim7 := { stood := { row := fnNoteDoRow, standIns := [], harness := (true, "3e353411d899ad2c5eccd80bc91977f1fe91acd069d2e397132e68870fcb4a4c"), looks := false }, kinds := [], alts := [], laidByText := true, laidKinds := [.data, .pinned], laidTests := true, laidLooks := .later }
def FnNoteDoCardSaid : Prop := Claim7.holds Tryz.pinned (.plain (OpenSpec.ofChange fnNoteDoSpec)) fnNoteDoCard

/-- THE TIED CARD OF 'laws.FnExactSpoolAdd'. -/
def fnExactSpoolAddCard : Claim7 := { stood := { row := fnExactSpoolAddRow, standIns := [], harness := (true, "3e353411d899ad2c5eccd80bc91977f1fe91acd069d2e397132e68870fcb4a4c"), looks := false }, kinds := [], alts := [], laidByText := true, laidKinds := [.data, .pinned], laidTests := true, laidLooks := .later }
def FnExactSpoolAddCardSaid : Prop := Claim7.holds Tryz.pinned (.plain (OpenSpec.ofChange fnExactSpoolAddSpec)) fnExactSpoolAddCard

/-- THE TIED CARD OF 'laws.FnExactNoteDo'. -/
def fnExactNoteDoCard : Claim7 := { stood := { row := fnExactNoteDoRow, standIns := [], harness := (true, "3e353411d899ad2c5eccd80bc91977f1fe91acd069d2e397132e68870fcb4a4c"), looks := false }, kinds := [], alts := [], laidByText := true, laidKinds := [.data, .pinned], laidTests := true, laidLooks := .later }
def FnExactNoteDoCardSaid : Prop := Claim7.holds Tryz.pinned (.plain (OpenSpec.ofChange fnExactNoteDoSpec)) fnExactNoteDoCard

/-- THE SECOND FORM's CARD OF 'laws.FnNoteDo'. -/
def fnNoteDoUptoCard : Claim7 := { stood := { row := fnNoteDoUptoRow, standIns := [], harness := (true, "3e353411d899ad2c5eccd80bc91977f1fe91acd069d2e397132e68870fcb4a4c"), looks := false }, kinds := [], alts := [], laidByText := true, laidKinds := [.data, .pinned], laidTests := true, laidLooks := .later }
def FnNoteDoUptoCardSaid : Prop := Claim7.holds Tryz.pinned (.plain (OpenSpec.upto fnNoteDoSpec)) fnNoteDoUptoCard

/-- THE SECOND FORM's CARD OF 'laws.FnExactSpoolAdd'. -/
def fnExactSpoolAddUptoCard : Claim7 := { stood := { row := fnExactSpoolAddUptoRow, standIns := [], harness := (true, "3e353411d899ad2c5eccd80bc91977f1fe91acd069d2e397132e68870fcb4a4c"), looks := false }, kinds := [], alts := [], laidByText := true, laidKinds := [.data, .pinned], laidTests := true, laidLooks := .later }
def FnExactSpoolAddUptoCardSaid : Prop := Claim7.holds Tryz.pinned (.plain (OpenSpec.upto fnExactSpoolAddSpec)) fnExactSpoolAddUptoCard

/-- THE SECOND FORM's CARD OF 'laws.FnExactNoteDo'. -/
def fnExactNoteDoUptoCard : Claim7 := { stood := { row := fnExactNoteDoUptoRow, standIns := [], harness := (true, "3e353411d899ad2c5eccd80bc91977f1fe91acd069d2e397132e68870fcb4a4c"), looks := false }, kinds := [], alts := [], laidByText := true, laidKinds := [.data, .pinned], laidTests := true, laidLooks := .later }
def FnExactNoteDoUptoCardSaid : Prop := Claim7.holds Tryz.pinned (.plain (OpenSpec.upto fnExactNoteDoSpec)) fnExactNoteDoUptoCard
end Rows
end Go.Proofs.YtndaghjcdacjgaaGreatDoor
