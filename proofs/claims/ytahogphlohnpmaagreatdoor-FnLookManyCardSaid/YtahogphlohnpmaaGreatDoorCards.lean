/-
  DERIVED. GIVEN WITH THE SEED: THE CARDS: each row of YtahogphlohnpmaaGreatDoorRows.lean that lists a variable, with what it lists TIED to the program's text (the seventh form; the later family's looks); each row that meets fmt, with fmt's text TOLD by the authors' own Lean function (tested against real Go, not proved from fmt's source: count such statements apart). THE CARD IS WHAT COUNTS. Prove the row's statement (the work); the ties are given (YtahogphlohnpmaaGreatDoorTie.lean); close each card by the builder's one call (the guide's Derived/Test/ToyasCard.lean, 'card_holds'). Laid BY PROGRAM, IN A SANDBOX (cutbox-door.mjs). By AI agents, Wed Nov 11 2026. No macro, syntax, notation, axiom, sorry.
-/
import Derived.Test.YtahogphlohnpmaaGreatDoorRows
import GoSem.ClaimSeven
namespace Go.Proofs.YtahogphlohnpmaaGreatDoor
namespace Rows

/-- THE TIED CARD OF 'laws.FnNoteDo'. -/
def fnNoteDoCard : Claim7 := { stood := { row := fnNoteDoRow, standIns := [], harness := (true, "9ef377efda368344b54f7d6b69c71ef1a7c21e6d078e6dd9e9e045559258cec5"), looks := false }, kinds := [], alts := [], laidByText := true, laidKinds := [.data, .pinned], laidTests := true, laidLooks := .later }
def FnNoteDoCardSaid : Prop := Claim7.holds Tryz.pinned (.plain (OpenSpec.ofChange fnNoteDoSpec)) fnNoteDoCard

/-- THE TIED CARD OF 'laws.FnWorldNew'. -/
def fnWorldNewCard : Claim7 := { stood := { row := fnWorldNewRow, standIns := [], harness := (true, "9ef377efda368344b54f7d6b69c71ef1a7c21e6d078e6dd9e9e045559258cec5"), looks := false }, kinds := [], alts := [], laidByText := true, laidKinds := [.data, .pinned], laidTests := true, laidLooks := .later }
def FnWorldNewCardSaid : Prop := Claim7.holds Tryz.pinned (.plain (OpenSpec.ofChange fnWorldNewSpec)) fnWorldNewCard

/-- THE TIED CARD OF 'laws.FnLookMany'. -/
def fnLookManyCard : Claim7 := { stood := { row := fnLookManyRow, standIns := [], harness := (true, "9ef377efda368344b54f7d6b69c71ef1a7c21e6d078e6dd9e9e045559258cec5"), looks := false }, kinds := [], alts := [], laidByText := true, laidKinds := [.data, .pinned], laidTests := true, laidLooks := .later }
def FnLookManyCardSaid : Prop := Claim7.holds Tryz.pinned (.plain (OpenSpec.ofChange fnLookManySpec)) fnLookManyCard

/-- THE SECOND FORM's CARD OF 'laws.FnNoteDo'. -/
def fnNoteDoUptoCard : Claim7 := { stood := { row := fnNoteDoUptoRow, standIns := [], harness := (true, "9ef377efda368344b54f7d6b69c71ef1a7c21e6d078e6dd9e9e045559258cec5"), looks := false }, kinds := [], alts := [], laidByText := true, laidKinds := [.data, .pinned], laidTests := true, laidLooks := .later }
def FnNoteDoUptoCardSaid : Prop := Claim7.holds Tryz.pinned (.plain (OpenSpec.upto fnNoteDoSpec)) fnNoteDoUptoCard

/-- THE SECOND FORM's CARD OF 'laws.FnWorldNew'. -/
def fnWorldNewUptoCard : Claim7 := { stood := { row := fnWorldNewUptoRow, standIns := [], harness := (true, "9ef377efda368344b54f7d6b69c71ef1a7c21e6d078e6dd9e9e045559258cec5"), looks := false }, kinds := [], alts := [], laidByText := true, laidKinds := [.data, .pinned], laidTests := true, laidLooks := .later }
def FnWorldNewUptoCardSaid : Prop := Claim7.holds Tryz.pinned (.plain (OpenSpec.upto fnWorldNewSpec)) fnWorldNewUptoCard

/-- THE SECOND FORM's CARD OF 'laws.FnLookMany'. -/
def fnLookManyUptoCard : Claim7 := { stood := { row := fnLookManyUptoRow, standIns := [], harness := (true, "9ef377efda368344b54f7d6b69c71ef1a7c21e6d078e6dd9e9e045559258cec5"), looks := false }, kinds := [], alts := [], laidByText := true, laidKinds := [.data, .pinned], laidTests := true, laidLooks := .later }
def FnLookManyUptoCardSaid : Prop := Claim7.holds Tryz.pinned (.plain (OpenSpec.upto fnLookManySpec)) fnLookManyUptoCard
end Rows
end Go.Proofs.YtahogphlohnpmaaGreatDoor
