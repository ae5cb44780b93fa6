/-
  DERIVED. GIVEN WITH THE SEED: THE CARDS: each row of YtcihecoggoeelaaGreatDoorRows.lean that lists a variable, with what it lists TIED to the program's text (the seventh form; the later family's looks); each row that meets fmt, with fmt's text TOLD by the authors' own Lean function (tested against real Go, not proved from fmt's source: count such statements apart). THE CARD IS WHAT COUNTS. Prove the row's statement (the work); the ties are given (YtcihecoggoeelaaGreatDoorTie.lean); close each card by the builder's one call (the guide's Derived/Test/ToyasCard.lean, 'card_holds'). Laid BY PROGRAM, IN A SANDBOX (cutbox-door.mjs). By AI agents, Wed Nov 11 2026. No macro, syntax, notation, axiom, sorry.
-/
import Derived.Test.YtcihecoggoeelaaGreatDoorRows
import GoSem.ClaimSeven
namespace Go.Proofs.YtcihecoggoeelaaGreatDoor
namespace Rows

/-- THE TIED CARD OF 'laws.FnHostPart'. -/
def fnHostPartCard : Claim7 := { stood := { row := fnHostPartRow, standIns := [], harness := (true, "e65c52fe36e74be959a1a8dbe3ef18ad8f75f4fe9bb01663440e164385592bd3"), looks := false }, kinds := [], alts := [], laidByText := true, laidKinds := [.data, .pinned], laidTests := true, laidLooks := .later }
def FnHostPartCardSaid : Prop := Claim7.holds Tryz.pinned (.plain (OpenSpec.ofChange fnHostPartSpec)) fnHostPartCard

/-- THE TIED CARD OF 'laws.FnLookBox'. -/
def fnLookBoxCard : Claim7 := { stood := { row := fnLookBoxRow, standIns := [], harness := (true, "e65c52fe36e74be959a1a8dbe3ef18ad8f75f4fe9bb01663440e164385592bd3"), looks := false }, kinds := [], alts := [], laidByText := true, laidKinds := [.data, .pinned], laidTests := true, laidLooks := .later }
def FnLookBoxCardSaid : Prop := Claim7.holds Tryz.pinned (.plain (OpenSpec.ofChange fnLookBoxSpec)) fnLookBoxCard

/-- THE TIED CARD OF 'laws.FnHostTake'. -/
def fnHostTakeCard : Claim7 := { stood := { row := fnHostTakeRow, standIns := [], harness := (true, "e65c52fe36e74be959a1a8dbe3ef18ad8f75f4fe9bb01663440e164385592bd3"), looks := false }, kinds := [], alts := [], laidByText := true, laidKinds := [.data, .pinned], laidTests := true, laidLooks := .later }
def FnHostTakeCardSaid : Prop := Claim7.holds Tryz.pinned (.plain (OpenSpec.ofChange fnHostTakeSpec)) fnHostTakeCard

/-- THE SECOND FORM's CARD OF 'laws.FnHostPart'. -/
def fnHostPartUptoCard : Claim7 := { stood := { row := fnHostPartUptoRow, standIns := [], harness := (true, "e65c52fe36e74be959a1a8dbe3ef18ad8f75f4fe9bb01663440e164385592bd3"), looks := false }, kinds := [], alts := [], laidByText := true, laidKinds := [.data, .pinned], laidTests := true, laidLooks := .later }
def FnHostPartUptoCardSaid : Prop := Claim7.holds Tryz.pinned (.plain (OpenSpec.upto fnHostPartSpec)) fnHostPartUptoCard

/-- THE SECOND FORM's CARD OF 'laws.FnLookBox'. -/
def fnLookBoxUptoCard : Claim7 := { stood := { row := fnLookBoxUptoRow, standIns := [], harness := (true, "e65c52fe36e74be959a1a8dbe3ef18ad8f75f4fe9bb01663440e164385592bd3"), looks := false }, kinds := [], alts := [], laidByText := true, laidKinds := [.data, .pinned], laidTests := true, laidLooks := .later }
def FnLookBoxUptoCardSaid : Prop := Claim7.holds Tryz.pinned (.plain (OpenSpec.upto fnLookBoxSpec)) fnLookBoxUptoCard

/-- THE SECOND FORM's CARD OF 'laws.FnHostTake'. -/
def fnHostTakeUptoCard : Claim7 := { stood := { row := fnHostTakeUptoRow, standIns := [], harness := (true, "e65c52fe36e74be959a1a8dbe3ef18ad8f75f4fe9bb01663440e164385592bd3"), looks := false }, kinds := [], alts := [], laidByText := true, laidKinds := [.data, .pinned], laidTests := true, laidLooks := .later }
def FnHostTakeUptoCardSaid : Prop := Claim7.holds Tryz.pinned (.plain (OpenSpec.upto fnHostTakeSpec)) fnHostTakeUptoCard
end Rows
end Go.Proofs.YtcihecoggoeelaaGreatDoor
