/-
  DERIVED. GIVEN WITH THE SEED: THE CARDS: each row of YtniaalhdkippdaaGreatDoorRows.lean that lists a variable, with what it lists TIED to the program's text (the seventh form; the later family's looks); each row that meets fmt, with fmt's text TOLD by the authors' own Lean function (tested against real Go, not proved from fmt's source: count such statements apart). THE CARD IS WHAT COUNTS. Prove the row's statement (the work); the ties are given (YtniaalhdkippdaaGreatDoorTie.lean); close each card by the builder's one call (the guide's Derived/Test/ToyasCard.lean, 'card_holds'). Laid BY PROGRAM, IN A SANDBOX (cutbox-door.mjs). By AI agents, Wed Nov 11 2026. No macro, syntax, notation, axiom, sorry.
-/
import Derived.Test.YtniaalhdkippdaaGreatDoorRows
import GoSem.ClaimSeven
namespace Go.Proofs.YtniaalhdkippdaaGreatDoor
namespace Rows

/-- THE TIED CARD OF 'laws.FnExactLookWay'. -/
def fnExactLookWayCard : Claim7 := { stood := { row := fnExactLookWayRow, standIns := [], harness := (true, "bb0e74cf1f684176968b99ef6c13c915f178ed165993f258ed865ca7cbf430fc"), looks := false }, kinds := [], alts := [], laidByText := true, laidKinds := [.data, .pinned], laidTests := true, laidLooks := .later }
def FnExactLookWayCardSaid : Prop := Claim7.holds Tryz.pinned (.plain (OpenSpec.ofChange fnExactLookWaySpec)) fnExactLookWayCard

/-- THE TIED CARD OF 'laws.FnExactWorldNew'. -/
def fnExactWorldNewCard : Claim7 := { stood := { row := fnExactWorldNewRow, standIns := [], harness := (true, "bb0e74cf1f684176968b99ef6c13c915f178ed165993f258ed865ca7cbf430fc"), looks := false }, kinds := [], alts := [], laidByText := true, laidKinds := [.data, .pinned], laidTests := true, laidLooks := .later }
def FnExactWorldNewCardSaid : Prop := Claim7.holds Tryz.pinned (.plain (OpenSpec.ofChange fnExactWorldNewSpec)) fnExactWorldNewCard

/-- THE TIED CARD OF 'laws.FnExactHostPart'. -/
def fnExactHostPartCard : Claim7 := { stood := { row := fnExactHostPartRow, standIns := [], harness := (true, "bb0e74cf1f684176968b99ef6c13c915f178ed165993f258ed865ca7cbf430fc"), looks := false }, kinds := [], alts := [], laidByText := true, laidKinds := [.data, .pinned], laidTests := true, laidLooks := .later }
def FnExactHostPartCardSaid : Prop := Claim7.holds Tryz.pinned (.plain (OpenSpec.ofChange fnExactHostPartSpec)) fnExactHostPartCard

/-- THE SECOND FORM's CARD OF 'laws.FnExactLookWay'. -/
def fnExactLookWayUptoCard : Claim7 := { stood := { row := fnExactLookWayUptoRow, standIns := [], harness := (true, "bb0e74cf1f684176968b99ef6c13c915f178ed165993f258ed865ca7cbf430fc"), looks := false }, kinds := [], alts := [], laidByText := true, laidKinds := [.data, .pinned], laidTests := true, laidLooks := .later }
def FnExactLookWayUptoCardSaid : Prop := Claim7.holds Tryz.pinned (.plain (OpenSpec.upto fnExactLookWaySpec)) fnExactLookWayUptoCard

/-- THE SECOND FORM's CARD OF 'laws.FnExactWorldNew'. -/
def fnExactWorldNewUptoCard : Claim7 := { stood := { row := fnExactWorldNewUptoRow, standIns := [], harness := (true, "bb0e74cf1f684176968b99ef6c13c915f178ed165993f258ed865ca7cbf430fc"), looks := false }, kinds := [], alts := [], laidByText := true, laidKinds := [.data, .pinned], laidTests := true, laidLooks := .later }
def FnExactWorldNewUptoCardSaid : Prop := Claim7.holds Tryz.pinned (.plain (OpenSpec.upto fnExactWorldNewSpec)) fnExactWorldNewUptoCard

/-- THE SECOND FORM's CARD OF 'laws.FnExactHostPart'. -/
def fnExactHostPartUptoCard : Claim7 := { stood := { row := fnExactHostPartUptoRow, standIns := [], harness := (true, "bb0e74cf1f684176968b99ef6c13c915f178ed165993f258ed865ca7cbf430fc"), looks := false }, kinds := [], alts := [], laidByText := true, laidKinds := [.data, .pinned], laidTests := true, laidLooks := .later }
def FnExactHostPartUptoCardSaid : Prop := Claim7.holds Tryz.pinned (.plain (OpenSpec.upto fnExactHostPartSpec)) fnExactHostPartUptoCard
end Rows
end Go.Proofs.YtniaalhdkippdaaGreatDoor
