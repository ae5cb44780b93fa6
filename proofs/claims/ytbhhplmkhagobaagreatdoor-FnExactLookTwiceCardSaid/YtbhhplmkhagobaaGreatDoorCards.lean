/-
  DERIVED. GIVEN WITH THE SEED: THE CARDS: each row of YtbhhplmkhagobaaGreatDoorRows.lean that lists a variable, with what it lists TIED to the program's text (the seventh form; the later family's looks); each row that meets fmt, with fmt's text TOLD by the authors' own Lean function (tested against real Go, not proved from fmt's source: count such statements apart). THE CARD IS WHAT COUNTS. Prove the row's statement (the work); the ties are given (YtbhhplmkhagobaaGreatDoorTie.lean); close each card by the builder's one call (the guide's Derived/Test/ToyasCard.lean, 'card_holds'). Laid BY PROGRAM, IN A SANDBOX (cutbox-door.mjs). By AI agents, Wed Nov 11 2026. No macro, syntax, notation, axiom, sorry.
-/
import Derived.Test.YtbhhplmkhagobaaGreatDoorRows
import GoSem.ClaimSeven
namespace Go.Proofs.YtbhhplmkhagobaaGreatDoor
namespace Rows

/-- THE TIED CARD OF 'laws.FnExactLookBox'. -/
def fnExactLookBoxCard : Claim7 := { stood := { row := fnExactLookBoxRow, standIns := [], harness := (true, "339937d83054436acd0bebd592fdd847ad4129fb94575ab25cad8e0573ee809c"), looks := false }, kinds := [], alts := [], laidByText := true, laidKinds := [.data, .pinned], laidTests := true, laidLooks := .later }
def FnExactLookBoxCardSaid : Prop := Claim7.holds Tryz.pinned (.plain (OpenSpec.ofChange fnExactLookBoxSpec)) fnExactLookBoxCard

/-- THE TIED CARD OF 'laws.FnExactWorldKept'. -/
def fnExactWorldKeptCard : Claim7 := { stood := { row := fnExactWorldKeptRow, standIns := [], harness := (true, "339937d83054436acd0bebd592fdd847ad4129fb94575ab25cad8e0573ee809c"), looks := false }, kinds := [], alts := [], laidByText := true, laidKinds := [.data, .pinned], laidTests := true, laidLooks := .later }
def FnExactWorldKeptCardSaid : Prop := Claim7.holds Tryz.pinned (.plain (OpenSpec.ofChange fnExactWorldKeptSpec)) fnExactWorldKeptCard

/-- THE TIED CARD OF 'laws.FnExactLookTwice'. -/
def fnExactLookTwiceCard : Claim7 := { stood := { row := fnExactLookTwiceRow, standIns := [], harness := (true, "339937d83054436acd0bebd592fdd847ad4129fb94575ab25cad8e0573ee809c"), looks := false }, kinds := [], alts := [], laidByText := true, laidKinds := [.data, .pinned], laidTests := true, laidLooks := .later }
def FnExactLookTwiceCardSaid : Prop := Claim7.holds Tryz.pinned (.plain (OpenSpec.ofChange fnExactLookTwiceSpec)) fnExactLookTwiceCard

/-- THE SECOND FORM's CARD OF 'laws.FnExactLookBox'. -/
def fnExactLookBoxUptoCard : Claim7 := { stood := { row := fnExactLookBoxUptoRow, standIns := [], harness := (true, "339937d83054436acd0bebd592fdd847ad4129fb94575ab25cad8e0573ee809c"), looks := false }, kinds := [], alts := [], laidByText := true, laidKinds := [.data, .pinned], laidTests := true, laidLooks := .later }
def FnExactLookBoxUptoCardSaid : Prop := Claim7.holds Tryz.pinned (.plain (OpenSpec.upto fnExactLookBoxSpec)) fnExactLookBoxUptoCard

/-- THE SECOND FORM's CARD OF 'laws.FnExactWorldKept'. -/
def fnExactWorldKeptUptoCard : Claim7 := { stood := { row := fnExactWorldKeptUptoRow, standIns := [], harness := (true, "339937d83054436acd0bebd592fdd847ad4129fb94575ab25cad8e0573ee809c"), looks := false }, kinds := [], alts := [], laidByText := true, laidKinds := [.data, .pinned], laidTests := true, laidLooks := .later }
def FnExactWorldKeptUptoCardSaid : Prop := Claim7.holds Tryz.pinned (.plain (OpenSpec.upto fnExactWorldKeptSpec)) fnExactWorldKeptUptoCard

/-- THE SECOND FORM's CARD OF 'laws.FnExactLookTwice'. -/
def fnExactLookTwiceUptoCard : Claim7 := { stood := { row := fnExactLookTwiceUptoRow, standIns := [], harness := (true, "339937d83054436acd0bebd592fdd847ad4129fb94575ab25cad8e0573ee809c"), looks := false }, kinds := [], alts := [], laidByText := true, laidKinds := [.data, .pinned], laidTests := true, laidLooks := .later }
def FnExactLookTwiceUptoCardSaid : Prop := Claim7.holds Tryz.pinned (.plain (OpenSpec.upto fnExactLookTwiceSpec)) fnExactLookTwiceUptoCard
end Rows
end Go.Proofs.YtbhhplmkhagobaaGreatDoor
