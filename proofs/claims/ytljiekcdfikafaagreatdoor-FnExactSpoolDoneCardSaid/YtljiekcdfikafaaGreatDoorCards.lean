/-
  DERIVED. GIVEN WITH THE SEED: THE CARDS: each row of YtljiekcdfikafaaGreatDoorRows.lean that lists a variable, with what it lists TIED to the program's text (the seventh form; the later family's looks); each row that meets fmt, with fmt's text TOLD by the authors' own Lean function (tested against real Go, not proved from fmt's source: count such statements apart). THE CARD IS WHAT COUNTS. Prove the row's statement (the work); the ties are given (YtljiekcdfikafaaGreatDoorTie.lean); close each card by the builder's one call (the guide's Derived/Test/ToyasCard.lean, 'card_holds'). Laid BY PROGRAM, IN A SANDBOX (cutbox-door.mjs). By AI agents, Wed Nov 11 2026. No macro, syntax, notation, axiom, sorry.
-/
import Derived.Test.YtljiekcdfikafaaGreatDoorRows
import GoSem.ClaimSeven
namespace Go.Proofs.YtljiekcdfikafaaGreatDoor
namespace Rows

/-- THE TIED CARD OF 'laws.FnExactSieveDo'. -/
def fnExactSieveDoCard : Claim7 := { stood := { row := fnExactSieveDoRow, standIns := [], harness := (true, "f2204eed6d0736f7b6b48cb70e325032aea6ba30450d67623a21ca3494c21ead"), looks := false }, kinds := [], alts := [], laidByText := true, laidKinds := [.data, .pinned], laidTests := true, laidLooks := .later }
def FnExactSieveDoCardSaid : Prop := Claim7.holds Tryz.pinned (.plain (OpenSpec.ofChange fnExactSieveDoSpec)) fnExactSieveDoCard

/-- THE TIED CARD OF 'laws.FnExactSpoolDone'. -/
def fnExactSpoolDoneCard : Claim7 := { stood := { row := fnExactSpoolDoneRow, standIns := [], harness := (true, "f2204eed6d0736f7b6b48cb70e325032aea6ba30450d67623a21ca3494c21ead"), looks := false }, kinds := [], alts := [], laidByText := true, laidKinds := [.data, .pinned], laidTests := true, laidLooks := .later }
def FnExactSpoolDoneCardSaid : Prop := Claim7.holds Tryz.pinned (.plain (OpenSpec.ofChange fnExactSpoolDoneSpec)) fnExactSpoolDoneCard

/-- THE TIED CARD OF 'laws.FnExactSpoolLater'. -/
def fnExactSpoolLaterCard : Claim7 := { stood := { row := fnExactSpoolLaterRow, standIns := [], harness := (true, "f2204eed6d0736f7b6b48cb70e325032aea6ba30450d67623a21ca3494c21ead"), looks := false }, kinds := [], alts := [], laidByText := true, laidKinds := [.data, .pinned], laidTests := true, laidLooks := .later }
def FnExactSpoolLaterCardSaid : Prop := Claim7.holds Tryz.pinned (.plain (OpenSpec.ofChange fnExactSpoolLaterSpec)) fnExactSpoolLaterCard

/-- THE SECOND FORM's CARD OF 'laws.FnExactSieveDo'. -/
def fnExactSieveDoUptoCard : Claim7 := { stood := { row := fnExactSieveDoUptoRow, standIns := [], harness := (true, "f2204eed6d0736f7b6b48cb70e325032aea6ba30450d67623a21ca3494c21ead"), looks := false }, kinds := [], alts := [], laidByText := true, laidKinds := [.data, .pinned], laidTests := true, laidLooks := .later }
def FnExactSieveDoUptoCardSaid : Prop := Claim7.holds Tryz.pinned (.plain (OpenSpec.upto fnExactSieveDoSpec)) fnExactSieveDoUptoCard

/-- THE SECOND FORM's CARD OF 'laws.FnExactSpoolDone'. -/
def fnExactSpoolDoneUptoCard : Claim7 := { stood := { row := fnExactSpoolDoneUptoRow, standIns := [], harness := (true, "f2204eed6d0736f7b6b48cb70e325032aea6ba30450d67623a21ca3494c21ead"), looks := false }, kinds := [], alts := [], laidByText := true, laidKinds := [.data, .pinned], laidTests := true, laidLooks := .later }
def FnExactSpoolDoneUptoCardSaid : Prop := Claim7.holds Tryz.pinned (.plain (OpenSpec.upto fnExactSpoolDoneSpec)) fnExactSpoolDoneUptoCard

/-- THE SECOND FORM's CARD OF 'laws.FnExactSpoolLater'. -/
def fnExactSpoolLaterUptoCard : Claim7 := { stood := { row := fnExactSpoolLaterUptoRow, standIns := [], harness := (true, "f2204eed6d0736f7b6b48cb70e325032aea6ba30450d67623a21ca3494c21ead"), looks := false }, kinds := [], alts := [], laidByText := true, laidKinds := [.data, .pinned], laidTests := true, laidLooks := .later }
def FnExactSpoolLaterUptoCardSaid : Prop := Claim7.holds Tryz.pinned (.plain (OpenSpec.upto fnExactSpoolLaterSpec)) fnExactSpoolLaterUptoCard
end Rows
end Go.Proofs.YtljiekcdfikafaaGreatDoor
