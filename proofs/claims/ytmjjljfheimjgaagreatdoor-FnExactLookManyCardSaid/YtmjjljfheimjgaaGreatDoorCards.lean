/-
  DERIVED. GIVEN WITH THE SEED: THE CARDS: each row of YtmjjljfheimjgaaGreatDoorRows.lean that lists a variable, with what it lists TIED to the program's text (the seventh form; the later family's looks); each row that meets fmt, with fmt's text TOLD by the authors' own Lean function (tested against real Go, not proved from fmt's source: count such statements apart). THE CARD IS WHAT COUNTS. Prove the row's statement (the work); the ties are given (YtmjjljfheimjgaaGreatDoorTie.lean); close each card by the builder's one call (the guide's Derived/Test/ToyasCard.lean, 'card_holds'). Laid BY PROGRAM, IN A SANDBOX (cutbox-door.mjs). By AI agents, Wed Nov 11 2026. No macro, syntax, notation, axiom, sorry.
-/
import Derived.Test.YtmjjljfheimjgaaGreatDoorRows
import GoSem.ClaimSeven
namespace Go.Proofs.YtmjjljfheimjgaaGreatDoor
namespace Rows

/-- THE TIED CARD OF 'laws.FnExactHostOk'. -/
def fnExactHostOkCard : Claim7 := { stood := { row := fnExactHostOkRow, standIns := [], harness := (true, "d42210ba5777fb62ca489dcf3cbef0d7cd5ba030016f6de489b67ad55f12ea2b"), looks := false }, kinds := [], alts := [], laidByText := true, laidKinds := [.data, .pinned], laidTests := true, laidLooks := .later }
def FnExactHostOkCardSaid : Prop := Claim7.holds Tryz.pinned (.plain (OpenSpec.ofChange fnExactHostOkSpec)) fnExactHostOkCard

/-- THE TIED CARD OF 'laws.FnExactWorldOk'. -/
def fnExactWorldOkCard : Claim7 := { stood := { row := fnExactWorldOkRow, standIns := [], harness := (true, "d42210ba5777fb62ca489dcf3cbef0d7cd5ba030016f6de489b67ad55f12ea2b"), looks := false }, kinds := [], alts := [], laidByText := true, laidKinds := [.data, .pinned], laidTests := true, laidLooks := .later }
def FnExactWorldOkCardSaid : Prop := Claim7.holds Tryz.pinned (.plain (OpenSpec.ofChange fnExactWorldOkSpec)) fnExactWorldOkCard

/-- THE TIED CARD OF 'laws.FnExactLookMany'. -/
def fnExactLookManyCard : Claim7 := { stood := { row := fnExactLookManyRow, standIns := [], harness := (true, "d42210ba5777fb62ca489dcf3cbef0d7cd5ba030016f6de489b67ad55f12ea2b"), looks := false }, kinds := [], alts := [], laidByText := true, laidKinds := [.data, .pinned], laidTests := true, laidLooks := .later }
def FnExactLookManyCardSaid : Prop := Claim7.holds Tryz.pinned (.plain (OpenSpec.ofChange fnExactLookManySpec)) fnExactLookManyCard

/-- THE SECOND FORM's CARD OF 'laws.FnExactHostOk'. -/
def fnExactHostOkUptoCard : Claim7 := { stood := { row := fnExactHostOkUptoRow, standIns := [], harness := (true, "d42210ba5777fb62ca489dcf3cbef0d7cd5ba030016f6de489b67ad55f12ea2b"), looks := false }, kinds := [], alts := [], laidByText := true, laidKinds := [.data, .pinned], laidTests := true, laidLooks := .later }
def FnExactHostOkUptoCardSaid : Prop := Claim7.holds Tryz.pinned (.plain (OpenSpec.upto fnExactHostOkSpec)) fnExactHostOkUptoCard

/-- THE SECOND FORM's CARD OF 'laws.FnExactWorldOk'. -/
def fnExactWorldOkUptoCard : Claim7 := { stood := { row := fnExactWorldOkUptoRow, standIns := [], harness := (true, "d42210ba5777fb62ca489dcf3cbef0d7cd5ba030016f6de489b67ad55f12ea2b"), looks := false }, kinds := [], alts := [], laidByText := true, laidKinds := [.data, .pinned], laidTests := true, laidLooks := .later }
def FnExactWorldOkUptoCardSaid : Prop := Claim7.holds Tryz.pinned (.plain (OpenSpec.upto fnExactWorldOkSpec)) fnExactWorldOkUptoCard

/-- THE SECOND FORM's CARD OF 'laws.FnExactLookMany'. -/
def fnExactLookManyUptoCard : Claim7 := { stood := { row := fnExactLookManyUptoRow, standIns := [], harness := (true, "d42210ba5777fb62ca489dcf3cbef0d7cd5ba030016f6de489b67ad55f12ea2b"), looks := false }, kinds := [], alts := [], laidByText := true, laidKinds := [.data, .pinned], laidTests := true, laidLooks := .later }
def FnExactLookManyUptoCardSaid : Prop := Claim7.holds Tryz.pinned (.plain (OpenSpec.upto fnExactLookManySpec)) fnExactLookManyUptoCard
end Rows
end Go.Proofs.YtmjjljfheimjgaaGreatDoor
