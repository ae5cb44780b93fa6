/-
  DERIVED. GIVEN WITH THE SEED: THE CARDS: each row of YtakcecnegfihkaaGreatDoorRows.lean that lists a variable, with what it lists TIED to the program's text (the seventh form; the later family's looks); each row that meets fmt, with fmt's text TOLD by the authors' own Lean function (tested against real Go, not proved from fmt's source: count such statements apart). THE CARD IS WHAT COUNTS. Prove the row's statement (the work); the ties are given (YtakcecnegfihkaaGreatDoorTie.lean); close each card by the builder's one call (the guide's Derived/Test/ToyasCard.lean, 'card_holds'). Laid BY PROGRAM, IN A SANDBOX (cutbox-door.mjs). By AI agents, Wed Nov 11 2026. No macro, syntax, notation, axiom, sorry.
-/
import Derived.Test.YtakcecnegfihkaaGreatDoorRows
import GoSem.ClaimSeven
namespace Go.Proofs.YtakcecnegfihkaaGreatDoor
namespace Rows

/-- THE TIED CARD OF 'laws.FnExactHostTake'. -/
def fnExactHostTakeCard : Claim7 := { stood := { row := fnExactHostTakeRow, standIns := [], harness := (true, "528b632b73b8c2a6d57b8def4e7374fb713359a6c84bb53ab1df1fe899e1ebb1"), looks := false }, kinds := [], alts := [], laidByText := true, laidKinds := [.data, .pinned], laidTests := true, laidLooks := .later }
def FnExactHostTakeCardSaid : Prop := Claim7.holds Tryz.pinned (.plain (OpenSpec.ofChange fnExactHostTakeSpec)) fnExactHostTakeCard

/-- THE TIED CARD OF 'laws.FnExactHostOut'. -/
def fnExactHostOutCard : Claim7 := { stood := { row := fnExactHostOutRow, standIns := [], harness := (true, "528b632b73b8c2a6d57b8def4e7374fb713359a6c84bb53ab1df1fe899e1ebb1"), looks := false }, kinds := [], alts := [], laidByText := true, laidKinds := [.data, .pinned], laidTests := true, laidLooks := .later }
def FnExactHostOutCardSaid : Prop := Claim7.holds Tryz.pinned (.plain (OpenSpec.ofChange fnExactHostOutSpec)) fnExactHostOutCard

/-- THE TIED CARD OF 'laws.FnExactHostKeep'. -/
def fnExactHostKeepCard : Claim7 := { stood := { row := fnExactHostKeepRow, standIns := [], harness := (true, "528b632b73b8c2a6d57b8def4e7374fb713359a6c84bb53ab1df1fe899e1ebb1"), looks := false }, kinds := [], alts := [], laidByText := true, laidKinds := [.data, .pinned], laidTests := true, laidLooks := .later }
def FnExactHostKeepCardSaid : Prop := Claim7.holds Tryz.pinned (.plain (OpenSpec.ofChange fnExactHostKeepSpec)) fnExactHostKeepCard

/-- THE SECOND FORM's CARD OF 'laws.FnExactHostTake'. -/
def fnExactHostTakeUptoCard : Claim7 := { stood := { row := fnExactHostTakeUptoRow, standIns := [], harness := (true, "528b632b73b8c2a6d57b8def4e7374fb713359a6c84bb53ab1df1fe899e1ebb1"), looks := false }, kinds := [], alts := [], laidByText := true, laidKinds := [.data, .pinned], laidTests := true, laidLooks := .later }
def FnExactHostTakeUptoCardSaid : Prop := Claim7.holds Tryz.pinned (.plain (OpenSpec.upto fnExactHostTakeSpec)) fnExactHostTakeUptoCard

/-- THE SECOND FORM's CARD OF 'laws.FnExactHostOut'. -/
def fnExactHostOutUptoCard : Claim7 := { stood := { row := fnExactHostOutUptoRow, standIns := [], harness := (true, "528b632b73b8c2a6d57b8def4e7374fb713359a6c84bb53ab1df1fe899e1ebb1"), looks := false }, kinds := [], alts := [], laidByText := true, laidKinds := [.data, .pinned], laidTests := true, laidLooks := .later }
def FnExactHostOutUptoCardSaid : Prop := Claim7.holds Tryz.pinned (.plain (OpenSpec.upto fnExactHostOutSpec)) fnExactHostOutUptoCard

/-- THE SECOND FORM's CARD OF 'laws.FnExactHostKeep'. -/
def fnExactHostKeepUptoCard : Claim7 := { stood := { row := fnExactHostKeepUptoRow, standIns := [], harness := (true, "528b632b73b8c2a6d57b8def4e7374fb713359a6c84bb53ab1df1fe899e1ebb1"), looks := false }, kinds := [], alts := [], laidByText := true, laidKinds := [.data, .pinned], laidTests := true, laidLooks := .later }
def FnExactHostKeepUptoCardSaid : Prop := Claim7.holds Tryz.pinned (.plain (OpenSpec.upto fnExactHostKeepSpec)) fnExactHostKeepUptoCard
end Rows
end Go.Proofs.YtakcecnegfihkaaGreatDoor
