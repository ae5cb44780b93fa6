/-
  DERIVED. GIVEN WITH THE SEED: THE CARDS: each row of YthmjinhpngfdbaaGreatDoorRows.lean that lists a variable, with what it lists TIED to the program's text (the seventh form; the later family's looks); each row that meets fmt, with fmt's text TOLD by the authors' own Lean function (tested against real Go, not proved from fmt's source: count such statements apart). THE CARD IS WHAT COUNTS. Prove the row's statement (the work); the ties are given (YthmjinhpngfdbaaGreatDoorTie.lean); close each card by the builder's one call (the guide's Derived/Test/ToyasCard.lean, 'card_holds'). Laid BY PROGRAM, IN A SANDBOX (cutbox-door.mjs). By AI agents, Wed Nov 11 2026. No macro, syntax, notation, axiom, sorry.
-/
import Derived.Test.YthmjinhpngfdbaaGreatDoorRows
import GoSem.ClaimSeven
namespace Go.Proofs.YthmjinhpngfdbaaGreatDoor
namespace Rows

/-- THE TIED CARD OF 'laws.FnHostOut'. -/
def fnHostOutCard : Claim7 := { stood := { row := fnHostOutRow, standIns := [], harness := (true, "0e58db6015b265660ffae71dca7c136d89fa0bbee73f4e8f9f491e008e11554d"), looks := false }, kinds := [], alts := [], laidByText := true, laidKinds := [.data, .pinned], laidTests := true, laidLooks := .later }
def FnHostOutCardSaid : Prop := Claim7.holds Tryz.pinned (.plain (OpenSpec.ofChange fnHostOutSpec)) fnHostOutCard

/-- THE TIED CARD OF 'laws.FnKeptLook'. -/
def fnKeptLookCard : Claim7 := { stood := { row := fnKeptLookRow, standIns := [], harness := (true, "0e58db6015b265660ffae71dca7c136d89fa0bbee73f4e8f9f491e008e11554d"), looks := false }, kinds := [], alts := [], laidByText := true, laidKinds := [.data, .pinned], laidTests := true, laidLooks := .later }
def FnKeptLookCardSaid : Prop := Claim7.holds Tryz.pinned (.plain (OpenSpec.ofChange fnKeptLookSpec)) fnKeptLookCard

/-- THE TIED CARD OF 'laws.FnHostKeep'. -/
def fnHostKeepCard : Claim7 := { stood := { row := fnHostKeepRow, standIns := [], harness := (true, "0e58db6015b265660ffae71dca7c136d89fa0bbee73f4e8f9f491e008e11554d"), looks := false }, kinds := [], alts := [], laidByText := true, laidKinds := [.data, .pinned], laidTests := true, laidLooks := .later }
def FnHostKeepCardSaid : Prop := Claim7.holds Tryz.pinned (.plain (OpenSpec.ofChange fnHostKeepSpec)) fnHostKeepCard

/-- THE SECOND FORM's CARD OF 'laws.FnHostOut'. -/
def fnHostOutUptoCard : Claim7 := { stood := { row := fnHostOutUptoRow, standIns := [], harness := (true, "0e58db6015b265660ffae71dca7c136d89fa0bbee73f4e8f9f491e008e11554d"), looks := false }, kinds := [], alts := [], laidByText := true, laidKinds := [.data, .pinned], laidTests := true, laidLooks := .later }
def FnHostOutUptoCardSaid : Prop := Claim7.holds Tryz.pinned (.plain (OpenSpec.upto fnHostOutSpec)) fnHostOutUptoCard

/-- THE SECOND FORM's CARD OF 'laws.FnKeptLook'. -/
def fnKeptLookUptoCard : Claim7 := { stood := { row := fnKeptLookUptoRow, standIns := [], harness := (true, "0e58db6015b265660ffae71dca7c136d89fa0bbee73f4e8f9f491e008e11554d"), looks := false }, kinds := [], alts := [], laidByText := true, laidKinds := [.data, .pinned], laidTests := true, laidLooks := .later }
def FnKeptLookUptoCardSaid : Prop := Claim7.holds Tryz.pinned (.plain (OpenSpec.upto fnKeptLookSpec)) fnKeptLookUptoCard

/-- THE SECOND FORM's CARD OF 'laws.FnHostKeep'. -/
def fnHostKeepUptoCard : Claim7 := { stood := { row := fnHostKeepUptoRow, standIns := [], harness := (true, "0e58db6015b265660ffae71dca7c136d89fa0bbee73f4e8f9f491e008e11554d"), looks := false }, kinds := [], alts := [], laidByText := true, laidKinds := [.data, .pinned], laidTests := true, laidLooks := .later }
def FnHostKeepUptoCardSaid : Prop := Claim7.holds Tryz.pinned (.plain (OpenSpec.upto fnHostKeepSpec)) fnHostKeepUptoCard
end Rows
end Go.Proofs.YthmjinhpngfdbaaGreatDoor
