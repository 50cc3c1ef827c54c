/-
  DERIVED. GIVEN WITH THE SEED: THE CARDS: each row of YtkdcifgnjdfdmaaGreatDoorRows.lean that lists a variable, with what it lists TIED to the program's text (the seventh form; the later family's looks); each row that meets fmt, with fmt's text TOLD by the authors' own Lean function (tested against real Go, not proved from fmt's source: count such statements apart). THE CARD IS WHAT COUNTS. Prove the row's statement (the work); the ties are given (YtkdcifgnjdfdmaaGreatDoorTie.lean); close each card by the builder's one call (the guide's Derived/Test/ToyasCard.lean, 'card_holds'). Laid BY PROGRAM, IN A SANDBOX (cutbox-door.mjs). By AI agents, Wed Nov 11 2026. No macro, syntax, notation, axiom, sorry.
-/
import Derived.Test.YtkdcifgnjdfdmaaGreatDoorRows
import GoSem.ClaimSeven
namespace Go.Proofs.YtkdcifgnjdfdmaaGreatDoor
namespace Rows

/-- THE TIED CARD OF 'cusplaw20.BlogApart'. -/
def blogApartCard : Claim7 := { stood := { row := blogApartRow, standIns := [], harness := (true, "c17d935cbd8d915157dbf0435aa70fdf3867c01e66c9f6a1413324fff673f735"), looks := false }, kinds := [], alts := [], laidByText := true, laidKinds := [.data], laidTests := true, laidLooks := .later }
def BlogApartCardSaid : Prop := Claim7.holds Tryz.pinned (.plain (OpenSpec.ofChange blogApartSpec)) blogApartCard

/-- THE TIED CARD OF 'cusplaw21.BtrigPeriods'. -/
def btrigPeriodsCard : Claim7 := { stood := { row := btrigPeriodsRow, standIns := [], harness := (true, "c17d935cbd8d915157dbf0435aa70fdf3867c01e66c9f6a1413324fff673f735"), looks := false }, kinds := [], alts := [], laidByText := true, laidKinds := [.data], laidTests := true, laidLooks := .later }
def BtrigPeriodsCardSaid : Prop := Claim7.holds Tryz.pinned (.plain (OpenSpec.ofChange btrigPeriodsSpec)) btrigPeriodsCard

/-- THE SECOND FORM's CARD OF 'cusplaw20.BlogApart'. -/
def blogApartUptoCard : Claim7 := { stood := { row := blogApartUptoRow, standIns := [], harness := (true, "c17d935cbd8d915157dbf0435aa70fdf3867c01e66c9f6a1413324fff673f735"), looks := false }, kinds := [], alts := [], laidByText := true, laidKinds := [.data], laidTests := true, laidLooks := .later }
def BlogApartUptoCardSaid : Prop := Claim7.holds Tryz.pinned (.plain (OpenSpec.upto blogApartSpec)) blogApartUptoCard

/-- THE SECOND FORM's CARD OF 'cusplaw21.BtrigPeriods'. -/
def btrigPeriodsUptoCard : Claim7 := { stood := { row := btrigPeriodsUptoRow, standIns := [], harness := (true, "c17d935cbd8d915157dbf0435aa70fdf3867c01e66c9f6a1413324fff673f735"), looks := false }, kinds := [], alts := [], laidByText := true, laidKinds := [.data], laidTests := true, laidLooks := .later }
def BtrigPeriodsUptoCardSaid : Prop := Claim7.holds Tryz.pinned (.plain (OpenSpec.upto btrigPeriodsSpec)) btrigPeriodsUptoCard
end Rows
end Go.Proofs.YtkdcifgnjdfdmaaGreatDoor
