/-
  DERIVED. GIVEN WITH THE SEED: THE CARDS: each row of YtfimffgfnhplkaaGreatDoorRows.lean that lists a variable, with what it lists TIED to the program's text (the seventh form; the later family's looks); each row that meets fmt, with fmt's text TOLD by the authors' own Lean function (tested against real Go, not proved from fmt's source: count such statements apart). THE CARD IS WHAT COUNTS. Prove the row's statement (the work); the ties are given (YtfimffgfnhplkaaGreatDoorTie.lean); close each card by the builder's one call (the guide's Derived/Test/ToyasCard.lean, 'card_holds'). Laid BY PROGRAM, IN A SANDBOX (cutbox-door.mjs). By AI agents, Wed Nov 11 2026. No macro, syntax, notation, axiom, sorry.
-/
import Derived.Test.YtfimffgfnhplkaaGreatDoorRows
import GoSem.ClaimSeven
namespace Go.Proofs.YtfimffgfnhplkaaGreatDoor
namespace Rows

/-- THE TIED CARD OF 'erratumlaw20.DiffAll'. -/
def diffAllCard : Claim7 := { stood := { row := diffAllRow, standIns := [], harness := (true, "0466b77705afaf808a7cf768dca6fadb4deb5151c06bf3fb52d9c9d1e854d50f"), looks := true }, kinds := [], alts := [], laidByText := true, laidKinds := [.data, .data, .data, .data, .pinned], laidTests := true, laidLooks := .later }
def DiffAllCardSaid : Prop := Claim7.holds Tryz.pinned (.plain (OpenSpec.ofChange diffAllSpec)) diffAllCard

/-- THE TIED CARD OF 'erratumlaw20.DiffMakes'. -/
def diffMakesCard : Claim7 := { stood := { row := diffMakesRow, standIns := [], harness := (true, "0466b77705afaf808a7cf768dca6fadb4deb5151c06bf3fb52d9c9d1e854d50f"), looks := true }, kinds := [], alts := [], laidByText := true, laidKinds := [.data, .data, .data, .data, .pinned], laidTests := true, laidLooks := .later }
def DiffMakesCardSaid : Prop := Claim7.holds Tryz.pinned (.plain (OpenSpec.ofChange diffMakesSpec)) diffMakesCard

/-- THE TIED CARD OF 'erratumlaw20.DiffCans'. -/
def diffCansCard : Claim7 := { stood := { row := diffCansRow, standIns := [], harness := (true, "0466b77705afaf808a7cf768dca6fadb4deb5151c06bf3fb52d9c9d1e854d50f"), looks := true }, kinds := [], alts := [], laidByText := true, laidKinds := [.data, .data, .data, .data, .pinned], laidTests := true, laidLooks := .later }
def DiffCansCardSaid : Prop := Claim7.holds Tryz.pinned (.plain (OpenSpec.ofChange diffCansSpec)) diffCansCard

/-- THE TIED CARD OF 'erratumlaw20.DiffMerges'. -/
def diffMergesCard : Claim7 := { stood := { row := diffMergesRow, standIns := [], harness := (true, "0466b77705afaf808a7cf768dca6fadb4deb5151c06bf3fb52d9c9d1e854d50f"), looks := true }, kinds := [], alts := [], laidByText := true, laidKinds := [.data, .data, .data, .data, .pinned], laidTests := true, laidLooks := .later }
def DiffMergesCardSaid : Prop := Claim7.holds Tryz.pinned (.plain (OpenSpec.ofChange diffMergesSpec)) diffMergesCard

/-- THE TIED CARD OF 'erratumlaw20.DiffMasks'. -/
def diffMasksCard : Claim7 := { stood := { row := diffMasksRow, standIns := [], harness := (true, "0466b77705afaf808a7cf768dca6fadb4deb5151c06bf3fb52d9c9d1e854d50f"), looks := true }, kinds := [], alts := [], laidByText := true, laidKinds := [.data, .data, .data, .data, .pinned], laidTests := true, laidLooks := .later }
def DiffMasksCardSaid : Prop := Claim7.holds Tryz.pinned (.plain (OpenSpec.ofChange diffMasksSpec)) diffMasksCard

/-- THE TIED CARD OF 'erratumlaw20.DiffCosts'. -/
def diffCostsCard : Claim7 := { stood := { row := diffCostsRow, standIns := [], harness := (true, "0466b77705afaf808a7cf768dca6fadb4deb5151c06bf3fb52d9c9d1e854d50f"), looks := true }, kinds := [], alts := [], laidByText := true, laidKinds := [.data, .data, .data, .data, .pinned], laidTests := true, laidLooks := .later }
def DiffCostsCardSaid : Prop := Claim7.holds Tryz.pinned (.plain (OpenSpec.ofChange diffCostsSpec)) diffCostsCard

/-- THE SECOND FORM's CARD OF 'erratumlaw20.DiffAll'. -/
def diffAllUptoCard : Claim7 := { stood := { row := diffAllUptoRow, standIns := [], harness := (true, "0466b77705afaf808a7cf768dca6fadb4deb5151c06bf3fb52d9c9d1e854d50f"), looks := true }, kinds := [], alts := [], laidByText := true, laidKinds := [.data, .data, .data, .data, .pinned], laidTests := true, laidLooks := .later }
def DiffAllUptoCardSaid : Prop := Claim7.holds Tryz.pinned (.plain (OpenSpec.upto diffAllSpec)) diffAllUptoCard

/-- THE SECOND FORM's CARD OF 'erratumlaw20.DiffMakes'. -/
def diffMakesUptoCard : Claim7 := { stood := { row := diffMakesUptoRow, standIns := [], harness := (true, "0466b77705afaf808a7cf768dca6fadb4deb5151c06bf3fb52d9c9d1e854d50f"), looks := true }, kinds := [], alts := [], laidByText := true, laidKinds := [.data, .data, .data, .data, .pinned], laidTests := true, laidLooks := .later }
def DiffMakesUptoCardSaid : Prop := Claim7.holds Tryz.pinned (.plain (OpenSpec.upto diffMakesSpec)) diffMakesUptoCard

/-- THE SECOND FORM's CARD OF 'erratumlaw20.DiffCans'. -/
def diffCansUptoCard : Claim7 := { stood := { row := diffCansUptoRow, standIns := [], harness := (true, "0466b77705afaf808a7cf768dca6fadb4deb5151c06bf3fb52d9c9d1e854d50f"), looks := true }, kinds := [], alts := [], laidByText := true, laidKinds := [.data, .data, .data, .data, .pinned], laidTests := true, laidLooks := .later }
def DiffCansUptoCardSaid : Prop := Claim7.holds Tryz.pinned (.plain (OpenSpec.upto diffCansSpec)) diffCansUptoCard

/-- THE SECOND FORM's CARD OF 'erratumlaw20.DiffMerges'. -/
def diffMergesUptoCard : Claim7 := { stood := { row := diffMergesUptoRow, standIns := [], harness := (true, "0466b77705afaf808a7cf768dca6fadb4deb5151c06bf3fb52d9c9d1e854d50f"), looks := true }, kinds := [], alts := [], laidByText := true, laidKinds := [.data, .data, .data, .data, .pinned], laidTests := true, laidLooks := .later }
def DiffMergesUptoCardSaid : Prop := Claim7.holds Tryz.pinned (.plain (OpenSpec.upto diffMergesSpec)) diffMergesUptoCard

/-- THE SECOND FORM's CARD OF 'erratumlaw20.DiffMasks'. -/
def diffMasksUptoCard : Claim7 := { stood := { row := diffMasksUptoRow, standIns := [], harness := (true, "0466b77705afaf808a7cf768dca6fadb4deb5151c06bf3fb52d9c9d1e854d50f"), looks := true }, kinds := [], alts := [], laidByText := true, laidKinds := [.data, .data, .data, .data, .pinned], laidTests := true, laidLooks := .later }
def DiffMasksUptoCardSaid : Prop := Claim7.holds Tryz.pinned (.plain (OpenSpec.upto diffMasksSpec)) diffMasksUptoCard

/-- THE SECOND FORM's CARD OF 'erratumlaw20.DiffCosts'. -/
def diffCostsUptoCard : Claim7 := { stood := { row := diffCostsUptoRow, standIns := [], harness := (true, "0466b77705afaf808a7cf768dca6fadb4deb5151c06bf3fb52d9c9d1e854d50f"), looks := true }, kinds := [], alts := [], laidByText := true, laidKinds := [.data, .data, .data, .data, .pinned], laidTests := true, laidLooks := .later }
def DiffCostsUptoCardSaid : Prop := Claim7.holds Tryz.pinned (.plain (OpenSpec.upto diffCostsSpec)) diffCostsUptoCard
end Rows
end Go.Proofs.YtfimffgfnhplkaaGreatDoor
