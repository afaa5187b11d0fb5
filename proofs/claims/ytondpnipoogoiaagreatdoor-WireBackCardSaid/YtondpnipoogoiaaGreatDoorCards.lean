/-
  DERIVED. GIVEN WITH THE SEED: THE CARDS: each row of YtondpnipoogoiaaGreatDoorRows.lean that lists a variable, with what it lists TIED to the program's text (the seventh form; the later family's looks); each row that meets fmt, with fmt's text TOLD by the authors' own Lean function (tested against real Go, not proved from fmt's source: count such statements apart). THE CARD IS WHAT COUNTS. Prove the row's statement (the work); the ties are given (YtondpnipoogoiaaGreatDoorTie.lean); close each card by the builder's one call (the guide's Derived/Test/ToyasCard.lean, 'card_holds'). Laid BY PROGRAM, IN A SANDBOX (cutbox-door.mjs). By AI agents, Wed Nov 11 2026. No macro, syntax, notation, axiom, sorry.
-/
import Derived.Test.YtondpnipoogoiaaGreatDoorRows
import GoSem.ClaimSeven
namespace Go.Proofs.YtondpnipoogoiaaGreatDoor
namespace Rows

/-- THE TIED CARD OF 'erratumlaw18.WireBack'. -/
def wireBackCard : Claim7 := { stood := { row := wireBackRow, standIns := [], harness := (true, "ef8b394585f0ed45b2449f165286febb8790359a46e114701eb8e785b88876c5"), looks := true }, kinds := [], alts := [], laidByText := true, laidKinds := [.data, .pinned], laidTests := true, laidLooks := .later }
def WireBackCardSaid : Prop := Claim7.holds Tryz.pinned (.plain (OpenSpec.ofChange wireBackSpec)) wireBackCard

/-- THE TIED CARD OF 'erratumlaw18.WireStrict'. -/
def wireStrictCard : Claim7 := { stood := { row := wireStrictRow, standIns := [], harness := (true, "ef8b394585f0ed45b2449f165286febb8790359a46e114701eb8e785b88876c5"), looks := true }, kinds := [], alts := [], laidByText := true, laidKinds := [.data, .pinned], laidTests := true, laidLooks := .later }
def WireStrictCardSaid : Prop := Claim7.holds Tryz.pinned (.plain (OpenSpec.ofChange wireStrictSpec)) wireStrictCard

/-- THE TIED CARD OF 'erratumlaw17.MaskTakes'. -/
def maskTakesCard : Claim7 := { stood := { row := maskTakesRow, standIns := [], harness := (true, "ef8b394585f0ed45b2449f165286febb8790359a46e114701eb8e785b88876c5"), looks := true }, kinds := [], alts := [], laidByText := true, laidKinds := [.data, .pinned], laidTests := true, laidLooks := .later }
def MaskTakesCardSaid : Prop := Claim7.holds Tryz.pinned (.plain (OpenSpec.ofChange maskTakesSpec)) maskTakesCard

/-- THE TIED CARD OF 'erratumlaw17.MaskAll'. -/
def maskAllCard : Claim7 := { stood := { row := maskAllRow, standIns := [], harness := (true, "ef8b394585f0ed45b2449f165286febb8790359a46e114701eb8e785b88876c5"), looks := true }, kinds := [], alts := [], laidByText := true, laidKinds := [.data, .pinned], laidTests := true, laidLooks := .later }
def MaskAllCardSaid : Prop := Claim7.holds Tryz.pinned (.plain (OpenSpec.ofChange maskAllSpec)) maskAllCard

/-- THE TIED CARD OF 'erratumlaw17.MaskOrder'. -/
def maskOrderCard : Claim7 := { stood := { row := maskOrderRow, standIns := [], harness := (true, "ef8b394585f0ed45b2449f165286febb8790359a46e114701eb8e785b88876c5"), looks := true }, kinds := [], alts := [], laidByText := true, laidKinds := [.data, .pinned], laidTests := true, laidLooks := .later }
def MaskOrderCardSaid : Prop := Claim7.holds Tryz.pinned (.plain (OpenSpec.ofChange maskOrderSpec)) maskOrderCard

/-- THE TIED CARD OF 'erratumlaw17.MaskTexts'. -/
def maskTextsCard : Claim7 := { stood := { row := maskTextsRow, standIns := [], harness := (true, "ef8b394585f0ed45b2449f165286febb8790359a46e114701eb8e785b88876c5"), looks := true }, kinds := [], alts := [], laidByText := true, laidKinds := [.data, .pinned], laidTests := true, laidLooks := .later }
def MaskTextsCardSaid : Prop := Claim7.holds Tryz.pinned (.plain (OpenSpec.ofChange maskTextsSpec)) maskTextsCard

/-- THE TIED CARD OF 'erratumlaw18.WireAll'. -/
def wireAllCard : Claim7 := { stood := { row := wireAllRow, standIns := [], harness := (true, "ef8b394585f0ed45b2449f165286febb8790359a46e114701eb8e785b88876c5"), looks := true }, kinds := [], alts := [], laidByText := true, laidKinds := [.data, .pinned], laidTests := true, laidLooks := .later }
def WireAllCardSaid : Prop := Claim7.holds Tryz.pinned (.plain (OpenSpec.ofChange wireAllSpec)) wireAllCard

/-- THE SECOND FORM's CARD OF 'erratumlaw18.WireBack'. -/
def wireBackUptoCard : Claim7 := { stood := { row := wireBackUptoRow, standIns := [], harness := (true, "ef8b394585f0ed45b2449f165286febb8790359a46e114701eb8e785b88876c5"), looks := true }, kinds := [], alts := [], laidByText := true, laidKinds := [.data, .pinned], laidTests := true, laidLooks := .later }
def WireBackUptoCardSaid : Prop := Claim7.holds Tryz.pinned (.plain (OpenSpec.upto wireBackSpec)) wireBackUptoCard

/-- THE SECOND FORM's CARD OF 'erratumlaw18.WireStrict'. -/
def wireStrictUptoCard : Claim7 := { stood := { row := wireStrictUptoRow, standIns := [], harness := (true, "ef8b394585f0ed45b2449f165286febb8790359a46e114701eb8e785b88876c5"), looks := true }, kinds := [], alts := [], laidByText := true, laidKinds := [.data, .pinned], laidTests := true, laidLooks := .later }
def WireStrictUptoCardSaid : Prop := Claim7.holds Tryz.pinned (.plain (OpenSpec.upto wireStrictSpec)) wireStrictUptoCard

/-- THE SECOND FORM's CARD OF 'erratumlaw17.MaskTakes'. -/
def maskTakesUptoCard : Claim7 := { stood := { row := maskTakesUptoRow, standIns := [], harness := (true, "ef8b394585f0ed45b2449f165286febb8790359a46e114701eb8e785b88876c5"), looks := true }, kinds := [], alts := [], laidByText := true, laidKinds := [.data, .pinned], laidTests := true, laidLooks := .later }
def MaskTakesUptoCardSaid : Prop := Claim7.holds Tryz.pinned (.plain (OpenSpec.upto maskTakesSpec)) maskTakesUptoCard

/-- THE SECOND FORM's CARD OF 'erratumlaw17.MaskAll'. -/
def maskAllUptoCard : Claim7 := { stood := { row := maskAllUptoRow, standIns := [], harness := (true, "ef8b394585f0ed45b2449f165286febb8790359a46e114701eb8e785b88876c5"), looks := true }, kinds := [], alts := [], laidByText := true, laidKinds := [.data, .pinned], laidTests := true, laidLooks := .later }
def MaskAllUptoCardSaid : Prop := Claim7.holds Tryz.pinned (.plain (OpenSpec.upto maskAllSpec)) maskAllUptoCard

/-- THE SECOND FORM's CARD OF 'erratumlaw17.MaskOrder'. -/
def maskOrderUptoCard : Claim7 := { stood := { row := maskOrderUptoRow, standIns := [], harness := (true, "ef8b394585f0ed45b2449f165286febb8790359a46e114701eb8e785b88876c5"), looks := true }, kinds := [], alts := [], laidByText := true, laidKinds := [.data, .pinned], laidTests := true, laidLooks := .later }
def MaskOrderUptoCardSaid : Prop := Claim7.holds Tryz.pinned (.plain (OpenSpec.upto maskOrderSpec)) maskOrderUptoCard

/-- THE SECOND FORM's CARD OF 'erratumlaw17.MaskTexts'. -/
def maskTextsUptoCard : Claim7 := { stood := { row := maskTextsUptoRow, standIns := [], harness := (true, "ef8b394585f0ed45b2449f165286febb8790359a46e114701eb8e785b88876c5"), looks := true }, kinds := [], alts := [], laidByText := true, laidKinds := [.data, .pinned], laidTests := true, laidLooks := .later }
def MaskTextsUptoCardSaid : Prop := Claim7.holds Tryz.pinned (.plain (OpenSpec.upto maskTextsSpec)) maskTextsUptoCard

/-- THE SECOND FORM's CARD OF 'erratumlaw18.WireAll'. -/
def wireAllUptoCard : Claim7 := { stood := { row := wireAllUptoRow, standIns := [], harness := (true, "ef8b394585f0ed45b2449f165286febb8790359a46e114701eb8e785b88876c5"), looks := true }, kinds := [], alts := [], laidByText := true, laidKinds := [.data, .pinned], laidTests := true, laidLooks := .later }
def WireAllUptoCardSaid : Prop := Claim7.holds Tryz.pinned (.plain (OpenSpec.upto wireAllSpec)) wireAllUptoCard
end Rows
end Go.Proofs.YtondpnipoogoiaaGreatDoor
