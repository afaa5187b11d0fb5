/-
  DERIVED. GIVEN WITH THE SEED: THE CARDS: each row of YtmkdcokdilllcaaDoorRows.lean that lists a variable, with what it lists TIED to the program's text (the seventh form; the later family's looks); each row that meets fmt, with fmt's text TOLD by the authors' own Lean function (tested against real Go, not proved from fmt's source: count such statements apart). THE CARD IS WHAT COUNTS. Prove the row's statement (the work); the ties are given (YtmkdcokdilllcaaDoorTie.lean); close each card by the builder's one call (the guide's Derived/Test/ToyasCard.lean, 'card_holds'). Laid BY PROGRAM, IN A SANDBOX (cutbox-door.mjs). By AI agents, Wed Nov 11 2026. No macro, syntax, notation, axiom, sorry.
-/
import Derived.Test.YtmkdcokdilllcaaDoorRows
import GoSem.ClaimSeven
namespace Go.Proofs.YtmkdcokdilllcaaDoor
namespace Rows

/-- THE TIED CARD OF 'erratumlaw02.NumTexts'. -/
def numTextsCard : Claim7 := { stood := { row := numTextsRow, standIns := [], harness := (true, "2d4efa42c32deef6b400e9fcef5178cbb08d00aaba8007cee89dc5900d2eea87"), looks := true }, kinds := [], alts := [], laidByText := true, laidKinds := [.data, .data, .data, .data, .sentinel, .sentinel, .pinned], laidTests := true, laidLooks := .later }
def NumTextsCardSaid : Prop := Claim7.holds Tryd.pinned (.plain (OpenSpec.ofChange numTextsSpec)) numTextsCard

/-- THE TIED CARD OF 'erratumlaw02.NumBack'. -/
def numBackCard : Claim7 := { stood := { row := numBackRow, standIns := [], harness := (true, "2d4efa42c32deef6b400e9fcef5178cbb08d00aaba8007cee89dc5900d2eea87"), looks := true }, kinds := [], alts := [], laidByText := true, laidKinds := [.data, .data, .data, .data, .sentinel, .sentinel, .pinned], laidTests := true, laidLooks := .later }
def NumBackCardSaid : Prop := Claim7.holds Tryd.pinned (.plain (OpenSpec.ofChange numBackSpec)) numBackCard

/-- THE TIED CARD OF 'erratumlaw02.NumWrong'. -/
def numWrongCard : Claim7 := { stood := { row := numWrongRow, standIns := [], harness := (true, "2d4efa42c32deef6b400e9fcef5178cbb08d00aaba8007cee89dc5900d2eea87"), looks := true }, kinds := [], alts := [], laidByText := true, laidKinds := [.data, .data, .data, .data, .sentinel, .sentinel, .pinned], laidTests := true, laidLooks := .later }
def NumWrongCardSaid : Prop := Claim7.holds Tryd.pinned (.plain (OpenSpec.ofChange numWrongSpec)) numWrongCard

/-- THE TIED CARD OF 'erratumlaw02.NumRooms'. -/
def numRoomsCard : Claim7 := { stood := { row := numRoomsRow, standIns := [], harness := (true, "2d4efa42c32deef6b400e9fcef5178cbb08d00aaba8007cee89dc5900d2eea87"), looks := true }, kinds := [], alts := [], laidByText := true, laidKinds := [.data, .data, .data, .data, .sentinel, .sentinel, .pinned], laidTests := true, laidLooks := .later }
def NumRoomsCardSaid : Prop := Claim7.holds Tryd.pinned (.plain (OpenSpec.ofChange numRoomsSpec)) numRoomsCard

/-- THE TIED CARD OF 'erratumlaw02.NumOrders'. -/
def numOrdersCard : Claim7 := { stood := { row := numOrdersRow, standIns := [], harness := (true, "2d4efa42c32deef6b400e9fcef5178cbb08d00aaba8007cee89dc5900d2eea87"), looks := true }, kinds := [], alts := [], laidByText := true, laidKinds := [.data, .data, .data, .data, .sentinel, .sentinel, .pinned], laidTests := true, laidLooks := .later }
def NumOrdersCardSaid : Prop := Claim7.holds Tryd.pinned (.plain (OpenSpec.ofChange numOrdersSpec)) numOrdersCard

/-- THE TIED CARD OF 'erratumlaw02.NumInts'. -/
def numIntsCard : Claim7 := { stood := { row := numIntsRow, standIns := [], harness := (true, "2d4efa42c32deef6b400e9fcef5178cbb08d00aaba8007cee89dc5900d2eea87"), looks := true }, kinds := [], alts := [], laidByText := true, laidKinds := [.data, .data, .data, .data, .sentinel, .sentinel, .pinned], laidTests := true, laidLooks := .later }
def NumIntsCardSaid : Prop := Claim7.holds Tryd.pinned (.plain (OpenSpec.ofChange numIntsSpec)) numIntsCard

/-- THE SECOND FORM's CARD OF 'erratumlaw02.NumTexts'. -/
def numTextsUptoCard : Claim7 := { stood := { row := numTextsUptoRow, standIns := [], harness := (true, "2d4efa42c32deef6b400e9fcef5178cbb08d00aaba8007cee89dc5900d2eea87"), looks := true }, kinds := [], alts := [], laidByText := true, laidKinds := [.data, .data, .data, .data, .sentinel, .sentinel, .pinned], laidTests := true, laidLooks := .later }
def NumTextsUptoCardSaid : Prop := Claim7.holds Tryd.pinned (.plain (OpenSpec.upto numTextsSpec)) numTextsUptoCard

/-- THE SECOND FORM's CARD OF 'erratumlaw02.NumBack'. -/
def numBackUptoCard : Claim7 := { stood := { row := numBackUptoRow, standIns := [], harness := (true, "2d4efa42c32deef6b400e9fcef5178cbb08d00aaba8007cee89dc5900d2eea87"), looks := true }, kinds := [], alts := [], laidByText := true, laidKinds := [.data, .data, .data, .data, .sentinel, .sentinel, .pinned], laidTests := true, laidLooks := .later }
def NumBackUptoCardSaid : Prop := Claim7.holds Tryd.pinned (.plain (OpenSpec.upto numBackSpec)) numBackUptoCard

/-- THE SECOND FORM's CARD OF 'erratumlaw02.NumWrong'. -/
def numWrongUptoCard : Claim7 := { stood := { row := numWrongUptoRow, standIns := [], harness := (true, "2d4efa42c32deef6b400e9fcef5178cbb08d00aaba8007cee89dc5900d2eea87"), looks := true }, kinds := [], alts := [], laidByText := true, laidKinds := [.data, .data, .data, .data, .sentinel, .sentinel, .pinned], laidTests := true, laidLooks := .later }
def NumWrongUptoCardSaid : Prop := Claim7.holds Tryd.pinned (.plain (OpenSpec.upto numWrongSpec)) numWrongUptoCard

/-- THE SECOND FORM's CARD OF 'erratumlaw02.NumRooms'. -/
def numRoomsUptoCard : Claim7 := { stood := { row := numRoomsUptoRow, standIns := [], harness := (true, "2d4efa42c32deef6b400e9fcef5178cbb08d00aaba8007cee89dc5900d2eea87"), looks := true }, kinds := [], alts := [], laidByText := true, laidKinds := [.data, .data, .data, .data, .sentinel, .sentinel, .pinned], laidTests := true, laidLooks := .later }
def NumRoomsUptoCardSaid : Prop := Claim7.holds Tryd.pinned (.plain (OpenSpec.upto numRoomsSpec)) numRoomsUptoCard

/-- THE SECOND FORM's CARD OF 'erratumlaw02.NumOrders'. -/
def numOrdersUptoCard : Claim7 := { stood := { row := numOrdersUptoRow, standIns := [], harness := (true, "2d4efa42c32deef6b400e9fcef5178cbb08d00aaba8007cee89dc5900d2eea87"), looks := true }, kinds := [], alts := [], laidByText := true, laidKinds := [.data, .data, .data, .data, .sentinel, .sentinel, .pinned], laidTests := true, laidLooks := .later }
def NumOrdersUptoCardSaid : Prop := Claim7.holds Tryd.pinned (.plain (OpenSpec.upto numOrdersSpec)) numOrdersUptoCard

/-- THE SECOND FORM's CARD OF 'erratumlaw02.NumInts'. -/
def numIntsUptoCard : Claim7 := { stood := { row := numIntsUptoRow, standIns := [], harness := (true, "2d4efa42c32deef6b400e9fcef5178cbb08d00aaba8007cee89dc5900d2eea87"), looks := true }, kinds := [], alts := [], laidByText := true, laidKinds := [.data, .data, .data, .data, .sentinel, .sentinel, .pinned], laidTests := true, laidLooks := .later }
def NumIntsUptoCardSaid : Prop := Claim7.holds Tryd.pinned (.plain (OpenSpec.upto numIntsSpec)) numIntsUptoCard
end Rows
end Go.Proofs.YtmkdcokdilllcaaDoor
