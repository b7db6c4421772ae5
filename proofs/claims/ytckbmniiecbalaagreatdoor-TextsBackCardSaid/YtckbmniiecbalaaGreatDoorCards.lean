/-
  DERIVED. GIVEN WITH THE SEED: THE CARDS: each row of YtckbmniiecbalaaGreatDoorRows.lean that lists a variable, with what it lists TIED to the program's text (the seventh form; the later family's looks); each row that meets fmt, with fmt's text TOLD by the authors' own Lean function (tested against real Go, not proved from fmt's source: count such statements apart). THE CARD IS WHAT COUNTS. Prove the row's statement (the work); the ties are given (YtckbmniiecbalaaGreatDoorTie.lean); close each card by the builder's one call (the guide's Derived/Test/ToyasCard.lean, 'card_holds'). Laid BY PROGRAM, IN A SANDBOX (cutbox-door.mjs). By AI agents, Wed Nov 11 2026. No macro, syntax, notation, axiom, sorry.
-/
import Derived.Test.YtckbmniiecbalaaGreatDoorRows
import GoSem.ClaimSeven
namespace Go.Proofs.YtckbmniiecbalaaGreatDoor
namespace Rows

/-- THE TIED CARD OF 'environlaw03.TextsWide'. -/
def textsWideCard : Claim7 := { stood := { row := textsWideRow, standIns := [], harness := (true, "150d15d0c970ec36ec1727bb9830d095a73392a5e1638c5657e28c36cb25c649"), looks := false }, kinds := [], alts := [], laidByText := true, laidKinds := [.data, .data, .data, .data, .pinned], laidTests := true, laidLooks := .later }
def TextsWideCardSaid : Prop := Claim7.holds Tryz.pinned (.plain (OpenSpec.ofChange textsWideSpec)) textsWideCard

/-- THE TIED CARD OF 'environlaw03.TextsWrites'. -/
def textsWritesCard : Claim7 := { stood := { row := textsWritesRow, standIns := [], harness := (true, "150d15d0c970ec36ec1727bb9830d095a73392a5e1638c5657e28c36cb25c649"), looks := false }, kinds := [], alts := [], laidByText := true, laidKinds := [.data, .data, .data, .data, .pinned], laidTests := true, laidLooks := .later }
def TextsWritesCardSaid : Prop := Claim7.holds Tryz.pinned (.plain (OpenSpec.ofChange textsWritesSpec)) textsWritesCard

/-- THE TIED CARD OF 'environlaw03.TextsReads'. -/
def textsReadsCard : Claim7 := { stood := { row := textsReadsRow, standIns := [], harness := (true, "150d15d0c970ec36ec1727bb9830d095a73392a5e1638c5657e28c36cb25c649"), looks := false }, kinds := [], alts := [], laidByText := true, laidKinds := [.data, .data, .data, .data, .pinned], laidTests := true, laidLooks := .later }
def TextsReadsCardSaid : Prop := Claim7.holds Tryz.pinned (.plain (OpenSpec.ofChange textsReadsSpec)) textsReadsCard

/-- THE TIED CARD OF 'environlaw03.TextsBack'. -/
def textsBackCard : Claim7 := { stood := { row := textsBackRow, standIns := [], harness := (true, "150d15d0c970ec36ec1727bb9830d095a73392a5e1638c5657e28c36cb25c649"), looks := false }, kinds := [], alts := [], laidByText := true, laidKinds := [.data, .data, .data, .data, .pinned], laidTests := true, laidLooks := .later }
def TextsBackCardSaid : Prop := Claim7.holds Tryz.pinned (.plain (OpenSpec.ofChange textsBackSpec)) textsBackCard

/-- THE SECOND FORM's CARD OF 'environlaw03.TextsWide'. -/
def textsWideUptoCard : Claim7 := { stood := { row := textsWideUptoRow, standIns := [], harness := (true, "150d15d0c970ec36ec1727bb9830d095a73392a5e1638c5657e28c36cb25c649"), looks := false }, kinds := [], alts := [], laidByText := true, laidKinds := [.data, .data, .data, .data, .pinned], laidTests := true, laidLooks := .later }
def TextsWideUptoCardSaid : Prop := Claim7.holds Tryz.pinned (.plain (OpenSpec.upto textsWideSpec)) textsWideUptoCard

/-- THE SECOND FORM's CARD OF 'environlaw03.TextsWrites'. -/
def textsWritesUptoCard : Claim7 := { stood := { row := textsWritesUptoRow, standIns := [], harness := (true, "150d15d0c970ec36ec1727bb9830d095a73392a5e1638c5657e28c36cb25c649"), looks := false }, kinds := [], alts := [], laidByText := true, laidKinds := [.data, .data, .data, .data, .pinned], laidTests := true, laidLooks := .later }
def TextsWritesUptoCardSaid : Prop := Claim7.holds Tryz.pinned (.plain (OpenSpec.upto textsWritesSpec)) textsWritesUptoCard

/-- THE SECOND FORM's CARD OF 'environlaw03.TextsReads'. -/
def textsReadsUptoCard : Claim7 := { stood := { row := textsReadsUptoRow, standIns := [], harness := (true, "150d15d0c970ec36ec1727bb9830d095a73392a5e1638c5657e28c36cb25c649"), looks := false }, kinds := [], alts := [], laidByText := true, laidKinds := [.data, .data, .data, .data, .pinned], laidTests := true, laidLooks := .later }
def TextsReadsUptoCardSaid : Prop := Claim7.holds Tryz.pinned (.plain (OpenSpec.upto textsReadsSpec)) textsReadsUptoCard

/-- THE SECOND FORM's CARD OF 'environlaw03.TextsBack'. -/
def textsBackUptoCard : Claim7 := { stood := { row := textsBackUptoRow, standIns := [], harness := (true, "150d15d0c970ec36ec1727bb9830d095a73392a5e1638c5657e28c36cb25c649"), looks := false }, kinds := [], alts := [], laidByText := true, laidKinds := [.data, .data, .data, .data, .pinned], laidTests := true, laidLooks := .later }
def TextsBackUptoCardSaid : Prop := Claim7.holds Tryz.pinned (.plain (OpenSpec.upto textsBackSpec)) textsBackUptoCard
end Rows
end Go.Proofs.YtckbmniiecbalaaGreatDoor
