/-
  DERIVED. GIVEN WITH THE SEED: THE CARDS: each row of YtonmdifmlpfcpaaDoorRows.lean that lists a variable, with what it lists TIED to the program's text (the seventh form; the later family's looks); each row that meets fmt, with fmt's text TOLD by the authors' own Lean function (tested against real Go, not proved from fmt's source: count such statements apart). THE CARD IS WHAT COUNTS. Prove the row's statement (the work); the ties are given (YtonmdifmlpfcpaaDoorTie.lean); close each card by the builder's one call (the guide's Derived/Test/ToyasCard.lean, 'card_holds'). Laid BY PROGRAM, IN A SANDBOX (cutbox-door.mjs). By AI agents, Wed Nov 11 2026. No macro, syntax, notation, axiom, sorry.
-/
import Derived.Test.YtonmdifmlpfcpaaDoorRows
import GoSem.ClaimSeven
namespace Go.Proofs.YtonmdifmlpfcpaaDoor
namespace Rows

/-- THE TIED CARD OF 'environlaw24.BooksClones'. -/
def booksClonesCard : Claim7 := { stood := { row := booksClonesRow, standIns := [], harness := (true, "403cb034199339b530e0951789746bf5d8ce276e25390b065c1cdf013e513379"), looks := false }, kinds := [], alts := [], laidByText := true, laidKinds := [.data, .pinned], laidTests := true, laidLooks := .later }
def BooksClonesCardSaid : Prop := Claim7.holds Tryd.pinned (.plain (OpenSpec.ofChange booksClonesSpec)) booksClonesCard

/-- THE TIED CARD OF 'environlaw24.BooksNil'. -/
def booksNilCard : Claim7 := { stood := { row := booksNilRow, standIns := [], harness := (true, "403cb034199339b530e0951789746bf5d8ce276e25390b065c1cdf013e513379"), looks := false }, kinds := [], alts := [], laidByText := true, laidKinds := [.data, .pinned], laidTests := true, laidLooks := .later }
def BooksNilCardSaid : Prop := Claim7.holds Tryd.pinned (.plain (OpenSpec.ofChange booksNilSpec)) booksNilCard

/-- THE TIED CARD OF 'environlaw24.BooksLines'. -/
def booksLinesCard : Claim7 := { stood := { row := booksLinesRow, standIns := [], harness := (true, "403cb034199339b530e0951789746bf5d8ce276e25390b065c1cdf013e513379"), looks := false }, kinds := [], alts := [], laidByText := true, laidKinds := [.data, .pinned], laidTests := true, laidLooks := .later }
def BooksLinesCardSaid : Prop := Claim7.holds Tryd.pinned (.plain (OpenSpec.ofChange booksLinesSpec)) booksLinesCard

/-- THE SECOND FORM's CARD OF 'environlaw24.BooksClones'. -/
def booksClonesUptoCard : Claim7 := { stood := { row := booksClonesUptoRow, standIns := [], harness := (true, "403cb034199339b530e0951789746bf5d8ce276e25390b065c1cdf013e513379"), looks := false }, kinds := [], alts := [], laidByText := true, laidKinds := [.data, .pinned], laidTests := true, laidLooks := .later }
def BooksClonesUptoCardSaid : Prop := Claim7.holds Tryd.pinned (.plain (OpenSpec.upto booksClonesSpec)) booksClonesUptoCard

/-- THE SECOND FORM's CARD OF 'environlaw24.BooksNil'. -/
def booksNilUptoCard : Claim7 := { stood := { row := booksNilUptoRow, standIns := [], harness := (true, "403cb034199339b530e0951789746bf5d8ce276e25390b065c1cdf013e513379"), looks := false }, kinds := [], alts := [], laidByText := true, laidKinds := [.data, .pinned], laidTests := true, laidLooks := .later }
def BooksNilUptoCardSaid : Prop := Claim7.holds Tryd.pinned (.plain (OpenSpec.upto booksNilSpec)) booksNilUptoCard

/-- THE SECOND FORM's CARD OF 'environlaw24.BooksLines'. -/
def booksLinesUptoCard : Claim7 := { stood := { row := booksLinesUptoRow, standIns := [], harness := (true, "403cb034199339b530e0951789746bf5d8ce276e25390b065c1cdf013e513379"), looks := false }, kinds := [], alts := [], laidByText := true, laidKinds := [.data, .pinned], laidTests := true, laidLooks := .later }
def BooksLinesUptoCardSaid : Prop := Claim7.holds Tryd.pinned (.plain (OpenSpec.upto booksLinesSpec)) booksLinesUptoCard
end Rows
end Go.Proofs.YtonmdifmlpfcpaaDoor
