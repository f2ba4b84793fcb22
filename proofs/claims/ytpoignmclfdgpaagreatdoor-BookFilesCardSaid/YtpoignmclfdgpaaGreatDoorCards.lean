/-
  DERIVED. GIVEN WITH THE SEED: THE CARDS: each row of YtpoignmclfdgpaaGreatDoorRows.lean that lists a variable, with what it lists TIED to the program's text (the seventh form; the later family's looks); each row that meets fmt, with fmt's text TOLD by the authors' own Lean function (tested against real Go, not proved from fmt's source: count such statements apart). THE CARD IS WHAT COUNTS. Prove the row's statement (the work); the ties are given (YtpoignmclfdgpaaGreatDoorTie.lean); close each card by the builder's one call (the guide's Derived/Test/ToyasCard.lean, 'card_holds'). Laid BY PROGRAM, IN A SANDBOX (cutbox-door.mjs). By AI agents, Wed Nov 11 2026. No macro, syntax, notation, axiom, sorry.
-/
import Derived.Test.YtpoignmclfdgpaaGreatDoorRows
import GoSem.ClaimSeven
namespace Go.Proofs.YtpoignmclfdgpaaGreatDoor
namespace Rows

/-- THE TIED CARD OF 'crossbandlaw12.BookRecipes'. -/
def bookRecipesCard : Claim7 := { stood := { row := bookRecipesRow, standIns := [], harness := (true, "8eb6369ca22dea7aa1ecf342da9ca655bef5d246fa1e6fc7f1130bea294d6579"), looks := true }, kinds := [], alts := [], laidByText := true, laidKinds := [.data, .data, .data, .data, .sentinel, .sentinel, .pinned], laidTests := true, laidLooks := .later }
def BookRecipesCardSaid : Prop := Claim7.holds Tryz.pinned (.plain (OpenSpec.ofChange bookRecipesSpec)) bookRecipesCard

/-- THE TIED CARD OF 'crossbandlaw12.BookBooks'. -/
def bookBooksCard : Claim7 := { stood := { row := bookBooksRow, standIns := [], harness := (true, "8eb6369ca22dea7aa1ecf342da9ca655bef5d246fa1e6fc7f1130bea294d6579"), looks := true }, kinds := [], alts := [], laidByText := true, laidKinds := [.data, .data, .data, .data, .sentinel, .sentinel, .pinned], laidTests := true, laidLooks := .later }
def BookBooksCardSaid : Prop := Claim7.holds Tryz.pinned (.plain (OpenSpec.ofChange bookBooksSpec)) bookBooksCard

/-- THE TIED CARD OF 'crossbandlaw12.BookStocks'. -/
def bookStocksCard : Claim7 := { stood := { row := bookStocksRow, standIns := [], harness := (true, "8eb6369ca22dea7aa1ecf342da9ca655bef5d246fa1e6fc7f1130bea294d6579"), looks := true }, kinds := [], alts := [], laidByText := true, laidKinds := [.data, .data, .data, .data, .sentinel, .sentinel, .pinned], laidTests := true, laidLooks := .later }
def BookStocksCardSaid : Prop := Claim7.holds Tryz.pinned (.plain (OpenSpec.ofChange bookStocksSpec)) bookStocksCard

/-- THE TIED CARD OF 'crossbandlaw12.BookFiles'. -/
def bookFilesCard : Claim7 := { stood := { row := bookFilesRow, standIns := [], harness := (true, "8eb6369ca22dea7aa1ecf342da9ca655bef5d246fa1e6fc7f1130bea294d6579"), looks := true }, kinds := [], alts := [], laidByText := true, laidKinds := [.data, .data, .data, .data, .sentinel, .sentinel, .pinned], laidTests := true, laidLooks := .later }
def BookFilesCardSaid : Prop := Claim7.holds Tryz.pinned (.plain (OpenSpec.ofChange bookFilesSpec)) bookFilesCard

/-- THE TIED CARD OF 'crossbandlaw12.BookTaken'. -/
def bookTakenCard : Claim7 := { stood := { row := bookTakenRow, standIns := [], harness := (true, "8eb6369ca22dea7aa1ecf342da9ca655bef5d246fa1e6fc7f1130bea294d6579"), looks := true }, kinds := [], alts := [], laidByText := true, laidKinds := [.data, .data, .data, .data, .sentinel, .sentinel, .pinned], laidTests := true, laidLooks := .later }
def BookTakenCardSaid : Prop := Claim7.holds Tryz.pinned (.plain (OpenSpec.ofChange bookTakenSpec)) bookTakenCard

/-- THE TIED CARD OF 'crossbandlaw12.BookCounts'. -/
def bookCountsCard : Claim7 := { stood := { row := bookCountsRow, standIns := [], harness := (true, "8eb6369ca22dea7aa1ecf342da9ca655bef5d246fa1e6fc7f1130bea294d6579"), looks := true }, kinds := [], alts := [], laidByText := true, laidKinds := [.data, .data, .data, .data, .sentinel, .sentinel, .pinned], laidTests := true, laidLooks := .later }
def BookCountsCardSaid : Prop := Claim7.holds Tryz.pinned (.plain (OpenSpec.ofChange bookCountsSpec)) bookCountsCard

/-- THE TIED CARD OF 'crossbandlaw12.BookKept'. -/
def bookKeptCard : Claim7 := { stood := { row := bookKeptRow, standIns := [], harness := (true, "8eb6369ca22dea7aa1ecf342da9ca655bef5d246fa1e6fc7f1130bea294d6579"), looks := true }, kinds := [], alts := [], laidByText := true, laidKinds := [.data, .data, .data, .data, .sentinel, .sentinel, .pinned], laidTests := true, laidLooks := .later }
def BookKeptCardSaid : Prop := Claim7.holds Tryz.pinned (.plain (OpenSpec.ofChange bookKeptSpec)) bookKeptCard

/-- THE TIED CARD OF 'crossbandlaw12.BookThen'. -/
def bookThenCard : Claim7 := { stood := { row := bookThenRow, standIns := [], harness := (true, "8eb6369ca22dea7aa1ecf342da9ca655bef5d246fa1e6fc7f1130bea294d6579"), looks := true }, kinds := [], alts := [], laidByText := true, laidKinds := [.data, .data, .data, .data, .sentinel, .sentinel, .pinned], laidTests := true, laidLooks := .later }
def BookThenCardSaid : Prop := Claim7.holds Tryz.pinned (.plain (OpenSpec.ofChange bookThenSpec)) bookThenCard

/-- THE TIED CARD OF 'crossbandlaw12.BookRaw'. -/
def bookRawCard : Claim7 := { stood := { row := bookRawRow, standIns := [], harness := (true, "8eb6369ca22dea7aa1ecf342da9ca655bef5d246fa1e6fc7f1130bea294d6579"), looks := true }, kinds := [], alts := [], laidByText := true, laidKinds := [.data, .data, .data, .data, .sentinel, .sentinel, .pinned], laidTests := true, laidLooks := .later }
def BookRawCardSaid : Prop := Claim7.holds Tryz.pinned (.plain (OpenSpec.ofChange bookRawSpec)) bookRawCard

/-- THE TIED CARD OF 'crossbandlaw12.BookMost'. -/
def bookMostCard : Claim7 := { stood := { row := bookMostRow, standIns := [], harness := (true, "8eb6369ca22dea7aa1ecf342da9ca655bef5d246fa1e6fc7f1130bea294d6579"), looks := true }, kinds := [], alts := [], laidByText := true, laidKinds := [.data, .data, .data, .data, .sentinel, .sentinel, .pinned], laidTests := true, laidLooks := .later }
def BookMostCardSaid : Prop := Claim7.holds Tryz.pinned (.plain (OpenSpec.ofChange bookMostSpec)) bookMostCard

/-- THE TIED CARD OF 'crossbandlaw12.BookFiled'. -/
def bookFiledCard : Claim7 := { stood := { row := bookFiledRow, standIns := [], harness := (true, "8eb6369ca22dea7aa1ecf342da9ca655bef5d246fa1e6fc7f1130bea294d6579"), looks := true }, kinds := [], alts := [], laidByText := true, laidKinds := [.data, .data, .data, .data, .sentinel, .sentinel, .pinned], laidTests := true, laidLooks := .later }
def BookFiledCardSaid : Prop := Claim7.holds Tryz.pinned (.plain (OpenSpec.ofChange bookFiledSpec)) bookFiledCard

/-- THE TIED CARD OF 'crossbandlaw12.BookChanged'. -/
def bookChangedCard : Claim7 := { stood := { row := bookChangedRow, standIns := [], harness := (true, "8eb6369ca22dea7aa1ecf342da9ca655bef5d246fa1e6fc7f1130bea294d6579"), looks := true }, kinds := [], alts := [], laidByText := true, laidKinds := [.data, .data, .data, .data, .sentinel, .sentinel, .pinned], laidTests := true, laidLooks := .later }
def BookChangedCardSaid : Prop := Claim7.holds Tryz.pinned (.plain (OpenSpec.ofChange bookChangedSpec)) bookChangedCard

/-- THE TIED CARD OF 'crossbandlaw12.BookKnown'. -/
def bookKnownCard : Claim7 := { stood := { row := bookKnownRow, standIns := [], harness := (true, "8eb6369ca22dea7aa1ecf342da9ca655bef5d246fa1e6fc7f1130bea294d6579"), looks := true }, kinds := [], alts := [], laidByText := true, laidKinds := [.data, .data, .data, .data, .sentinel, .sentinel, .pinned], laidTests := true, laidLooks := .later }
def BookKnownCardSaid : Prop := Claim7.holds Tryz.pinned (.plain (OpenSpec.ofChange bookKnownSpec)) bookKnownCard

/-- THE SECOND FORM's CARD OF 'crossbandlaw12.BookRecipes'. -/
def bookRecipesUptoCard : Claim7 := { stood := { row := bookRecipesUptoRow, standIns := [], harness := (true, "8eb6369ca22dea7aa1ecf342da9ca655bef5d246fa1e6fc7f1130bea294d6579"), looks := true }, kinds := [], alts := [], laidByText := true, laidKinds := [.data, .data, .data, .data, .sentinel, .sentinel, .pinned], laidTests := true, laidLooks := .later }
def BookRecipesUptoCardSaid : Prop := Claim7.holds Tryz.pinned (.plain (OpenSpec.upto bookRecipesSpec)) bookRecipesUptoCard

/-- THE SECOND FORM's CARD OF 'crossbandlaw12.BookBooks'. -/
def bookBooksUptoCard : Claim7 := { stood := { row := bookBooksUptoRow, standIns := [], harness := (true, "8eb6369ca22dea7aa1ecf342da9ca655bef5d246fa1e6fc7f1130bea294d6579"), looks := true }, kinds := [], alts := [], laidByText := true, laidKinds := [.data, .data, .data, .data, .sentinel, .sentinel, .pinned], laidTests := true, laidLooks := .later }
def BookBooksUptoCardSaid : Prop := Claim7.holds Tryz.pinned (.plain (OpenSpec.upto bookBooksSpec)) bookBooksUptoCard

/-- THE SECOND FORM's CARD OF 'crossbandlaw12.BookStocks'. -/
def bookStocksUptoCard : Claim7 := { stood := { row := bookStocksUptoRow, standIns := [], harness := (true, "8eb6369ca22dea7aa1ecf342da9ca655bef5d246fa1e6fc7f1130bea294d6579"), looks := true }, kinds := [], alts := [], laidByText := true, laidKinds := [.data, .data, .data, .data, .sentinel, .sentinel, .pinned], laidTests := true, laidLooks := .later }
def BookStocksUptoCardSaid : Prop := Claim7.holds Tryz.pinned (.plain (OpenSpec.upto bookStocksSpec)) bookStocksUptoCard

/-- THE SECOND FORM's CARD OF 'crossbandlaw12.BookFiles'. -/
def bookFilesUptoCard : Claim7 := { stood := { row := bookFilesUptoRow, standIns := [], harness := (true, "8eb6369ca22dea7aa1ecf342da9ca655bef5d246fa1e6fc7f1130bea294d6579"), looks := true }, kinds := [], alts := [], laidByText := true, laidKinds := [.data, .data, .data, .data, .sentinel, .sentinel, .pinned], laidTests := true, laidLooks := .later }
def BookFilesUptoCardSaid : Prop := Claim7.holds Tryz.pinned (.plain (OpenSpec.upto bookFilesSpec)) bookFilesUptoCard

/-- THE SECOND FORM's CARD OF 'crossbandlaw12.BookTaken'. -/
def bookTakenUptoCard : Claim7 := { stood := { row := bookTakenUptoRow, standIns := [], harness := (true, "8eb6369ca22dea7aa1ecf342da9ca655bef5d246fa1e6fc7f1130bea294d6579"), looks := true }, kinds := [], alts := [], laidByText := true, laidKinds := [.data, .data, .data, .data, .sentinel, .sentinel, .pinned], laidTests := true, laidLooks := .later }
def BookTakenUptoCardSaid : Prop := Claim7.holds Tryz.pinned (.plain (OpenSpec.upto bookTakenSpec)) bookTakenUptoCard

/-- THE SECOND FORM's CARD OF 'crossbandlaw12.BookCounts'. -/
def bookCountsUptoCard : Claim7 := { stood := { row := bookCountsUptoRow, standIns := [], harness := (true, "8eb6369ca22dea7aa1ecf342da9ca655bef5d246fa1e6fc7f1130bea294d6579"), looks := true }, kinds := [], alts := [], laidByText := true, laidKinds := [.data, .data, .data, .data, .sentinel, .sentinel, .pinned], laidTests := true, laidLooks := .later }
def BookCountsUptoCardSaid : Prop := Claim7.holds Tryz.pinned (.plain (OpenSpec.upto bookCountsSpec)) bookCountsUptoCard

/-- THE SECOND FORM's CARD OF 'crossbandlaw12.BookKept'. -/
def bookKeptUptoCard : Claim7 := { stood := { row := bookKeptUptoRow, standIns := [], harness := (true, "8eb6369ca22dea7aa1ecf342da9ca655bef5d246fa1e6fc7f1130bea294d6579"), looks := true }, kinds := [], alts := [], laidByText := true, laidKinds := [.data, .data, .data, .data, .sentinel, .sentinel, .pinned], laidTests := true, laidLooks := .later }
def BookKeptUptoCardSaid : Prop := Claim7.holds Tryz.pinned (.plain (OpenSpec.upto bookKeptSpec)) bookKeptUptoCard

/-- THE SECOND FORM's CARD OF 'crossbandlaw12.BookThen'. -/
def bookThenUptoCard : Claim7 := { stood := { row := bookThenUptoRow, standIns := [], harness := (true, "8eb6369ca22dea7aa1ecf342da9ca655bef5d246fa1e6fc7f1130bea294d6579"), looks := true }, kinds := [], alts := [], laidByText := true, laidKinds := [.data, .data, .data, .data, .sentinel, .sentinel, .pinned], laidTests := true, laidLooks := .later }
def BookThenUptoCardSaid : Prop := Claim7.holds Tryz.pinned (.plain (OpenSpec.upto bookThenSpec)) bookThenUptoCard

/-- THE SECOND FORM's CARD OF 'crossbandlaw12.BookRaw'. -/
def bookRawUptoCard : Claim7 := { stood := { row := bookRawUptoRow, standIns := [], harness := (true, "8eb6369ca22dea7aa1ecf342da9ca655bef5d246fa1e6fc7f1130bea294d6579"), looks := true }, kinds := [], alts := [], laidByText := true, laidKinds := [.data, .data, .data, .data, .sentinel, .sentinel, .pinned], laidTests := true, laidLooks := .later }
def BookRawUptoCardSaid : Prop := Claim7.holds Tryz.pinned (.plain (OpenSpec.upto bookRawSpec)) bookRawUptoCard

/-- THE SECOND FORM's CARD OF 'crossbandlaw12.BookMost'. -/
def bookMostUptoCard : Claim7 := { stood := { row := bookMostUptoRow, standIns := [], harness := (true, "8eb6369ca22dea7aa1ecf342da9ca655bef5d246fa1e6fc7f1130bea294d6579"), looks := true }, kinds := [], alts := [], laidByText := true, laidKinds := [.data, .data, .data, .data, .sentinel, .sentinel, .pinned], laidTests := true, laidLooks := .later }
def BookMostUptoCardSaid : Prop := Claim7.holds Tryz.pinned (.plain (OpenSpec.upto bookMostSpec)) bookMostUptoCard

/-- THE SECOND FORM's CARD OF 'crossbandlaw12.BookFiled'. -/
def bookFiledUptoCard : Claim7 := { stood := { row := bookFiledUptoRow, standIns := [], harness := (true, "8eb6369ca22dea7aa1ecf342da9ca655bef5d246fa1e6fc7f1130bea294d6579"), looks := true }, kinds := [], alts := [], laidByText := true, laidKinds := [.data, .data, .data, .data, .sentinel, .sentinel, .pinned], laidTests := true, laidLooks := .later }
def BookFiledUptoCardSaid : Prop := Claim7.holds Tryz.pinned (.plain (OpenSpec.upto bookFiledSpec)) bookFiledUptoCard

/-- THE SECOND FORM's CARD OF 'crossbandlaw12.BookChanged'. -/
def bookChangedUptoCard : Claim7 := { stood := { row := bookChangedUptoRow, standIns := [], harness := (true, "8eb6369ca22dea7aa1ecf342da9ca655bef5d246fa1e6fc7f1130bea294d6579"), looks := true }, kinds := [], alts := [], laidByText := true, laidKinds := [.data, .data, .data, .data, .sentinel, .sentinel, .pinned], laidTests := true, laidLooks := .later }
def BookChangedUptoCardSaid : Prop := Claim7.holds Tryz.pinned (.plain (OpenSpec.upto bookChangedSpec)) bookChangedUptoCard

/-- THE SECOND FORM's CARD OF 'crossbandlaw12.BookKnown'. -/
def bookKnownUptoCard : Claim7 := { stood := { row := bookKnownUptoRow, standIns := [], harness := (true, "8eb6369ca22dea7aa1ecf342da9ca655bef5d246fa1e6fc7f1130bea294d6579"), looks := true }, kinds := [], alts := [], laidByText := true, laidKinds := [.data, .data, .data, .data, .sentinel, .sentinel, .pinned], laidTests := true, laidLooks := .later }
def BookKnownUptoCardSaid : Prop := Claim7.holds Tryz.pinned (.plain (OpenSpec.upto bookKnownSpec)) bookKnownUptoCard
end Rows
end Go.Proofs.YtpoignmclfdgpaaGreatDoor
