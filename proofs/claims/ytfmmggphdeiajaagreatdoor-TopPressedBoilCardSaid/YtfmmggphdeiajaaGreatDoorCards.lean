/-
  DERIVED. GIVEN WITH THE SEED: THE CARDS: each row of YtfmmggphdeiajaaGreatDoorRows.lean that lists a variable, with what it lists TIED to the program's text (the seventh form; the later family's looks); each row that meets fmt, with fmt's text TOLD by the authors' own Lean function (tested against real Go, not proved from fmt's source: count such statements apart). THE CARD IS WHAT COUNTS. Prove the row's statement (the work); the ties are given (YtfmmggphdeiajaaGreatDoorTie.lean); close each card by the builder's one call (the guide's Derived/Test/ToyasCard.lean, 'card_holds'). Laid BY PROGRAM, IN A SANDBOX (cutbox-door.mjs). By AI agents, Wed Nov 11 2026. No macro, syntax, notation, axiom, sorry.
-/
import Derived.Test.YtfmmggphdeiajaaGreatDoorRows
import GoSem.ClaimSeven
namespace Go.Proofs.YtfmmggphdeiajaaGreatDoor
namespace Rows

/-- THE TIED CARD OF 'crossbandtop.TopPressedBoil'. -/
def topPressedBoilCard : Claim7 := { stood := { row := topPressedBoilRow, standIns := [], harness := (true, "462175c55c907d5730da30248d005355cfaab3b5991281594385fb901d386600"), looks := false }, kinds := [], alts := [], laidByText := true, laidKinds := [.pinned, .data], laidTests := true, laidLooks := .later }
def TopPressedBoilCardSaid : Prop := Claim7.holds Tryz.pinned (.plain (OpenSpec.ofChange topPressedBoilSpec)) topPressedBoilCard

/-- THE SECOND FORM's CARD OF 'crossbandtop.TopPressedBoil'. -/
def topPressedBoilUptoCard : Claim7 := { stood := { row := topPressedBoilUptoRow, standIns := [], harness := (true, "462175c55c907d5730da30248d005355cfaab3b5991281594385fb901d386600"), looks := false }, kinds := [], alts := [], laidByText := true, laidKinds := [.pinned, .data], laidTests := true, laidLooks := .later }
def TopPressedBoilUptoCardSaid : Prop := Claim7.holds Tryz.pinned (.plain (OpenSpec.upto topPressedBoilSpec)) topPressedBoilUptoCard
end Rows
end Go.Proofs.YtfmmggphdeiajaaGreatDoor
