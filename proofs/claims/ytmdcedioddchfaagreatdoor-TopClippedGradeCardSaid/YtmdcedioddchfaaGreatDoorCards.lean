/-
  DERIVED. GIVEN WITH THE SEED: THE CARDS: each row of YtmdcedioddchfaaGreatDoorRows.lean that lists a variable, with what it lists TIED to the program's text (the seventh form; the later family's looks); each row that meets fmt, with fmt's text TOLD by the authors' own Lean function (tested against real Go, not proved from fmt's source: count such statements apart). THE CARD IS WHAT COUNTS. Prove the row's statement (the work); the ties are given (YtmdcedioddchfaaGreatDoorTie.lean); close each card by the builder's one call (the guide's Derived/Test/ToyasCard.lean, 'card_holds'). Laid BY PROGRAM, IN A SANDBOX (cutbox-door.mjs). By AI agents, Wed Nov 11 2026. No macro, syntax, notation, axiom, sorry.
-/
import Derived.Test.YtmdcedioddchfaaGreatDoorRows
import GoSem.ClaimSeven
namespace Go.Proofs.YtmdcedioddchfaaGreatDoor
namespace Rows

/-- THE TIED CARD OF 'crossbandtop.TopClippedGrade'. -/
def topClippedGradeCard : Claim7 := { stood := { row := topClippedGradeRow, standIns := [], harness := (true, "c85c305bf4dfde18f612df8672bf9c551ed5e5f4f268eb1b73728f0bcbac9acb"), looks := false }, kinds := [], alts := [], laidByText := true, laidKinds := [.pinned, .data], laidTests := true, laidLooks := .later }
def TopClippedGradeCardSaid : Prop := Claim7.holds Tryz.pinned (.plain (OpenSpec.ofChange topClippedGradeSpec)) topClippedGradeCard

/-- THE SECOND FORM's CARD OF 'crossbandtop.TopClippedGrade'. -/
def topClippedGradeUptoCard : Claim7 := { stood := { row := topClippedGradeUptoRow, standIns := [], harness := (true, "c85c305bf4dfde18f612df8672bf9c551ed5e5f4f268eb1b73728f0bcbac9acb"), looks := false }, kinds := [], alts := [], laidByText := true, laidKinds := [.pinned, .data], laidTests := true, laidLooks := .later }
def TopClippedGradeUptoCardSaid : Prop := Claim7.holds Tryz.pinned (.plain (OpenSpec.upto topClippedGradeSpec)) topClippedGradeUptoCard
end Rows
end Go.Proofs.YtmdcedioddchfaaGreatDoor
