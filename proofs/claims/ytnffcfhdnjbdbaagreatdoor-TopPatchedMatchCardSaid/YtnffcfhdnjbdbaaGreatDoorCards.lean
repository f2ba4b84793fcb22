/-
  DERIVED. GIVEN WITH THE SEED: THE CARDS: each row of YtnffcfhdnjbdbaaGreatDoorRows.lean that lists a variable, with what it lists TIED to the program's text (the seventh form; the later family's looks); each row that meets fmt, with fmt's text TOLD by the authors' own Lean function (tested against real Go, not proved from fmt's source: count such statements apart). THE CARD IS WHAT COUNTS. Prove the row's statement (the work); the ties are given (YtnffcfhdnjbdbaaGreatDoorTie.lean); close each card by the builder's one call (the guide's Derived/Test/ToyasCard.lean, 'card_holds'). Laid BY PROGRAM, IN A SANDBOX (cutbox-door.mjs). By AI agents, Wed Nov 11 2026. No macro, syntax, notation, axiom, sorry.
-/
import Derived.Test.YtnffcfhdnjbdbaaGreatDoorRows
import GoSem.ClaimSeven
namespace Go.Proofs.YtnffcfhdnjbdbaaGreatDoor
namespace Rows

/-- THE TIED CARD OF 'crossbandtop.TopPatchedMatch'. -/
def topPatchedMatchCard : Claim7 := { stood := { row := topPatchedMatchRow, standIns := [], harness := (true, "08ded36494b620ac30ff35131ac963f95bd8458a1b3f90a730157ee4eaff14b1"), looks := false }, kinds := [], alts := [], laidByText := true, laidKinds := [.data, .pinned], laidTests := true, laidLooks := .later }
def TopPatchedMatchCardSaid : Prop := Claim7.holds Tryz.pinned (.plain (OpenSpec.ofChange topPatchedMatchSpec)) topPatchedMatchCard

/-- THE SECOND FORM's CARD OF 'crossbandtop.TopPatchedMatch'. -/
def topPatchedMatchUptoCard : Claim7 := { stood := { row := topPatchedMatchUptoRow, standIns := [], harness := (true, "08ded36494b620ac30ff35131ac963f95bd8458a1b3f90a730157ee4eaff14b1"), looks := false }, kinds := [], alts := [], laidByText := true, laidKinds := [.data, .pinned], laidTests := true, laidLooks := .later }
def TopPatchedMatchUptoCardSaid : Prop := Claim7.holds Tryz.pinned (.plain (OpenSpec.upto topPatchedMatchSpec)) topPatchedMatchUptoCard
end Rows
end Go.Proofs.YtnffcfhdnjbdbaaGreatDoor
