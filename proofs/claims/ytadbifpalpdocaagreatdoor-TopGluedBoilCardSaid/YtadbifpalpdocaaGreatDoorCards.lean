/-
  DERIVED. GIVEN WITH THE SEED: THE CARDS: each row of YtadbifpalpdocaaGreatDoorRows.lean that lists a variable, with what it lists TIED to the program's text (the seventh form; the later family's looks); each row that meets fmt, with fmt's text TOLD by the authors' own Lean function (tested against real Go, not proved from fmt's source: count such statements apart). THE CARD IS WHAT COUNTS. Prove the row's statement (the work); the ties are given (YtadbifpalpdocaaGreatDoorTie.lean); close each card by the builder's one call (the guide's Derived/Test/ToyasCard.lean, 'card_holds'). Laid BY PROGRAM, IN A SANDBOX (cutbox-door.mjs). By AI agents, Wed Nov 11 2026. No macro, syntax, notation, axiom, sorry.
-/
import Derived.Test.YtadbifpalpdocaaGreatDoorRows
import GoSem.ClaimSeven
namespace Go.Proofs.YtadbifpalpdocaaGreatDoor
namespace Rows

/-- THE TIED CARD OF 'crossbandtop.TopGluedBoil'. -/
def topGluedBoilCard : Claim7 := { stood := { row := topGluedBoilRow, standIns := [], harness := (true, "a95f30f56192ed96c871a3b3ef6ec848ae00548d3d4aaf08f61e0fb5011d5065"), looks := false }, kinds := [], alts := [], laidByText := true, laidKinds := [.pinned, .data], laidTests := true, laidLooks := .later }
def TopGluedBoilCardSaid : Prop := Claim7.holds Tryz.pinned (.plain (OpenSpec.ofChange topGluedBoilSpec)) topGluedBoilCard

/-- THE SECOND FORM's CARD OF 'crossbandtop.TopGluedBoil'. -/
def topGluedBoilUptoCard : Claim7 := { stood := { row := topGluedBoilUptoRow, standIns := [], harness := (true, "a95f30f56192ed96c871a3b3ef6ec848ae00548d3d4aaf08f61e0fb5011d5065"), looks := false }, kinds := [], alts := [], laidByText := true, laidKinds := [.pinned, .data], laidTests := true, laidLooks := .later }
def TopGluedBoilUptoCardSaid : Prop := Claim7.holds Tryz.pinned (.plain (OpenSpec.upto topGluedBoilSpec)) topGluedBoilUptoCard
end Rows
end Go.Proofs.YtadbifpalpdocaaGreatDoor
