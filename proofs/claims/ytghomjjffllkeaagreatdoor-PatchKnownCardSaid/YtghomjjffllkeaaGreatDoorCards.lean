/-
  DERIVED. GIVEN WITH THE SEED: THE CARDS: each row of YtghomjjffllkeaaGreatDoorRows.lean that lists a variable, with what it lists TIED to the program's text (the seventh form; the later family's looks); each row that meets fmt, with fmt's text TOLD by the authors' own Lean function (tested against real Go, not proved from fmt's source: count such statements apart). THE CARD IS WHAT COUNTS. Prove the row's statement (the work); the ties are given (YtghomjjffllkeaaGreatDoorTie.lean); close each card by the builder's one call (the guide's Derived/Test/ToyasCard.lean, 'card_holds'). Laid BY PROGRAM, IN A SANDBOX (cutbox-door.mjs). By AI agents, Wed Nov 11 2026. No macro, syntax, notation, axiom, sorry.
-/
import Derived.Test.YtghomjjffllkeaaGreatDoorRows
import GoSem.ClaimSeven
namespace Go.Proofs.YtghomjjffllkeaaGreatDoor
namespace Rows

/-- THE TIED CARD OF 'crossbandlaw04.PatchSheets'. -/
def patchSheetsCard : Claim7 := { stood := { row := patchSheetsRow, standIns := [], harness := (true, "0d2a6361d0117277170b6b99c938bda2455ed98009332320e2a28814b9346cbd"), looks := false }, kinds := [], alts := [], laidByText := true, laidKinds := [.data, .pinned], laidTests := true, laidLooks := .later }
def PatchSheetsCardSaid : Prop := Claim7.holds Tryz.pinned (.plain (OpenSpec.ofChange patchSheetsSpec)) patchSheetsCard

/-- THE TIED CARD OF 'crossbandlaw04.PatchFewests'. -/
def patchFewestsCard : Claim7 := { stood := { row := patchFewestsRow, standIns := [], harness := (true, "0d2a6361d0117277170b6b99c938bda2455ed98009332320e2a28814b9346cbd"), looks := false }, kinds := [], alts := [], laidByText := true, laidKinds := [.data, .pinned], laidTests := true, laidLooks := .later }
def PatchFewestsCardSaid : Prop := Claim7.holds Tryz.pinned (.plain (OpenSpec.ofChange patchFewestsSpec)) patchFewestsCard

/-- THE TIED CARD OF 'crossbandlaw04.PatchAlones'. -/
def patchAlonesCard : Claim7 := { stood := { row := patchAlonesRow, standIns := [], harness := (true, "0d2a6361d0117277170b6b99c938bda2455ed98009332320e2a28814b9346cbd"), looks := false }, kinds := [], alts := [], laidByText := true, laidKinds := [.data, .pinned], laidTests := true, laidLooks := .later }
def PatchAlonesCardSaid : Prop := Claim7.holds Tryz.pinned (.plain (OpenSpec.ofChange patchAlonesSpec)) patchAlonesCard

/-- THE TIED CARD OF 'crossbandlaw04.PatchTurns'. -/
def patchTurnsCard : Claim7 := { stood := { row := patchTurnsRow, standIns := [], harness := (true, "0d2a6361d0117277170b6b99c938bda2455ed98009332320e2a28814b9346cbd"), looks := false }, kinds := [], alts := [], laidByText := true, laidKinds := [.data, .pinned], laidTests := true, laidLooks := .later }
def PatchTurnsCardSaid : Prop := Claim7.holds Tryz.pinned (.plain (OpenSpec.ofChange patchTurnsSpec)) patchTurnsCard

/-- THE TIED CARD OF 'crossbandlaw04.PatchProved'. -/
def patchProvedCard : Claim7 := { stood := { row := patchProvedRow, standIns := [], harness := (true, "0d2a6361d0117277170b6b99c938bda2455ed98009332320e2a28814b9346cbd"), looks := false }, kinds := [], alts := [], laidByText := true, laidKinds := [.data, .pinned], laidTests := true, laidLooks := .later }
def PatchProvedCardSaid : Prop := Claim7.holds Tryz.pinned (.plain (OpenSpec.ofChange patchProvedSpec)) patchProvedCard

/-- THE TIED CARD OF 'crossbandlaw04.PatchLeast'. -/
def patchLeastCard : Claim7 := { stood := { row := patchLeastRow, standIns := [], harness := (true, "0d2a6361d0117277170b6b99c938bda2455ed98009332320e2a28814b9346cbd"), looks := false }, kinds := [], alts := [], laidByText := true, laidKinds := [.data, .pinned], laidTests := true, laidLooks := .later }
def PatchLeastCardSaid : Prop := Claim7.holds Tryz.pinned (.plain (OpenSpec.ofChange patchLeastSpec)) patchLeastCard

/-- THE TIED CARD OF 'crossbandlaw04.PatchParted'. -/
def patchPartedCard : Claim7 := { stood := { row := patchPartedRow, standIns := [], harness := (true, "0d2a6361d0117277170b6b99c938bda2455ed98009332320e2a28814b9346cbd"), looks := false }, kinds := [], alts := [], laidByText := true, laidKinds := [.data, .pinned], laidTests := true, laidLooks := .later }
def PatchPartedCardSaid : Prop := Claim7.holds Tryz.pinned (.plain (OpenSpec.ofChange patchPartedSpec)) patchPartedCard

/-- THE TIED CARD OF 'crossbandlaw04.PatchMore'. -/
def patchMoreCard : Claim7 := { stood := { row := patchMoreRow, standIns := [], harness := (true, "0d2a6361d0117277170b6b99c938bda2455ed98009332320e2a28814b9346cbd"), looks := false }, kinds := [], alts := [], laidByText := true, laidKinds := [.data, .pinned], laidTests := true, laidLooks := .later }
def PatchMoreCardSaid : Prop := Claim7.holds Tryz.pinned (.plain (OpenSpec.ofChange patchMoreSpec)) patchMoreCard

/-- THE TIED CARD OF 'crossbandlaw04.PatchTurned'. -/
def patchTurnedCard : Claim7 := { stood := { row := patchTurnedRow, standIns := [], harness := (true, "0d2a6361d0117277170b6b99c938bda2455ed98009332320e2a28814b9346cbd"), looks := false }, kinds := [], alts := [], laidByText := true, laidKinds := [.data, .pinned], laidTests := true, laidLooks := .later }
def PatchTurnedCardSaid : Prop := Claim7.holds Tryz.pinned (.plain (OpenSpec.ofChange patchTurnedSpec)) patchTurnedCard

/-- THE TIED CARD OF 'crossbandlaw04.PatchLargest'. -/
def patchLargestCard : Claim7 := { stood := { row := patchLargestRow, standIns := [], harness := (true, "0d2a6361d0117277170b6b99c938bda2455ed98009332320e2a28814b9346cbd"), looks := false }, kinds := [], alts := [], laidByText := true, laidKinds := [.data, .pinned], laidTests := true, laidLooks := .later }
def PatchLargestCardSaid : Prop := Claim7.holds Tryz.pinned (.plain (OpenSpec.ofChange patchLargestSpec)) patchLargestCard

/-- THE TIED CARD OF 'crossbandlaw04.PatchBeside'. -/
def patchBesideCard : Claim7 := { stood := { row := patchBesideRow, standIns := [], harness := (true, "0d2a6361d0117277170b6b99c938bda2455ed98009332320e2a28814b9346cbd"), looks := false }, kinds := [], alts := [], laidByText := true, laidKinds := [.data, .pinned], laidTests := true, laidLooks := .later }
def PatchBesideCardSaid : Prop := Claim7.holds Tryz.pinned (.plain (OpenSpec.ofChange patchBesideSpec)) patchBesideCard

/-- THE TIED CARD OF 'crossbandlaw04.PatchKnown'. -/
def patchKnownCard : Claim7 := { stood := { row := patchKnownRow, standIns := [], harness := (true, "0d2a6361d0117277170b6b99c938bda2455ed98009332320e2a28814b9346cbd"), looks := false }, kinds := [], alts := [], laidByText := true, laidKinds := [.data, .pinned], laidTests := true, laidLooks := .later }
def PatchKnownCardSaid : Prop := Claim7.holds Tryz.pinned (.plain (OpenSpec.ofChange patchKnownSpec)) patchKnownCard

/-- THE SECOND FORM's CARD OF 'crossbandlaw04.PatchSheets'. -/
def patchSheetsUptoCard : Claim7 := { stood := { row := patchSheetsUptoRow, standIns := [], harness := (true, "0d2a6361d0117277170b6b99c938bda2455ed98009332320e2a28814b9346cbd"), looks := false }, kinds := [], alts := [], laidByText := true, laidKinds := [.data, .pinned], laidTests := true, laidLooks := .later }
def PatchSheetsUptoCardSaid : Prop := Claim7.holds Tryz.pinned (.plain (OpenSpec.upto patchSheetsSpec)) patchSheetsUptoCard

/-- THE SECOND FORM's CARD OF 'crossbandlaw04.PatchFewests'. -/
def patchFewestsUptoCard : Claim7 := { stood := { row := patchFewestsUptoRow, standIns := [], harness := (true, "0d2a6361d0117277170b6b99c938bda2455ed98009332320e2a28814b9346cbd"), looks := false }, kinds := [], alts := [], laidByText := true, laidKinds := [.data, .pinned], laidTests := true, laidLooks := .later }
def PatchFewestsUptoCardSaid : Prop := Claim7.holds Tryz.pinned (.plain (OpenSpec.upto patchFewestsSpec)) patchFewestsUptoCard

/-- THE SECOND FORM's CARD OF 'crossbandlaw04.PatchAlones'. -/
def patchAlonesUptoCard : Claim7 := { stood := { row := patchAlonesUptoRow, standIns := [], harness := (true, "0d2a6361d0117277170b6b99c938bda2455ed98009332320e2a28814b9346cbd"), looks := false }, kinds := [], alts := [], laidByText := true, laidKinds := [.data, .pinned], laidTests := true, laidLooks := .later }
def PatchAlonesUptoCardSaid : Prop := Claim7.holds Tryz.pinned (.plain (OpenSpec.upto patchAlonesSpec)) patchAlonesUptoCard

/-- THE SECOND FORM's CARD OF 'crossbandlaw04.PatchTurns'. -/
def patchTurnsUptoCard : Claim7 := { stood := { row := patchTurnsUptoRow, standIns := [], harness := (true, "0d2a6361d0117277170b6b99c938bda2455ed98009332320e2a28814b9346cbd"), looks := false }, kinds := [], alts := [], laidByText := true, laidKinds := [.data, .pinned], laidTests := true, laidLooks := .later }
def PatchTurnsUptoCardSaid : Prop := Claim7.holds Tryz.pinned (.plain (OpenSpec.upto patchTurnsSpec)) patchTurnsUptoCard

/-- THE SECOND FORM's CARD OF 'crossbandlaw04.PatchProved'. -/
def patchProvedUptoCard : Claim7 := { stood := { row := patchProvedUptoRow, standIns := [], harness := (true, "0d2a6361d0117277170b6b99c938bda2455ed98009332320e2a28814b9346cbd"), looks := false }, kinds := [], alts := [], laidByText := true, laidKinds := [.data, .pinned], laidTests := true, laidLooks := .later }
def PatchProvedUptoCardSaid : Prop := Claim7.holds Tryz.pinned (.plain (OpenSpec.upto patchProvedSpec)) patchProvedUptoCard

/-- THE SECOND FORM's CARD OF 'crossbandlaw04.PatchLeast'. -/
def patchLeastUptoCard : Claim7 := { stood := { row := patchLeastUptoRow, standIns := [], harness := (true, "0d2a6361d0117277170b6b99c938bda2455ed98009332320e2a28814b9346cbd"), looks := false }, kinds := [], alts := [], laidByText := true, laidKinds := [.data, .pinned], laidTests := true, laidLooks := .later }
def PatchLeastUptoCardSaid : Prop := Claim7.holds Tryz.pinned (.plain (OpenSpec.upto patchLeastSpec)) patchLeastUptoCard

/-- THE SECOND FORM's CARD OF 'crossbandlaw04.PatchParted'. -/
def patchPartedUptoCard : Claim7 := { stood := { row := patchPartedUptoRow, standIns := [], harness := (true, "0d2a6361d0117277170b6b99c938bda2455ed98009332320e2a28814b9346cbd"), looks := false }, kinds := [], alts := [], laidByText := true, laidKinds := [.data, .pinned], laidTests := true, laidLooks := .later }
def PatchPartedUptoCardSaid : Prop := Claim7.holds Tryz.pinned (.plain (OpenSpec.upto patchPartedSpec)) patchPartedUptoCard

/-- THE SECOND FORM's CARD OF 'crossbandlaw04.PatchMore'. -/
def patchMoreUptoCard : Claim7 := { stood := { row := patchMoreUptoRow, standIns := [], harness := (true, "0d2a6361d0117277170b6b99c938bda2455ed98009332320e2a28814b9346cbd"), looks := false }, kinds := [], alts := [], laidByText := true, laidKinds := [.data, .pinned], laidTests := true, laidLooks := .later }
def PatchMoreUptoCardSaid : Prop := Claim7.holds Tryz.pinned (.plain (OpenSpec.upto patchMoreSpec)) patchMoreUptoCard

/-- THE SECOND FORM's CARD OF 'crossbandlaw04.PatchTurned'. -/
def patchTurnedUptoCard : Claim7 := { stood := { row := patchTurnedUptoRow, standIns := [], harness := (true, "0d2a6361d0117277170b6b99c938bda2455ed98009332320e2a28814b9346cbd"), looks := false }, kinds := [], alts := [], laidByText := true, laidKinds := [.data, .pinned], laidTests := true, laidLooks := .later }
def PatchTurnedUptoCardSaid : Prop := Claim7.holds Tryz.pinned (.plain (OpenSpec.upto patchTurnedSpec)) patchTurnedUptoCard

/-- THE SECOND FORM's CARD OF 'crossbandlaw04.PatchLargest'. -/
def patchLargestUptoCard : Claim7 := { stood := { row := patchLargestUptoRow, standIns := [], harness := (true, "0d2a6361d0117277170b6b99c938bda2455ed98009332320e2a28814b9346cbd"), looks := false }, kinds := [], alts := [], laidByText := true, laidKinds := [.data, .pinned], laidTests := true, laidLooks := .later }
def PatchLargestUptoCardSaid : Prop := Claim7.holds Tryz.pinned (.plain (OpenSpec.upto patchLargestSpec)) patchLargestUptoCard

/-- THE SECOND FORM's CARD OF 'crossbandlaw04.PatchBeside'. -/
def patchBesideUptoCard : Claim7 := { stood := { row := patchBesideUptoRow, standIns := [], harness := (true, "0d2a6361d0117277170b6b99c938bda2455ed98009332320e2a28814b9346cbd"), looks := false }, kinds := [], alts := [], laidByText := true, laidKinds := [.data, .pinned], laidTests := true, laidLooks := .later }
def PatchBesideUptoCardSaid : Prop := Claim7.holds Tryz.pinned (.plain (OpenSpec.upto patchBesideSpec)) patchBesideUptoCard

/-- THE SECOND FORM's CARD OF 'crossbandlaw04.PatchKnown'. -/
def patchKnownUptoCard : Claim7 := { stood := { row := patchKnownUptoRow, standIns := [], harness := (true, "0d2a6361d0117277170b6b99c938bda2455ed98009332320e2a28814b9346cbd"), looks := false }, kinds := [], alts := [], laidByText := true, laidKinds := [.data, .pinned], laidTests := true, laidLooks := .later }
def PatchKnownUptoCardSaid : Prop := Claim7.holds Tryz.pinned (.plain (OpenSpec.upto patchKnownSpec)) patchKnownUptoCard
end Rows
end Go.Proofs.YtghomjjffllkeaaGreatDoor
