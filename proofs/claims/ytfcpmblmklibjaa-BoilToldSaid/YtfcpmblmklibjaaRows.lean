/-
  No cell of these rows narrows 'for every input' (looked for: loops, veiled, ifaces, maps, wideKeys, modest, calm, conditions, laid).
  DERIVED. THE GIVEN ROWS OF THIS SEAT. 11 by the template 'for every input the law returns true; each argument reads behind the call as it read before'; 0 by the template 'total and deterministic' (their statements: YtfcpmblmklibjaaTotals.lean).
  GIVEN WITH THE SEED: the statements are not yours to turn. If you find one false, say at which input.
  Laid BY PROGRAM, IN A SANDBOX (cutbox-rows.mjs): the forced cells as the released guide's own fill.sh prints them over the translation bf98ee645cbf642f… (all of the seat's roots in one cut). By AI agents, Wed Nov 11 2026. No macro, syntax, notation, axiom, sorry.
-/
import Derived.Test.YtfcpmblmklibjaaChecked
import GoSem.Claim
import GoSem.ClaimJoined
import GoSem.ClaimMapViews
import Derived.JoinedTies
import Derived.KernelRfl
namespace Go.Proofs.Ytfcpmblmklibjaa
/- THE CELL 'sum', in the pinned program and in every row, IS THE sha256 OF THE DUMP (.gsa) THAT YtfcpmblmklibjaaProg.lean LOADS. Nothing in Lean hashes anything: it is a label: what it is worth is what the hold of that sum in a sandbox is worth. -/
noncomputable def Try.pinned : Pinned := { name := "ytfcpmblmklibjaa", sum := "bf98ee645cbf642fa9cccdc77fe47e848700b292e5c81928c38e544949eb5c76", checked := Try.checked }
namespace Rows
def none {H : Type} : Left H := { results := [], args := [] }

/-- 'crossbandlaw10.BoilTrials': WHATEVER THE INPUT: true; the input reads as it did. -/
def boilTrialsSpec : ChangeSpec := { name := "boilTrials", fn := fun _ => fun
  | [d1, d2, d3] => { results := [.lit (.bool true)], args := [d1, d2, d3] }
  | _ => none }
def boilTrialsRow : OpenClaim := { program := "ytfcpmblmklibjaa", sum := "bf98ee645cbf642fa9cccdc77fe47e848700b292e5c81928c38e544949eb5c76", func := "crossband/crossbandlaw10.BoilTrials", spec := "boilTrials", unfollowed := true, recurses := true, plainKeys := false, apart := false }
def BoilTrialsSaid : Prop := boilTrialsRow.holds Try.pinned (OpenSpec.ofChange boilTrialsSpec)

/-- ITS FALSE NEIGHBOUR: 'it returns false'. Refute it at one input. -/
def boilTrialsWrong : ChangeSpec := { name := "boilTrials", fn := fun _ => fun
  | [d1, d2, d3] => { results := [.lit (.bool false)], args := [d1, d2, d3] }
  | _ => none }
def BoilTrialsWrongFalsely : Prop := boilTrialsRow.holds Try.pinned (OpenSpec.ofChange boilTrialsWrong)

/-- 'crossbandlaw10.BoilSets': WHATEVER THE INPUT: true; the input reads as it did. -/
def boilSetsSpec : ChangeSpec := { name := "boilSets", fn := fun _ => fun
  | [d] => { results := [.lit (.bool true)], args := [d] }
  | _ => none }
def boilSetsRow : OpenClaim := { program := "ytfcpmblmklibjaa", sum := "bf98ee645cbf642fa9cccdc77fe47e848700b292e5c81928c38e544949eb5c76", func := "crossband/crossbandlaw10.BoilSets", spec := "boilSets", unfollowed := true, recurses := true, plainKeys := false, apart := false }
def BoilSetsSaid : Prop := boilSetsRow.holds Try.pinned (OpenSpec.ofChange boilSetsSpec)

/-- ITS FALSE NEIGHBOUR: 'it returns false'. Refute it at one input. -/
def boilSetsWrong : ChangeSpec := { name := "boilSets", fn := fun _ => fun
  | [d] => { results := [.lit (.bool false)], args := [d] }
  | _ => none }
def BoilSetsWrongFalsely : Prop := boilSetsRow.holds Try.pinned (OpenSpec.ofChange boilSetsWrong)

/-- 'crossbandlaw10.BoilAparts': WHATEVER THE INPUT: true; the input reads as it did. -/
def boilApartsSpec : ChangeSpec := { name := "boilAparts", fn := fun _ => fun
  | [d1, d2] => { results := [.lit (.bool true)], args := [d1, d2] }
  | _ => none }
def boilApartsRow : OpenClaim := { program := "ytfcpmblmklibjaa", sum := "bf98ee645cbf642fa9cccdc77fe47e848700b292e5c81928c38e544949eb5c76", func := "crossband/crossbandlaw10.BoilAparts", spec := "boilAparts", unfollowed := true, recurses := true, plainKeys := false, apart := false }
def BoilApartsSaid : Prop := boilApartsRow.holds Try.pinned (OpenSpec.ofChange boilApartsSpec)

/-- ITS FALSE NEIGHBOUR: 'it returns false'. Refute it at one input. -/
def boilApartsWrong : ChangeSpec := { name := "boilAparts", fn := fun _ => fun
  | [d1, d2] => { results := [.lit (.bool false)], args := [d1, d2] }
  | _ => none }
def BoilApartsWrongFalsely : Prop := boilApartsRow.holds Try.pinned (OpenSpec.ofChange boilApartsWrong)

/-- 'crossbandlaw10.BoilProved': WHATEVER THE INPUT: true; the input reads as it did. -/
def boilProvedSpec : ChangeSpec := { name := "boilProved", fn := fun _ => fun
  | [d1, d2, d3, d4] => { results := [.lit (.bool true)], args := [d1, d2, d3, d4] }
  | _ => none }
def boilProvedRow : OpenClaim := { program := "ytfcpmblmklibjaa", sum := "bf98ee645cbf642fa9cccdc77fe47e848700b292e5c81928c38e544949eb5c76", func := "crossband/crossbandlaw10.BoilProved", spec := "boilProved", unfollowed := true, recurses := true, plainKeys := false, apart := false }
def BoilProvedSaid : Prop := boilProvedRow.holds Try.pinned (OpenSpec.ofChange boilProvedSpec)

/-- ITS FALSE NEIGHBOUR: 'it returns false'. Refute it at one input. -/
def boilProvedWrong : ChangeSpec := { name := "boilProved", fn := fun _ => fun
  | [d1, d2, d3, d4] => { results := [.lit (.bool false)], args := [d1, d2, d3, d4] }
  | _ => none }
def BoilProvedWrongFalsely : Prop := boilProvedRow.holds Try.pinned (OpenSpec.ofChange boilProvedWrong)

/-- 'crossbandlaw10.BoilEither': WHATEVER THE INPUT: true; the input reads as it did. -/
def boilEitherSpec : ChangeSpec := { name := "boilEither", fn := fun _ => fun
  | [d1, d2] => { results := [.lit (.bool true)], args := [d1, d2] }
  | _ => none }
def boilEitherRow : OpenClaim := { program := "ytfcpmblmklibjaa", sum := "bf98ee645cbf642fa9cccdc77fe47e848700b292e5c81928c38e544949eb5c76", func := "crossband/crossbandlaw10.BoilEither", spec := "boilEither", unfollowed := true, recurses := true, plainKeys := false, apart := false }
def BoilEitherSaid : Prop := boilEitherRow.holds Try.pinned (OpenSpec.ofChange boilEitherSpec)

/-- ITS FALSE NEIGHBOUR: 'it returns false'. Refute it at one input. -/
def boilEitherWrong : ChangeSpec := { name := "boilEither", fn := fun _ => fun
  | [d1, d2] => { results := [.lit (.bool false)], args := [d1, d2] }
  | _ => none }
def BoilEitherWrongFalsely : Prop := boilEitherRow.holds Try.pinned (OpenSpec.ofChange boilEitherWrong)

/-- 'crossbandlaw10.BoilBlamed': WHATEVER THE INPUT: true; the input reads as it did. -/
def boilBlamedSpec : ChangeSpec := { name := "boilBlamed", fn := fun _ => fun
  | [d1, d2, d3] => { results := [.lit (.bool true)], args := [d1, d2, d3] }
  | _ => none }
def boilBlamedRow : OpenClaim := { program := "ytfcpmblmklibjaa", sum := "bf98ee645cbf642fa9cccdc77fe47e848700b292e5c81928c38e544949eb5c76", func := "crossband/crossbandlaw10.BoilBlamed", spec := "boilBlamed", unfollowed := true, recurses := true, plainKeys := false, apart := false }
def BoilBlamedSaid : Prop := boilBlamedRow.holds Try.pinned (OpenSpec.ofChange boilBlamedSpec)

/-- ITS FALSE NEIGHBOUR: 'it returns false'. Refute it at one input. -/
def boilBlamedWrong : ChangeSpec := { name := "boilBlamed", fn := fun _ => fun
  | [d1, d2, d3] => { results := [.lit (.bool false)], args := [d1, d2, d3] }
  | _ => none }
def BoilBlamedWrongFalsely : Prop := boilBlamedRow.holds Try.pinned (OpenSpec.ofChange boilBlamedWrong)

/-- 'crossbandlaw10.BoilMore': WHATEVER THE INPUT: true; the input reads as it did. -/
def boilMoreSpec : ChangeSpec := { name := "boilMore", fn := fun _ => fun
  | [d1, d2] => { results := [.lit (.bool true)], args := [d1, d2] }
  | _ => none }
def boilMoreRow : OpenClaim := { program := "ytfcpmblmklibjaa", sum := "bf98ee645cbf642fa9cccdc77fe47e848700b292e5c81928c38e544949eb5c76", func := "crossband/crossbandlaw10.BoilMore", spec := "boilMore", unfollowed := true, recurses := true, plainKeys := false, apart := false }
def BoilMoreSaid : Prop := boilMoreRow.holds Try.pinned (OpenSpec.ofChange boilMoreSpec)

/-- ITS FALSE NEIGHBOUR: 'it returns false'. Refute it at one input. -/
def boilMoreWrong : ChangeSpec := { name := "boilMore", fn := fun _ => fun
  | [d1, d2] => { results := [.lit (.bool false)], args := [d1, d2] }
  | _ => none }
def BoilMoreWrongFalsely : Prop := boilMoreRow.holds Try.pinned (OpenSpec.ofChange boilMoreWrong)

/-- 'crossbandlaw10.BoilLearned': WHATEVER THE INPUT: true; the input reads as it did. -/
def boilLearnedSpec : ChangeSpec := { name := "boilLearned", fn := fun _ => fun
  | [d1, d2, d3] => { results := [.lit (.bool true)], args := [d1, d2, d3] }
  | _ => none }
def boilLearnedRow : OpenClaim := { program := "ytfcpmblmklibjaa", sum := "bf98ee645cbf642fa9cccdc77fe47e848700b292e5c81928c38e544949eb5c76", func := "crossband/crossbandlaw10.BoilLearned", spec := "boilLearned", unfollowed := true, recurses := true, plainKeys := false, apart := false }
def BoilLearnedSaid : Prop := boilLearnedRow.holds Try.pinned (OpenSpec.ofChange boilLearnedSpec)

/-- ITS FALSE NEIGHBOUR: 'it returns false'. Refute it at one input. -/
def boilLearnedWrong : ChangeSpec := { name := "boilLearned", fn := fun _ => fun
  | [d1, d2, d3] => { results := [.lit (.bool false)], args := [d1, d2, d3] }
  | _ => none }
def BoilLearnedWrongFalsely : Prop := boilLearnedRow.holds Try.pinned (OpenSpec.ofChange boilLearnedWrong)

/-- 'crossbandlaw10.BoilTold': WHATEVER THE INPUT: true; the input reads as it did. -/
def boilToldSpec : ChangeSpec := { name := "boilTold", fn := fun _ => fun
  | [d1, d2, d3] => { results := [.lit (.bool true)], args := [d1, d2, d3] }
  | _ => none }
def boilToldRow : OpenClaim := { program := "ytfcpmblmklibjaa", sum := "bf98ee645cbf642fa9cccdc77fe47e848700b292e5c81928c38e544949eb5c76", func := "crossband/crossbandlaw10.BoilTold", spec := "boilTold", unfollowed := true, recurses := true, plainKeys := false, apart := false }
def BoilToldSaid : Prop := boilToldRow.holds Try.pinned (OpenSpec.ofChange boilToldSpec)

/-- ITS FALSE NEIGHBOUR: 'it returns false'. Refute it at one input. -/
def boilToldWrong : ChangeSpec := { name := "boilTold", fn := fun _ => fun
  | [d1, d2, d3] => { results := [.lit (.bool false)], args := [d1, d2, d3] }
  | _ => none }
def BoilToldWrongFalsely : Prop := boilToldRow.holds Try.pinned (OpenSpec.ofChange boilToldWrong)

/-- 'crossbandlaw10.BoilTurned': WHATEVER THE INPUT: true; the input reads as it did. -/
def boilTurnedSpec : ChangeSpec := { name := "boilTurned", fn := fun _ => fun
  | [d1, d2, d3] => { results := [.lit (.bool true)], args := [d1, d2, d3] }
  | _ => none }
def boilTurnedRow : OpenClaim := { program := "ytfcpmblmklibjaa", sum := "bf98ee645cbf642fa9cccdc77fe47e848700b292e5c81928c38e544949eb5c76", func := "crossband/crossbandlaw10.BoilTurned", spec := "boilTurned", unfollowed := true, recurses := true, plainKeys := false, apart := false }
def BoilTurnedSaid : Prop := boilTurnedRow.holds Try.pinned (OpenSpec.ofChange boilTurnedSpec)

/-- ITS FALSE NEIGHBOUR: 'it returns false'. Refute it at one input. -/
def boilTurnedWrong : ChangeSpec := { name := "boilTurned", fn := fun _ => fun
  | [d1, d2, d3] => { results := [.lit (.bool false)], args := [d1, d2, d3] }
  | _ => none }
def BoilTurnedWrongFalsely : Prop := boilTurnedRow.holds Try.pinned (OpenSpec.ofChange boilTurnedWrong)

/-- 'crossbandlaw10.BoilKnown': WHATEVER THE INPUT: true; the input reads as it did. -/
def boilKnownSpec : ChangeSpec := { name := "boilKnown", fn := fun _ => fun
  | [] => { results := [.lit (.bool true)], args := [] }
  | _ => none }
def boilKnownRow : OpenClaim := { program := "ytfcpmblmklibjaa", sum := "bf98ee645cbf642fa9cccdc77fe47e848700b292e5c81928c38e544949eb5c76", func := "crossband/crossbandlaw10.BoilKnown", spec := "boilKnown", unfollowed := true, recurses := true, plainKeys := false, apart := false }
def BoilKnownSaid : Prop := boilKnownRow.holds Try.pinned (OpenSpec.ofChange boilKnownSpec)

/-- ITS FALSE NEIGHBOUR: 'it returns false'. Refute it at one input. -/
def boilKnownWrong : ChangeSpec := { name := "boilKnown", fn := fun _ => fun
  | [] => { results := [.lit (.bool false)], args := [] }
  | _ => none }
def BoilKnownWrongFalsely : Prop := boilKnownRow.holds Try.pinned (OpenSpec.ofChange boilKnownWrong)

/- THE SECOND FORM. 'bulk': how many values and letters a reading holds, each counted each time it is reached (what is shared counts as often as it is met; a slice's spare places count too). A statement '..UptoSaid' is the law's where the arguments, and the package variables that the reading takes, are together of bulk at most 1048576: NARROWER than '..Said'. Prove '..Said' where nothing that the law and all that it calls make is longer than what came in: it says more and counts as full. Else prove '..UptoSaid'. A law counts once. -/
mutual
def uptoBulk {H : Type} : DataW H → Nat
  | .lit (.string bytes) => bytes.length + 1
  | .lit _ => 1
  | .nil => 1
  | .ptr d => uptoBulk d + 1
  | .slice elems spare => uptoBulkAll elems + uptoBulkAll spare + 1
  | .agg parts => uptoBulkAll parts + 1
  | .iface _ d => uptoBulk d + 1
  | .map entries => uptoBulkEntries entries + 1
  | .held _ => 1
def uptoBulkAll {H : Type} : List (DataW H) → Nat
  | [] => 0
  | d :: r => uptoBulk d + uptoBulkAll r
def uptoBulkEntries {H : Type} : List (Lit × DataW H) → Nat
  | [] => 0
  | x :: r => uptoBulkEntry x + uptoBulkEntries r
def uptoBulkEntry {H : Type} : Lit × DataW H → Nat
  | (.string bytes, d) => bytes.length + uptoBulk d + 1
  | (_, d) => uptoBulk d + 1
 end
def uptoSmall : (H : Type) → List (DataW H) → Bool := fun _ ds => decide (uptoBulkAll ds ≤ 1048576)
def OpenSpec.upto (s : _root_.Go.ChangeSpec) : _root_.Go.OpenSpec := { _root_.Go.OpenSpec.ofChange s with cond := some uptoSmall }

/-- 'crossbandlaw10.BoilTrials', WHERE WHAT IT READS IS OF BULK AT MOST 1048576: true; the input reads as it did. -/
def boilTrialsUptoRow : OpenClaim := { program := "ytfcpmblmklibjaa", sum := "bf98ee645cbf642fa9cccdc77fe47e848700b292e5c81928c38e544949eb5c76", func := "crossband/crossbandlaw10.BoilTrials", spec := "boilTrials", unfollowed := true, recurses := true, plainKeys := false, apart := false, narrowed := true }
def BoilTrialsUptoSaid : Prop := boilTrialsUptoRow.holds Try.pinned (OpenSpec.upto boilTrialsSpec)

/-- 'crossbandlaw10.BoilSets', WHERE WHAT IT READS IS OF BULK AT MOST 1048576: true; the input reads as it did. -/
def boilSetsUptoRow : OpenClaim := { program := "ytfcpmblmklibjaa", sum := "bf98ee645cbf642fa9cccdc77fe47e848700b292e5c81928c38e544949eb5c76", func := "crossband/crossbandlaw10.BoilSets", spec := "boilSets", unfollowed := true, recurses := true, plainKeys := false, apart := false, narrowed := true }
def BoilSetsUptoSaid : Prop := boilSetsUptoRow.holds Try.pinned (OpenSpec.upto boilSetsSpec)

/-- 'crossbandlaw10.BoilAparts', WHERE WHAT IT READS IS OF BULK AT MOST 1048576: true; the input reads as it did. -/
def boilApartsUptoRow : OpenClaim := { program := "ytfcpmblmklibjaa", sum := "bf98ee645cbf642fa9cccdc77fe47e848700b292e5c81928c38e544949eb5c76", func := "crossband/crossbandlaw10.BoilAparts", spec := "boilAparts", unfollowed := true, recurses := true, plainKeys := false, apart := false, narrowed := true }
def BoilApartsUptoSaid : Prop := boilApartsUptoRow.holds Try.pinned (OpenSpec.upto boilApartsSpec)

/-- 'crossbandlaw10.BoilProved', WHERE WHAT IT READS IS OF BULK AT MOST 1048576: true; the input reads as it did. -/
def boilProvedUptoRow : OpenClaim := { program := "ytfcpmblmklibjaa", sum := "bf98ee645cbf642fa9cccdc77fe47e848700b292e5c81928c38e544949eb5c76", func := "crossband/crossbandlaw10.BoilProved", spec := "boilProved", unfollowed := true, recurses := true, plainKeys := false, apart := false, narrowed := true }
def BoilProvedUptoSaid : Prop := boilProvedUptoRow.holds Try.pinned (OpenSpec.upto boilProvedSpec)

/-- 'crossbandlaw10.BoilEither', WHERE WHAT IT READS IS OF BULK AT MOST 1048576: true; the input reads as it did. -/
def boilEitherUptoRow : OpenClaim := { program := "ytfcpmblmklibjaa", sum := "bf98ee645cbf642fa9cccdc77fe47e848700b292e5c81928c38e544949eb5c76", func := "crossband/crossbandlaw10.BoilEither", spec := "boilEither", unfollowed := true, recurses := true, plainKeys := false, apart := false, narrowed := true }
def BoilEitherUptoSaid : Prop := boilEitherUptoRow.holds Try.pinned (OpenSpec.upto boilEitherSpec)

/-- 'crossbandlaw10.BoilBlamed', WHERE WHAT IT READS IS OF BULK AT MOST 1048576: true; the input reads as it did. -/
def boilBlamedUptoRow : OpenClaim := { program := "ytfcpmblmklibjaa", sum := "bf98ee645cbf642fa9cccdc77fe47e848700b292e5c81928c38e544949eb5c76", func := "crossband/crossbandlaw10.BoilBlamed", spec := "boilBlamed", unfollowed := true, recurses := true, plainKeys := false, apart := false, narrowed := true }
def BoilBlamedUptoSaid : Prop := boilBlamedUptoRow.holds Try.pinned (OpenSpec.upto boilBlamedSpec)

/-- 'crossbandlaw10.BoilMore', WHERE WHAT IT READS IS OF BULK AT MOST 1048576: true; the input reads as it did. -/
def boilMoreUptoRow : OpenClaim := { program := "ytfcpmblmklibjaa", sum := "bf98ee645cbf642fa9cccdc77fe47e848700b292e5c81928c38e544949eb5c76", func := "crossband/crossbandlaw10.BoilMore", spec := "boilMore", unfollowed := true, recurses := true, plainKeys := false, apart := false, narrowed := true }
def BoilMoreUptoSaid : Prop := boilMoreUptoRow.holds Try.pinned (OpenSpec.upto boilMoreSpec)

/-- 'crossbandlaw10.BoilLearned', WHERE WHAT IT READS IS OF BULK AT MOST 1048576: true; the input reads as it did. -/
def boilLearnedUptoRow : OpenClaim := { program := "ytfcpmblmklibjaa", sum := "bf98ee645cbf642fa9cccdc77fe47e848700b292e5c81928c38e544949eb5c76", func := "crossband/crossbandlaw10.BoilLearned", spec := "boilLearned", unfollowed := true, recurses := true, plainKeys := false, apart := false, narrowed := true }
def BoilLearnedUptoSaid : Prop := boilLearnedUptoRow.holds Try.pinned (OpenSpec.upto boilLearnedSpec)

/-- 'crossbandlaw10.BoilTold', WHERE WHAT IT READS IS OF BULK AT MOST 1048576: true; the input reads as it did. -/
def boilToldUptoRow : OpenClaim := { program := "ytfcpmblmklibjaa", sum := "bf98ee645cbf642fa9cccdc77fe47e848700b292e5c81928c38e544949eb5c76", func := "crossband/crossbandlaw10.BoilTold", spec := "boilTold", unfollowed := true, recurses := true, plainKeys := false, apart := false, narrowed := true }
def BoilToldUptoSaid : Prop := boilToldUptoRow.holds Try.pinned (OpenSpec.upto boilToldSpec)

/-- 'crossbandlaw10.BoilTurned', WHERE WHAT IT READS IS OF BULK AT MOST 1048576: true; the input reads as it did. -/
def boilTurnedUptoRow : OpenClaim := { program := "ytfcpmblmklibjaa", sum := "bf98ee645cbf642fa9cccdc77fe47e848700b292e5c81928c38e544949eb5c76", func := "crossband/crossbandlaw10.BoilTurned", spec := "boilTurned", unfollowed := true, recurses := true, plainKeys := false, apart := false, narrowed := true }
def BoilTurnedUptoSaid : Prop := boilTurnedUptoRow.holds Try.pinned (OpenSpec.upto boilTurnedSpec)

/-- 'crossbandlaw10.BoilKnown', WHERE WHAT IT READS IS OF BULK AT MOST 1048576: true; the input reads as it did. -/
def boilKnownUptoRow : OpenClaim := { program := "ytfcpmblmklibjaa", sum := "bf98ee645cbf642fa9cccdc77fe47e848700b292e5c81928c38e544949eb5c76", func := "crossband/crossbandlaw10.BoilKnown", spec := "boilKnown", unfollowed := true, recurses := true, plainKeys := false, apart := false, narrowed := true }
def BoilKnownUptoSaid : Prop := boilKnownUptoRow.holds Try.pinned (OpenSpec.upto boilKnownSpec)

end Rows
end Go.Proofs.Ytfcpmblmklibjaa
