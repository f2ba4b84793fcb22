/-
  NARROWER THAN 'FOR EVERY INPUT', by the rows' own cells (each row's printed sentence says how): PatchSheets: laid · PatchFewests: laid · PatchAlones: laid · PatchTurns: laid · PatchProved: laid · PatchLeast: laid · PatchParted: laid · PatchMore: laid · PatchTurned: laid · PatchLargest: laid · PatchBeside: laid · PatchKnown: laid.
  DERIVED. THE GIVEN ROWS OF THIS SEAT. 12 by the template 'for every input the law returns true; each argument reads behind the call as it read before'; 0 by the template 'total and deterministic' (their statements: YtghomjjffllkeaaGreatDoorTotals.lean).
  GIVEN WITH THE SEED: the statements are not yours to turn. If you find one false, say at which input.
  Laid BY PROGRAM, IN A SANDBOX (cutbox-rows.mjs): the forced cells as the released guide's own fill.sh prints them over the translation 155e0c49eee007a4… (all of the seat's roots in one cut). By AI agents, Wed Nov 11 2026. No macro, syntax, notation, axiom, sorry.
-/
import Derived.Test.YtghomjjffllkeaaGreatDoorChecked
import GoSem.PinnedTables
import GoSem.Claim
import GoSem.ClaimJoined
import GoSem.ClaimMapViews
import Derived.JoinedTies
import Derived.KernelRfl
namespace Go.Proofs.YtghomjjffllkeaaGreatDoor
/- THE CELL 'sum', in the pinned program and in every row, IS THE sha256 OF THE DUMP (.gsa) THAT YtghomjjffllkeaaGreatDoorProg.lean LOADS. Nothing in Lean hashes anything: it is a label: what it is worth is what the hold of that sum in a sandbox is worth. -/
noncomputable def Tryz.pinned : Pinned := { name := "ytghomjjffllkeaagreatdoor", sum := "155e0c49eee007a499e3b5ce9ea0c4f25ea5048517b76e2873a6110ad15898bc", checked := Tryz.checked }
namespace Rows
def none {H : Type} : Left H := { results := [], args := [] }

/- WHAT THE LISTED PACKAGE-LEVEL VARIABLES READ AS WHEN THE CALL BEGINS. Each datum BY PROGRAM (the guide's laid-datum.mjs) off the statement by which the dump's own 'gosem.cut.vars' lays the variable. In a bare row this is a premise. The card (YtghomjjffllkeaaGreatDoorCards.lean) ties it to the program's text. -/
def laid_unicode_utf8_acceptRanges {H : Type} : DataW H := .agg [.agg [.lit (.int .u8 128), .lit (.int .u8 191)], .agg [.lit (.int .u8 160), .lit (.int .u8 191)], .agg [.lit (.int .u8 128), .lit (.int .u8 159)], .agg [.lit (.int .u8 144), .lit (.int .u8 191)], .agg [.lit (.int .u8 128), .lit (.int .u8 143)], .agg [.lit (.int .u8 0), .lit (.int .u8 0)], .agg [.lit (.int .u8 0), .lit (.int .u8 0)], .agg [.lit (.int .u8 0), .lit (.int .u8 0)], .agg [.lit (.int .u8 0), .lit (.int .u8 0)], .agg [.lit (.int .u8 0), .lit (.int .u8 0)], .agg [.lit (.int .u8 0), .lit (.int .u8 0)], .agg [.lit (.int .u8 0), .lit (.int .u8 0)], .agg [.lit (.int .u8 0), .lit (.int .u8 0)], .agg [.lit (.int .u8 0), .lit (.int .u8 0)], .agg [.lit (.int .u8 0), .lit (.int .u8 0)], .agg [.lit (.int .u8 0), .lit (.int .u8 0)]]
/-- One of Go's own tables, pinned by name: the form's constant. -/
def laid_unicode_utf8_first : DataW Unit := Go.Pinned.utf8First

/-- 'crossbandlaw04.PatchSheets': WHATEVER THE INPUT: true; the input reads as it did. -/
def patchSheetsSpec : ChangeSpec := { name := "patchSheets", fn := fun _ => fun
  | [d1, d2, d3] => { results := [.lit (.bool true)], args := [d1, d2, d3] }
  | _ => none }
def patchSheetsRow : OpenClaim := { program := "ytghomjjffllkeaagreatdoor", sum := "155e0c49eee007a499e3b5ce9ea0c4f25ea5048517b76e2873a6110ad15898bc", func := "crossband/crossbandlaw04.PatchSheets", spec := "patchSheets", inPlace := ["internal/abi.NoEscape", "internal/bytealg.MakeNoZero", "internal/bytealg.IndexByteString", "internal/bytealg.IndexString", "internal/bytealg.CountString"], unfollowed := true, recurses := true, named := ["unicode/utf8.first", "unicode/utf8.acceptRanges", "internal/bytealg.MaxLen"], plainKeys := false, apart := false, laid := [("unicode/utf8.acceptRanges", laid_unicode_utf8_acceptRanges), ("unicode/utf8.first", laid_unicode_utf8_first)] }
def PatchSheetsSaid : Prop := patchSheetsRow.holds Tryz.pinned (OpenSpec.ofChange patchSheetsSpec)

/-- ITS FALSE NEIGHBOUR: 'it returns false'. Refute it at one input. -/
def patchSheetsWrong : ChangeSpec := { name := "patchSheets", fn := fun _ => fun
  | [d1, d2, d3] => { results := [.lit (.bool false)], args := [d1, d2, d3] }
  | _ => none }
def PatchSheetsWrongFalsely : Prop := patchSheetsRow.holds Tryz.pinned (OpenSpec.ofChange patchSheetsWrong)

/-- 'crossbandlaw04.PatchFewests': WHATEVER THE INPUT: true; the input reads as it did. -/
def patchFewestsSpec : ChangeSpec := { name := "patchFewests", fn := fun _ => fun
  | [d] => { results := [.lit (.bool true)], args := [d] }
  | _ => none }
def patchFewestsRow : OpenClaim := { program := "ytghomjjffllkeaagreatdoor", sum := "155e0c49eee007a499e3b5ce9ea0c4f25ea5048517b76e2873a6110ad15898bc", func := "crossband/crossbandlaw04.PatchFewests", spec := "patchFewests", inPlace := ["internal/abi.NoEscape", "internal/bytealg.MakeNoZero", "internal/bytealg.IndexByteString", "internal/bytealg.IndexString", "internal/bytealg.CountString"], unfollowed := true, recurses := true, named := ["unicode/utf8.first", "unicode/utf8.acceptRanges", "internal/bytealg.MaxLen"], plainKeys := false, apart := false, laid := [("unicode/utf8.acceptRanges", laid_unicode_utf8_acceptRanges), ("unicode/utf8.first", laid_unicode_utf8_first)] }
def PatchFewestsSaid : Prop := patchFewestsRow.holds Tryz.pinned (OpenSpec.ofChange patchFewestsSpec)

/-- ITS FALSE NEIGHBOUR: 'it returns false'. Refute it at one input. -/
def patchFewestsWrong : ChangeSpec := { name := "patchFewests", fn := fun _ => fun
  | [d] => { results := [.lit (.bool false)], args := [d] }
  | _ => none }
def PatchFewestsWrongFalsely : Prop := patchFewestsRow.holds Tryz.pinned (OpenSpec.ofChange patchFewestsWrong)

/-- 'crossbandlaw04.PatchAlones': WHATEVER THE INPUT: true; the input reads as it did. -/
def patchAlonesSpec : ChangeSpec := { name := "patchAlones", fn := fun _ => fun
  | [d1, d2] => { results := [.lit (.bool true)], args := [d1, d2] }
  | _ => none }
def patchAlonesRow : OpenClaim := { program := "ytghomjjffllkeaagreatdoor", sum := "155e0c49eee007a499e3b5ce9ea0c4f25ea5048517b76e2873a6110ad15898bc", func := "crossband/crossbandlaw04.PatchAlones", spec := "patchAlones", inPlace := ["internal/abi.NoEscape", "internal/bytealg.MakeNoZero", "internal/bytealg.IndexByteString", "internal/bytealg.IndexString", "internal/bytealg.CountString"], unfollowed := true, recurses := true, named := ["unicode/utf8.first", "unicode/utf8.acceptRanges", "internal/bytealg.MaxLen"], plainKeys := false, apart := false, laid := [("unicode/utf8.acceptRanges", laid_unicode_utf8_acceptRanges), ("unicode/utf8.first", laid_unicode_utf8_first)] }
def PatchAlonesSaid : Prop := patchAlonesRow.holds Tryz.pinned (OpenSpec.ofChange patchAlonesSpec)

/-- ITS FALSE NEIGHBOUR: 'it returns false'. Refute it at one input. -/
def patchAlonesWrong : ChangeSpec := { name := "patchAlones", fn := fun _ => fun
  | [d1, d2] => { results := [.lit (.bool false)], args := [d1, d2] }
  | _ => none }
def PatchAlonesWrongFalsely : Prop := patchAlonesRow.holds Tryz.pinned (OpenSpec.ofChange patchAlonesWrong)

/-- 'crossbandlaw04.PatchTurns': WHATEVER THE INPUT: true; the input reads as it did. -/
def patchTurnsSpec : ChangeSpec := { name := "patchTurns", fn := fun _ => fun
  | [d1, d2, d3] => { results := [.lit (.bool true)], args := [d1, d2, d3] }
  | _ => none }
def patchTurnsRow : OpenClaim := { program := "ytghomjjffllkeaagreatdoor", sum := "155e0c49eee007a499e3b5ce9ea0c4f25ea5048517b76e2873a6110ad15898bc", func := "crossband/crossbandlaw04.PatchTurns", spec := "patchTurns", inPlace := ["internal/abi.NoEscape", "internal/bytealg.MakeNoZero", "internal/bytealg.IndexByteString", "internal/bytealg.IndexString", "internal/bytealg.CountString"], unfollowed := true, recurses := true, named := ["unicode/utf8.first", "unicode/utf8.acceptRanges", "internal/bytealg.MaxLen"], plainKeys := false, apart := false, laid := [("unicode/utf8.acceptRanges", laid_unicode_utf8_acceptRanges), ("unicode/utf8.first", laid_unicode_utf8_first)] }
def PatchTurnsSaid : Prop := patchTurnsRow.holds Tryz.pinned (OpenSpec.ofChange patchTurnsSpec)

/-- ITS FALSE NEIGHBOUR: 'it returns false'. Refute it at one input. -/
def patchTurnsWrong : ChangeSpec := { name := "patchTurns", fn := fun _ => fun
  | [d1, d2, d3] => { results := [.lit (.bool false)], args := [d1, d2, d3] }
  | _ => none }
def PatchTurnsWrongFalsely : Prop := patchTurnsRow.holds Tryz.pinned (OpenSpec.ofChange patchTurnsWrong)

/-- 'crossbandlaw04.PatchProved': WHATEVER THE INPUT: true; the input reads as it did. -/
def patchProvedSpec : ChangeSpec := { name := "patchProved", fn := fun _ => fun
  | [d1, d2, d3] => { results := [.lit (.bool true)], args := [d1, d2, d3] }
  | _ => none }
def patchProvedRow : OpenClaim := { program := "ytghomjjffllkeaagreatdoor", sum := "155e0c49eee007a499e3b5ce9ea0c4f25ea5048517b76e2873a6110ad15898bc", func := "crossband/crossbandlaw04.PatchProved", spec := "patchProved", inPlace := ["internal/abi.NoEscape", "internal/bytealg.MakeNoZero", "internal/bytealg.IndexByteString", "internal/bytealg.IndexString", "internal/bytealg.CountString"], unfollowed := true, recurses := true, named := ["unicode/utf8.first", "unicode/utf8.acceptRanges", "internal/bytealg.MaxLen"], plainKeys := false, apart := false, laid := [("unicode/utf8.acceptRanges", laid_unicode_utf8_acceptRanges), ("unicode/utf8.first", laid_unicode_utf8_first)] }
def PatchProvedSaid : Prop := patchProvedRow.holds Tryz.pinned (OpenSpec.ofChange patchProvedSpec)

/-- ITS FALSE NEIGHBOUR: 'it returns false'. Refute it at one input. -/
def patchProvedWrong : ChangeSpec := { name := "patchProved", fn := fun _ => fun
  | [d1, d2, d3] => { results := [.lit (.bool false)], args := [d1, d2, d3] }
  | _ => none }
def PatchProvedWrongFalsely : Prop := patchProvedRow.holds Tryz.pinned (OpenSpec.ofChange patchProvedWrong)

/-- 'crossbandlaw04.PatchLeast': WHATEVER THE INPUT: true; the input reads as it did. -/
def patchLeastSpec : ChangeSpec := { name := "patchLeast", fn := fun _ => fun
  | [d1, d2, d3] => { results := [.lit (.bool true)], args := [d1, d2, d3] }
  | _ => none }
def patchLeastRow : OpenClaim := { program := "ytghomjjffllkeaagreatdoor", sum := "155e0c49eee007a499e3b5ce9ea0c4f25ea5048517b76e2873a6110ad15898bc", func := "crossband/crossbandlaw04.PatchLeast", spec := "patchLeast", inPlace := ["internal/abi.NoEscape", "internal/bytealg.MakeNoZero", "internal/bytealg.IndexByteString", "internal/bytealg.IndexString", "internal/bytealg.CountString"], unfollowed := true, recurses := true, named := ["unicode/utf8.first", "unicode/utf8.acceptRanges", "internal/bytealg.MaxLen"], plainKeys := false, apart := false, laid := [("unicode/utf8.acceptRanges", laid_unicode_utf8_acceptRanges), ("unicode/utf8.first", laid_unicode_utf8_first)] }
def PatchLeastSaid : Prop := patchLeastRow.holds Tryz.pinned (OpenSpec.ofChange patchLeastSpec)

/-- ITS FALSE NEIGHBOUR: 'it returns false'. Refute it at one input. -/
def patchLeastWrong : ChangeSpec := { name := "patchLeast", fn := fun _ => fun
  | [d1, d2, d3] => { results := [.lit (.bool false)], args := [d1, d2, d3] }
  | _ => none }
def PatchLeastWrongFalsely : Prop := patchLeastRow.holds Tryz.pinned (OpenSpec.ofChange patchLeastWrong)

/-- 'crossbandlaw04.PatchParted': WHATEVER THE INPUT: true; the input reads as it did. -/
def patchPartedSpec : ChangeSpec := { name := "patchParted", fn := fun _ => fun
  | [d1, d2, d3] => { results := [.lit (.bool true)], args := [d1, d2, d3] }
  | _ => none }
def patchPartedRow : OpenClaim := { program := "ytghomjjffllkeaagreatdoor", sum := "155e0c49eee007a499e3b5ce9ea0c4f25ea5048517b76e2873a6110ad15898bc", func := "crossband/crossbandlaw04.PatchParted", spec := "patchParted", inPlace := ["internal/abi.NoEscape", "internal/bytealg.MakeNoZero", "internal/bytealg.IndexByteString", "internal/bytealg.IndexString", "internal/bytealg.CountString"], unfollowed := true, recurses := true, named := ["unicode/utf8.first", "unicode/utf8.acceptRanges", "internal/bytealg.MaxLen"], plainKeys := false, apart := false, laid := [("unicode/utf8.acceptRanges", laid_unicode_utf8_acceptRanges), ("unicode/utf8.first", laid_unicode_utf8_first)] }
def PatchPartedSaid : Prop := patchPartedRow.holds Tryz.pinned (OpenSpec.ofChange patchPartedSpec)

/-- ITS FALSE NEIGHBOUR: 'it returns false'. Refute it at one input. -/
def patchPartedWrong : ChangeSpec := { name := "patchParted", fn := fun _ => fun
  | [d1, d2, d3] => { results := [.lit (.bool false)], args := [d1, d2, d3] }
  | _ => none }
def PatchPartedWrongFalsely : Prop := patchPartedRow.holds Tryz.pinned (OpenSpec.ofChange patchPartedWrong)

/-- 'crossbandlaw04.PatchMore': WHATEVER THE INPUT: true; the input reads as it did. -/
def patchMoreSpec : ChangeSpec := { name := "patchMore", fn := fun _ => fun
  | [d1, d2, d3, d4] => { results := [.lit (.bool true)], args := [d1, d2, d3, d4] }
  | _ => none }
def patchMoreRow : OpenClaim := { program := "ytghomjjffllkeaagreatdoor", sum := "155e0c49eee007a499e3b5ce9ea0c4f25ea5048517b76e2873a6110ad15898bc", func := "crossband/crossbandlaw04.PatchMore", spec := "patchMore", inPlace := ["internal/abi.NoEscape", "internal/bytealg.MakeNoZero", "internal/bytealg.IndexByteString", "internal/bytealg.IndexString", "internal/bytealg.CountString"], unfollowed := true, recurses := true, named := ["unicode/utf8.first", "unicode/utf8.acceptRanges", "internal/bytealg.MaxLen"], plainKeys := false, apart := false, laid := [("unicode/utf8.acceptRanges", laid_unicode_utf8_acceptRanges), ("unicode/utf8.first", laid_unicode_utf8_first)] }
def PatchMoreSaid : Prop := patchMoreRow.holds Tryz.pinned (OpenSpec.ofChange patchMoreSpec)

/-- ITS FALSE NEIGHBOUR: 'it returns false'. Refute it at one input. -/
def patchMoreWrong : ChangeSpec := { name := "patchMore", fn := fun _ => fun
  | [d1, d2, d3, d4] => { results := [.lit (.bool false)], args := [d1, d2, d3, d4] }
  | _ => none }
def PatchMoreWrongFalsely : Prop := patchMoreRow.holds Tryz.pinned (OpenSpec.ofChange patchMoreWrong)

/-- 'crossbandlaw04.PatchTurned': WHATEVER THE INPUT: true; the input reads as it did. -/
def patchTurnedSpec : ChangeSpec := { name := "patchTurned", fn := fun _ => fun
  | [d1, d2] => { results := [.lit (.bool true)], args := [d1, d2] }
  | _ => none }
def patchTurnedRow : OpenClaim := { program := "ytghomjjffllkeaagreatdoor", sum := "155e0c49eee007a499e3b5ce9ea0c4f25ea5048517b76e2873a6110ad15898bc", func := "crossband/crossbandlaw04.PatchTurned", spec := "patchTurned", inPlace := ["internal/abi.NoEscape", "internal/bytealg.MakeNoZero", "internal/bytealg.IndexByteString", "internal/bytealg.IndexString", "internal/bytealg.CountString"], unfollowed := true, recurses := true, named := ["unicode/utf8.first", "unicode/utf8.acceptRanges", "internal/bytealg.MaxLen"], plainKeys := false, apart := false, laid := [("unicode/utf8.acceptRanges", laid_unicode_utf8_acceptRanges), ("unicode/utf8.first", laid_unicode_utf8_first)] }
def PatchTurnedSaid : Prop := patchTurnedRow.holds Tryz.pinned (OpenSpec.ofChange patchTurnedSpec)

/-- ITS FALSE NEIGHBOUR: 'it returns false'. Refute it at one input. -/
def patchTurnedWrong : ChangeSpec := { name := "patchTurned", fn := fun _ => fun
  | [d1, d2] => { results := [.lit (.bool false)], args := [d1, d2] }
  | _ => none }
def PatchTurnedWrongFalsely : Prop := patchTurnedRow.holds Tryz.pinned (OpenSpec.ofChange patchTurnedWrong)

/-- 'crossbandlaw04.PatchLargest': WHATEVER THE INPUT: true; the input reads as it did. -/
def patchLargestSpec : ChangeSpec := { name := "patchLargest", fn := fun _ => fun
  | [d1, d2] => { results := [.lit (.bool true)], args := [d1, d2] }
  | _ => none }
def patchLargestRow : OpenClaim := { program := "ytghomjjffllkeaagreatdoor", sum := "155e0c49eee007a499e3b5ce9ea0c4f25ea5048517b76e2873a6110ad15898bc", func := "crossband/crossbandlaw04.PatchLargest", spec := "patchLargest", inPlace := ["internal/abi.NoEscape", "internal/bytealg.MakeNoZero", "internal/bytealg.IndexByteString", "internal/bytealg.IndexString", "internal/bytealg.CountString"], unfollowed := true, recurses := true, named := ["unicode/utf8.first", "unicode/utf8.acceptRanges", "internal/bytealg.MaxLen"], plainKeys := false, apart := false, laid := [("unicode/utf8.acceptRanges", laid_unicode_utf8_acceptRanges), ("unicode/utf8.first", laid_unicode_utf8_first)] }
def PatchLargestSaid : Prop := patchLargestRow.holds Tryz.pinned (OpenSpec.ofChange patchLargestSpec)

/-- ITS FALSE NEIGHBOUR: 'it returns false'. Refute it at one input. -/
def patchLargestWrong : ChangeSpec := { name := "patchLargest", fn := fun _ => fun
  | [d1, d2] => { results := [.lit (.bool false)], args := [d1, d2] }
  | _ => none }
def PatchLargestWrongFalsely : Prop := patchLargestRow.holds Tryz.pinned (OpenSpec.ofChange patchLargestWrong)

/-- 'crossbandlaw04.PatchBeside': WHATEVER THE INPUT: true; the input reads as it did. -/
def patchBesideSpec : ChangeSpec := { name := "patchBeside", fn := fun _ => fun
  | [d1, d2] => { results := [.lit (.bool true)], args := [d1, d2] }
  | _ => none }
def patchBesideRow : OpenClaim := { program := "ytghomjjffllkeaagreatdoor", sum := "155e0c49eee007a499e3b5ce9ea0c4f25ea5048517b76e2873a6110ad15898bc", func := "crossband/crossbandlaw04.PatchBeside", spec := "patchBeside", inPlace := ["internal/abi.NoEscape", "internal/bytealg.MakeNoZero", "internal/bytealg.IndexByteString", "internal/bytealg.IndexString", "internal/bytealg.CountString"], unfollowed := true, recurses := true, named := ["unicode/utf8.first", "unicode/utf8.acceptRanges", "internal/bytealg.MaxLen"], plainKeys := false, apart := false, laid := [("unicode/utf8.acceptRanges", laid_unicode_utf8_acceptRanges), ("unicode/utf8.first", laid_unicode_utf8_first)] }
def PatchBesideSaid : Prop := patchBesideRow.holds Tryz.pinned (OpenSpec.ofChange patchBesideSpec)

/-- ITS FALSE NEIGHBOUR: 'it returns false'. Refute it at one input. -/
def patchBesideWrong : ChangeSpec := { name := "patchBeside", fn := fun _ => fun
  | [d1, d2] => { results := [.lit (.bool false)], args := [d1, d2] }
  | _ => none }
def PatchBesideWrongFalsely : Prop := patchBesideRow.holds Tryz.pinned (OpenSpec.ofChange patchBesideWrong)

/-- 'crossbandlaw04.PatchKnown': WHATEVER THE INPUT: true; the input reads as it did. -/
def patchKnownSpec : ChangeSpec := { name := "patchKnown", fn := fun _ => fun
  | [] => { results := [.lit (.bool true)], args := [] }
  | _ => none }
def patchKnownRow : OpenClaim := { program := "ytghomjjffllkeaagreatdoor", sum := "155e0c49eee007a499e3b5ce9ea0c4f25ea5048517b76e2873a6110ad15898bc", func := "crossband/crossbandlaw04.PatchKnown", spec := "patchKnown", inPlace := ["internal/abi.NoEscape", "internal/bytealg.MakeNoZero", "internal/bytealg.IndexByteString", "internal/bytealg.IndexString", "internal/bytealg.CountString"], unfollowed := true, recurses := true, named := ["unicode/utf8.first", "unicode/utf8.acceptRanges", "internal/bytealg.MaxLen"], plainKeys := false, apart := false, laid := [("unicode/utf8.acceptRanges", laid_unicode_utf8_acceptRanges), ("unicode/utf8.first", laid_unicode_utf8_first)] }
def PatchKnownSaid : Prop := patchKnownRow.holds Tryz.pinned (OpenSpec.ofChange patchKnownSpec)

/-- ITS FALSE NEIGHBOUR: 'it returns false'. Refute it at one input. -/
def patchKnownWrong : ChangeSpec := { name := "patchKnown", fn := fun _ => fun
  | [] => { results := [.lit (.bool false)], args := [] }
  | _ => none }
def PatchKnownWrongFalsely : Prop := patchKnownRow.holds Tryz.pinned (OpenSpec.ofChange patchKnownWrong)

/- THE SECOND FORM. 'bulk': how many values and letters a reading holds, each counted each time it is reached (what is shared counts as often as it is met; a slice's spare places count too). A statement '..UptoSaid' is the law's where the arguments, and the package variables that the reading takes, are together of bulk at most 1048576: NARROWER than '..Said'. Prove '..Said' where nothing that the law and all that it calls make is longer than what came in: it says more and counts as full. Else prove '..UptoSaid'. A law counts once. -/
mutual
def uptoBulk {H : Type} : DataW H → Nat
  | .lit (.string bytes) => bytes.length + 1
  | .lit _ => 1
  | .nil => 1
  | .ptr d => uptoBulk d + 1
  | .slice elems spare => uptoBulkAll elems + uptoBulkAll spare + 1
  | .agg parts => uptoBulkAll parts + 1
  | .iface _ d => uptoBulk d + 1
  | .map entries => uptoBulkEntries entries + 1
  | .held _ => 1
def uptoBulkAll {H : Type} : List (DataW H) → Nat
  | [] => 0
  | d :: r => uptoBulk d + uptoBulkAll r
def uptoBulkEntries {H : Type} : List (Lit × DataW H) → Nat
  | [] => 0
  | x :: r => uptoBulkEntry x + uptoBulkEntries r
def uptoBulkEntry {H : Type} : Lit × DataW H → Nat
  | (.string bytes, d) => bytes.length + uptoBulk d + 1
  | (_, d) => uptoBulk d + 1
 end
def uptoSmall : (H : Type) → List (DataW H) → Bool := fun _ ds => decide (uptoBulkAll ds ≤ 1048576)
def OpenSpec.upto (s : _root_.Go.ChangeSpec) : _root_.Go.OpenSpec := { _root_.Go.OpenSpec.ofChange s with cond := some uptoSmall }

/-- 'crossbandlaw04.PatchSheets', WHERE WHAT IT READS IS OF BULK AT MOST 1048576: true; the input reads as it did. -/
def patchSheetsUptoRow : OpenClaim := { program := "ytghomjjffllkeaagreatdoor", sum := "155e0c49eee007a499e3b5ce9ea0c4f25ea5048517b76e2873a6110ad15898bc", func := "crossband/crossbandlaw04.PatchSheets", spec := "patchSheets", inPlace := ["internal/abi.NoEscape", "internal/bytealg.MakeNoZero", "internal/bytealg.IndexByteString", "internal/bytealg.IndexString", "internal/bytealg.CountString"], unfollowed := true, recurses := true, named := ["unicode/utf8.first", "unicode/utf8.acceptRanges", "internal/bytealg.MaxLen"], plainKeys := false, apart := false, laid := [("unicode/utf8.acceptRanges", laid_unicode_utf8_acceptRanges), ("unicode/utf8.first", laid_unicode_utf8_first)], narrowed := true }
def PatchSheetsUptoSaid : Prop := patchSheetsUptoRow.holds Tryz.pinned (OpenSpec.upto patchSheetsSpec)

/-- 'crossbandlaw04.PatchFewests', WHERE WHAT IT READS IS OF BULK AT MOST 1048576: true; the input reads as it did. -/
def patchFewestsUptoRow : OpenClaim := { program := "ytghomjjffllkeaagreatdoor", sum := "155e0c49eee007a499e3b5ce9ea0c4f25ea5048517b76e2873a6110ad15898bc", func := "crossband/crossbandlaw04.PatchFewests", spec := "patchFewests", inPlace := ["internal/abi.NoEscape", "internal/bytealg.MakeNoZero", "internal/bytealg.IndexByteString", "internal/bytealg.IndexString", "internal/bytealg.CountString"], unfollowed := true, recurses := true, named := ["unicode/utf8.first", "unicode/utf8.acceptRanges", "internal/bytealg.MaxLen"], plainKeys := false, apart := false, laid := [("unicode/utf8.acceptRanges", laid_unicode_utf8_acceptRanges), ("unicode/utf8.first", laid_unicode_utf8_first)], narrowed := true }
def PatchFewestsUptoSaid : Prop := patchFewestsUptoRow.holds Tryz.pinned (OpenSpec.upto patchFewestsSpec)

/-- 'crossbandlaw04.PatchAlones', WHERE WHAT IT READS IS OF BULK AT MOST 1048576: true; the input reads as it did. -/
def patchAlonesUptoRow : OpenClaim := { program := "ytghomjjffllkeaagreatdoor", sum := "155e0c49eee007a499e3b5ce9ea0c4f25ea5048517b76e2873a6110ad15898bc", func := "crossband/crossbandlaw04.PatchAlones", spec := "patchAlones", inPlace := ["internal/abi.NoEscape", "internal/bytealg.MakeNoZero", "internal/bytealg.IndexByteString", "internal/bytealg.IndexString", "internal/bytealg.CountString"], unfollowed := true, recurses := true, named := ["unicode/utf8.first", "unicode/utf8.acceptRanges", "internal/bytealg.MaxLen"], plainKeys := false, apart := false, laid := [("unicode/utf8.acceptRanges", laid_unicode_utf8_acceptRanges), ("unicode/utf8.first", laid_unicode_utf8_first)], narrowed := true }
def PatchAlonesUptoSaid : Prop := patchAlonesUptoRow.holds Tryz.pinned (OpenSpec.upto patchAlonesSpec)

/-- 'crossbandlaw04.PatchTurns', WHERE WHAT IT READS IS OF BULK AT MOST 1048576: true; the input reads as it did. -/
def patchTurnsUptoRow : OpenClaim := { program := "ytghomjjffllkeaagreatdoor", sum := "155e0c49eee007a499e3b5ce9ea0c4f25ea5048517b76e2873a6110ad15898bc", func := "crossband/crossbandlaw04.PatchTurns", spec := "patchTurns", inPlace := ["internal/abi.NoEscape", "internal/bytealg.MakeNoZero", "internal/bytealg.IndexByteString", "internal/bytealg.IndexString", "internal/bytealg.CountString"], unfollowed := true, recurses := true, named := ["unicode/utf8.first", "unicode/utf8.acceptRanges", "internal/bytealg.MaxLen"], plainKeys := false, apart := false, laid := [("unicode/utf8.acceptRanges", laid_unicode_utf8_acceptRanges), ("unicode/utf8.first", laid_unicode_utf8_first)], narrowed := true }
def PatchTurnsUptoSaid : Prop := patchTurnsUptoRow.holds Tryz.pinned (OpenSpec.upto patchTurnsSpec)

/-- 'crossbandlaw04.PatchProved', WHERE WHAT IT READS IS OF BULK AT MOST 1048576: true; the input reads as it did. -/
def patchProvedUptoRow : OpenClaim := { program := "ytghomjjffllkeaagreatdoor", sum := "155e0c49eee007a499e3b5ce9ea0c4f25ea5048517b76e2873a6110ad15898bc", func := "crossband/crossbandlaw04.PatchProved", spec := "patchProved", inPlace := ["internal/abi.NoEscape", "internal/bytealg.MakeNoZero", "internal/bytealg.IndexByteString", "internal/bytealg.IndexString", "internal/bytealg.CountString"], unfollowed := true, recurses := true, named := ["unicode/utf8.first", "unicode/utf8.acceptRanges", "internal/bytealg.MaxLen"], plainKeys := false, apart := false, laid := [("unicode/utf8.acceptRanges", laid_unicode_utf8_acceptRanges), ("unicode/utf8.first", laid_unicode_utf8_first)], narrowed := true }
def PatchProvedUptoSaid : Prop := patchProvedUptoRow.holds Tryz.pinned (OpenSpec.upto patchProvedSpec)

/-- 'crossbandlaw04.PatchLeast', WHERE WHAT IT READS IS OF BULK AT MOST 1048576: true; the input reads as it did. -/
def patchLeastUptoRow : OpenClaim := { program := "ytghomjjffllkeaagreatdoor", sum := "155e0c49eee007a499e3b5ce9ea0c4f25ea5048517b76e2873a6110ad15898bc", func := "crossband/crossbandlaw04.PatchLeast", spec := "patchLeast", inPlace := ["internal/abi.NoEscape", "internal/bytealg.MakeNoZero", "internal/bytealg.IndexByteString", "internal/bytealg.IndexString", "internal/bytealg.CountString"], unfollowed := true, recurses := true, named := ["unicode/utf8.first", "unicode/utf8.acceptRanges", "internal/bytealg.MaxLen"], plainKeys := false, apart := false, laid := [("unicode/utf8.acceptRanges", laid_unicode_utf8_acceptRanges), ("unicode/utf8.first", laid_unicode_utf8_first)], narrowed := true }
def PatchLeastUptoSaid : Prop := patchLeastUptoRow.holds Tryz.pinned (OpenSpec.upto patchLeastSpec)

/-- 'crossbandlaw04.PatchParted', WHERE WHAT IT READS IS OF BULK AT MOST 1048576: true; the input reads as it did. -/
def patchPartedUptoRow : OpenClaim := { program := "ytghomjjffllkeaagreatdoor", sum := "155e0c49eee007a499e3b5ce9ea0c4f25ea5048517b76e2873a6110ad15898bc", func := "crossband/crossbandlaw04.PatchParted", spec := "patchParted", inPlace := ["internal/abi.NoEscape", "internal/bytealg.MakeNoZero", "internal/bytealg.IndexByteString", "internal/bytealg.IndexString", "internal/bytealg.CountString"], unfollowed := true, recurses := true, named := ["unicode/utf8.first", "unicode/utf8.acceptRanges", "internal/bytealg.MaxLen"], plainKeys := false, apart := false, laid := [("unicode/utf8.acceptRanges", laid_unicode_utf8_acceptRanges), ("unicode/utf8.first", laid_unicode_utf8_first)], narrowed := true }
def PatchPartedUptoSaid : Prop := patchPartedUptoRow.holds Tryz.pinned (OpenSpec.upto patchPartedSpec)

/-- 'crossbandlaw04.PatchMore', WHERE WHAT IT READS IS OF BULK AT MOST 1048576: true; the input reads as it did. -/
def patchMoreUptoRow : OpenClaim := { program := "ytghomjjffllkeaagreatdoor", sum := "155e0c49eee007a499e3b5ce9ea0c4f25ea5048517b76e2873a6110ad15898bc", func := "crossband/crossbandlaw04.PatchMore", spec := "patchMore", inPlace := ["internal/abi.NoEscape", "internal/bytealg.MakeNoZero", "internal/bytealg.IndexByteString", "internal/bytealg.IndexString", "internal/bytealg.CountString"], unfollowed := true, recurses := true, named := ["unicode/utf8.first", "unicode/utf8.acceptRanges", "internal/bytealg.MaxLen"], plainKeys := false, apart := false, laid := [("unicode/utf8.acceptRanges", laid_unicode_utf8_acceptRanges), ("unicode/utf8.first", laid_unicode_utf8_first)], narrowed := true }
def PatchMoreUptoSaid : Prop := patchMoreUptoRow.holds Tryz.pinned (OpenSpec.upto patchMoreSpec)

/-- 'crossbandlaw04.PatchTurned', WHERE WHAT IT READS IS OF BULK AT MOST 1048576: true; the input reads as it did. -/
def patchTurnedUptoRow : OpenClaim := { program := "ytghomjjffllkeaagreatdoor", sum := "155e0c49eee007a499e3b5ce9ea0c4f25ea5048517b76e2873a6110ad15898bc", func := "crossband/crossbandlaw04.PatchTurned", spec := "patchTurned", inPlace := ["internal/abi.NoEscape", "internal/bytealg.MakeNoZero", "internal/bytealg.IndexByteString", "internal/bytealg.IndexString", "internal/bytealg.CountString"], unfollowed := true, recurses := true, named := ["unicode/utf8.first", "unicode/utf8.acceptRanges", "internal/bytealg.MaxLen"], plainKeys := false, apart := false, laid := [("unicode/utf8.acceptRanges", laid_unicode_utf8_acceptRanges), ("unicode/utf8.first", laid_unicode_utf8_first)], narrowed := true }
def PatchTurnedUptoSaid : Prop := patchTurnedUptoRow.holds Tryz.pinned (OpenSpec.upto patchTurnedSpec)

/-- 'crossbandlaw04.PatchLargest', WHERE WHAT IT READS IS OF BULK AT MOST 1048576: true; the input reads as it did. -/
def patchLargestUptoRow : OpenClaim := { program := "ytghomjjffllkeaagreatdoor", sum := "155e0c49eee007a499e3b5ce9ea0c4f25ea5048517b76e2873a6110ad15898bc", func := "crossband/crossbandlaw04.PatchLargest", spec := "patchLargest", inPlace := ["internal/abi.NoEscape", "internal/bytealg.MakeNoZero", "internal/bytealg.IndexByteString", "internal/bytealg.IndexString", "internal/bytealg.CountString"], unfollowed := true, recurses := true, named := ["unicode/utf8.first", "unicode/utf8.acceptRanges", "internal/bytealg.MaxLen"], plainKeys := false, apart := false, laid := [("unicode/utf8.acceptRanges", laid_unicode_utf8_acceptRanges), ("unicode/utf8.first", laid_unicode_utf8_first)], narrowed := true }
def PatchLargestUptoSaid : Prop := patchLargestUptoRow.holds Tryz.pinned (OpenSpec.upto patchLargestSpec)

/-- 'crossbandlaw04.PatchBeside', WHERE WHAT IT READS IS OF BULK AT MOST 1048576: true; the input reads as it did. -/
def patchBesideUptoRow : OpenClaim := { program := "ytghomjjffllkeaagreatdoor", sum := "155e0c49eee007a499e3b5ce9ea0c4f25ea5048517b76e2873a6110ad15898bc", func := "crossband/crossbandlaw04.PatchBeside", spec := "patchBeside", inPlace := ["internal/abi.NoEscape", "internal/bytealg.MakeNoZero", "internal/bytealg.IndexByteString", "internal/bytealg.IndexString", "internal/bytealg.CountString"], unfollowed := true, recurses := true, named := ["unicode/utf8.first", "unicode/utf8.acceptRanges", "internal/bytealg.MaxLen"], plainKeys := false, apart := false, laid := [("unicode/utf8.acceptRanges", laid_unicode_utf8_acceptRanges), ("unicode/utf8.first", laid_unicode_utf8_first)], narrowed := true }
def PatchBesideUptoSaid : Prop := patchBesideUptoRow.holds Tryz.pinned (OpenSpec.upto patchBesideSpec)

/-- 'crossbandlaw04.PatchKnown', WHERE WHAT IT READS IS OF BULK AT MOST 1048576: true; the input reads as it did. -/
def patchKnownUptoRow : OpenClaim := { program := "ytghomjjffllkeaagreatdoor", sum := "155e0c49eee007a499e3b5ce9ea0c4f25ea5048517b76e2873a6110ad15898bc", func := "crossband/crossbandlaw04.PatchKnown", spec := "patchKnown", inPlace := ["internal/abi.NoEscape", "internal/bytealg.MakeNoZero", "internal/bytealg.IndexByteString", "internal/bytealg.IndexString", "internal/bytealg.CountString"], unfollowed := true, recurses := true, named := ["unicode/utf8.first", "unicode/utf8.acceptRanges", "internal/bytealg.MaxLen"], plainKeys := false, apart := false, laid := [("unicode/utf8.acceptRanges", laid_unicode_utf8_acceptRanges), ("unicode/utf8.first", laid_unicode_utf8_first)], narrowed := true }
def PatchKnownUptoSaid : Prop := patchKnownUptoRow.holds Tryz.pinned (OpenSpec.upto patchKnownSpec)

end Rows
end Go.Proofs.YtghomjjffllkeaaGreatDoor
