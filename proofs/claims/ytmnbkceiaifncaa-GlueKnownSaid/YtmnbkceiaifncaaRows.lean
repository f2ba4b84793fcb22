/-
  No cell of these rows narrows 'for every input' (looked for: loops, veiled, ifaces, maps, wideKeys, modest, calm, conditions, laid).
  DERIVED. THE GIVEN ROWS OF THIS SEAT. 13 by the template 'for every input the law returns true; each argument reads behind the call as it read before'; 0 by the template 'total and deterministic' (their statements: YtmnbkceiaifncaaTotals.lean).
  GIVEN WITH THE SEED: the statements are not yours to turn. If you find one false, say at which input.
  Laid BY PROGRAM, IN A SANDBOX (cutbox-rows.mjs): the forced cells as the released guide's own fill.sh prints them over the translation b939144d9ba3a763… (all of the seat's roots in one cut). By AI agents, Wed Nov 11 2026. No macro, syntax, notation, axiom, sorry.
-/
import Derived.Test.YtmnbkceiaifncaaChecked
import GoSem.Claim
import GoSem.ClaimJoined
import GoSem.ClaimMapViews
import Derived.JoinedTies
import Derived.KernelRfl
namespace Go.Proofs.Ytmnbkceiaifncaa
/- THE CELL 'sum', in the pinned program and in every row, IS THE sha256 OF THE DUMP (.gsa) THAT YtmnbkceiaifncaaProg.lean LOADS. Nothing in Lean hashes anything: it is a label: what it is worth is what the hold of that sum in a sandbox is worth. -/
noncomputable def Try.pinned : Pinned := { name := "ytmnbkceiaifncaa", sum := "b939144d9ba3a76363898c6e95065029d9364580c2ce938cb19d0b14766f08a8", checked := Try.checked }
namespace Rows
def none {H : Type} : Left H := { results := [], args := [] }

/-- 'crossbandlaw06.GlueDays': WHATEVER THE INPUT: true; the input reads as it did. -/
def glueDaysSpec : ChangeSpec := { name := "glueDays", fn := fun _ => fun
  | [d1, d2, d3, d4] => { results := [.lit (.bool true)], args := [d1, d2, d3, d4] }
  | _ => none }
def glueDaysRow : OpenClaim := { program := "ytmnbkceiaifncaa", sum := "b939144d9ba3a76363898c6e95065029d9364580c2ce938cb19d0b14766f08a8", func := "crossband/crossbandlaw06.GlueDays", spec := "glueDays", unfollowed := true, recurses := true, plainKeys := false, apart := false }
def GlueDaysSaid : Prop := glueDaysRow.holds Try.pinned (OpenSpec.ofChange glueDaysSpec)

/-- ITS FALSE NEIGHBOUR: 'it returns false'. Refute it at one input. -/
def glueDaysWrong : ChangeSpec := { name := "glueDays", fn := fun _ => fun
  | [d1, d2, d3, d4] => { results := [.lit (.bool false)], args := [d1, d2, d3, d4] }
  | _ => none }
def GlueDaysWrongFalsely : Prop := glueDaysRow.holds Try.pinned (OpenSpec.ofChange glueDaysWrong)

/-- 'crossbandlaw06.GlueRows': WHATEVER THE INPUT: true; the input reads as it did. -/
def glueRowsSpec : ChangeSpec := { name := "glueRows", fn := fun _ => fun
  | [d1, d2, d3, d4, d5] => { results := [.lit (.bool true)], args := [d1, d2, d3, d4, d5] }
  | _ => none }
def glueRowsRow : OpenClaim := { program := "ytmnbkceiaifncaa", sum := "b939144d9ba3a76363898c6e95065029d9364580c2ce938cb19d0b14766f08a8", func := "crossband/crossbandlaw06.GlueRows", spec := "glueRows", unfollowed := true, recurses := true, plainKeys := false, apart := false }
def GlueRowsSaid : Prop := glueRowsRow.holds Try.pinned (OpenSpec.ofChange glueRowsSpec)

/-- ITS FALSE NEIGHBOUR: 'it returns false'. Refute it at one input. -/
def glueRowsWrong : ChangeSpec := { name := "glueRows", fn := fun _ => fun
  | [d1, d2, d3, d4, d5] => { results := [.lit (.bool false)], args := [d1, d2, d3, d4, d5] }
  | _ => none }
def GlueRowsWrongFalsely : Prop := glueRowsRow.holds Try.pinned (OpenSpec.ofChange glueRowsWrong)

/-- 'crossbandlaw06.GluePlans': WHATEVER THE INPUT: true; the input reads as it did. -/
def gluePlansSpec : ChangeSpec := { name := "gluePlans", fn := fun _ => fun
  | [d1, d2, d3, d4] => { results := [.lit (.bool true)], args := [d1, d2, d3, d4] }
  | _ => none }
def gluePlansRow : OpenClaim := { program := "ytmnbkceiaifncaa", sum := "b939144d9ba3a76363898c6e95065029d9364580c2ce938cb19d0b14766f08a8", func := "crossband/crossbandlaw06.GluePlans", spec := "gluePlans", unfollowed := true, recurses := true, plainKeys := false, apart := false }
def GluePlansSaid : Prop := gluePlansRow.holds Try.pinned (OpenSpec.ofChange gluePlansSpec)

/-- ITS FALSE NEIGHBOUR: 'it returns false'. Refute it at one input. -/
def gluePlansWrong : ChangeSpec := { name := "gluePlans", fn := fun _ => fun
  | [d1, d2, d3, d4] => { results := [.lit (.bool false)], args := [d1, d2, d3, d4] }
  | _ => none }
def GluePlansWrongFalsely : Prop := gluePlansRow.holds Try.pinned (OpenSpec.ofChange gluePlansWrong)

/-- 'crossbandlaw06.GlueAparts': WHATEVER THE INPUT: true; the input reads as it did. -/
def glueApartsSpec : ChangeSpec := { name := "glueAparts", fn := fun _ => fun
  | [d1, d2, d3, d4] => { results := [.lit (.bool true)], args := [d1, d2, d3, d4] }
  | _ => none }
def glueApartsRow : OpenClaim := { program := "ytmnbkceiaifncaa", sum := "b939144d9ba3a76363898c6e95065029d9364580c2ce938cb19d0b14766f08a8", func := "crossband/crossbandlaw06.GlueAparts", spec := "glueAparts", unfollowed := true, recurses := true, plainKeys := false, apart := false }
def GlueApartsSaid : Prop := glueApartsRow.holds Try.pinned (OpenSpec.ofChange glueApartsSpec)

/-- ITS FALSE NEIGHBOUR: 'it returns false'. Refute it at one input. -/
def glueApartsWrong : ChangeSpec := { name := "glueAparts", fn := fun _ => fun
  | [d1, d2, d3, d4] => { results := [.lit (.bool false)], args := [d1, d2, d3, d4] }
  | _ => none }
def GlueApartsWrongFalsely : Prop := glueApartsRow.holds Try.pinned (OpenSpec.ofChange glueApartsWrong)

/-- 'crossbandlaw06.GlueProved': WHATEVER THE INPUT: true; the input reads as it did. -/
def glueProvedSpec : ChangeSpec := { name := "glueProved", fn := fun _ => fun
  | [d1, d2, d3, d4, d5] => { results := [.lit (.bool true)], args := [d1, d2, d3, d4, d5] }
  | _ => none }
def glueProvedRow : OpenClaim := { program := "ytmnbkceiaifncaa", sum := "b939144d9ba3a76363898c6e95065029d9364580c2ce938cb19d0b14766f08a8", func := "crossband/crossbandlaw06.GlueProved", spec := "glueProved", unfollowed := true, recurses := true, plainKeys := false, apart := false }
def GlueProvedSaid : Prop := glueProvedRow.holds Try.pinned (OpenSpec.ofChange glueProvedSpec)

/-- ITS FALSE NEIGHBOUR: 'it returns false'. Refute it at one input. -/
def glueProvedWrong : ChangeSpec := { name := "glueProved", fn := fun _ => fun
  | [d1, d2, d3, d4, d5] => { results := [.lit (.bool false)], args := [d1, d2, d3, d4, d5] }
  | _ => none }
def GlueProvedWrongFalsely : Prop := glueProvedRow.holds Try.pinned (OpenSpec.ofChange glueProvedWrong)

/-- 'crossbandlaw06.GlueAny': WHATEVER THE INPUT: true; the input reads as it did. -/
def glueAnySpec : ChangeSpec := { name := "glueAny", fn := fun _ => fun
  | [d1, d2, d3, d4, d5] => { results := [.lit (.bool true)], args := [d1, d2, d3, d4, d5] }
  | _ => none }
def glueAnyRow : OpenClaim := { program := "ytmnbkceiaifncaa", sum := "b939144d9ba3a76363898c6e95065029d9364580c2ce938cb19d0b14766f08a8", func := "crossband/crossbandlaw06.GlueAny", spec := "glueAny", unfollowed := true, recurses := true, plainKeys := false, apart := false }
def GlueAnySaid : Prop := glueAnyRow.holds Try.pinned (OpenSpec.ofChange glueAnySpec)

/-- ITS FALSE NEIGHBOUR: 'it returns false'. Refute it at one input. -/
def glueAnyWrong : ChangeSpec := { name := "glueAny", fn := fun _ => fun
  | [d1, d2, d3, d4, d5] => { results := [.lit (.bool false)], args := [d1, d2, d3, d4, d5] }
  | _ => none }
def GlueAnyWrongFalsely : Prop := glueAnyRow.holds Try.pinned (OpenSpec.ofChange glueAnyWrong)

/-- 'crossbandlaw06.GlueFirst': WHATEVER THE INPUT: true; the input reads as it did. -/
def glueFirstSpec : ChangeSpec := { name := "glueFirst", fn := fun _ => fun
  | [d1, d2, d3, d4] => { results := [.lit (.bool true)], args := [d1, d2, d3, d4] }
  | _ => none }
def glueFirstRow : OpenClaim := { program := "ytmnbkceiaifncaa", sum := "b939144d9ba3a76363898c6e95065029d9364580c2ce938cb19d0b14766f08a8", func := "crossband/crossbandlaw06.GlueFirst", spec := "glueFirst", unfollowed := true, recurses := true, plainKeys := false, apart := false }
def GlueFirstSaid : Prop := glueFirstRow.holds Try.pinned (OpenSpec.ofChange glueFirstSpec)

/-- ITS FALSE NEIGHBOUR: 'it returns false'. Refute it at one input. -/
def glueFirstWrong : ChangeSpec := { name := "glueFirst", fn := fun _ => fun
  | [d1, d2, d3, d4] => { results := [.lit (.bool false)], args := [d1, d2, d3, d4] }
  | _ => none }
def GlueFirstWrongFalsely : Prop := glueFirstRow.holds Try.pinned (OpenSpec.ofChange glueFirstWrong)

/-- 'crossbandlaw06.GlueSurely': WHATEVER THE INPUT: true; the input reads as it did. -/
def glueSurelySpec : ChangeSpec := { name := "glueSurely", fn := fun _ => fun
  | [d1, d2, d3, d4] => { results := [.lit (.bool true)], args := [d1, d2, d3, d4] }
  | _ => none }
def glueSurelyRow : OpenClaim := { program := "ytmnbkceiaifncaa", sum := "b939144d9ba3a76363898c6e95065029d9364580c2ce938cb19d0b14766f08a8", func := "crossband/crossbandlaw06.GlueSurely", spec := "glueSurely", unfollowed := true, recurses := true, plainKeys := false, apart := false }
def GlueSurelySaid : Prop := glueSurelyRow.holds Try.pinned (OpenSpec.ofChange glueSurelySpec)

/-- ITS FALSE NEIGHBOUR: 'it returns false'. Refute it at one input. -/
def glueSurelyWrong : ChangeSpec := { name := "glueSurely", fn := fun _ => fun
  | [d1, d2, d3, d4] => { results := [.lit (.bool false)], args := [d1, d2, d3, d4] }
  | _ => none }
def GlueSurelyWrongFalsely : Prop := glueSurelyRow.holds Try.pinned (OpenSpec.ofChange glueSurelyWrong)

/-- 'crossbandlaw06.GlueWarmer': WHATEVER THE INPUT: true; the input reads as it did. -/
def glueWarmerSpec : ChangeSpec := { name := "glueWarmer", fn := fun _ => fun
  | [d1, d2, d3, d4, d5, d6, d7] => { results := [.lit (.bool true)], args := [d1, d2, d3, d4, d5, d6, d7] }
  | _ => none }
def glueWarmerRow : OpenClaim := { program := "ytmnbkceiaifncaa", sum := "b939144d9ba3a76363898c6e95065029d9364580c2ce938cb19d0b14766f08a8", func := "crossband/crossbandlaw06.GlueWarmer", spec := "glueWarmer", unfollowed := true, recurses := true, plainKeys := false, apart := false }
def GlueWarmerSaid : Prop := glueWarmerRow.holds Try.pinned (OpenSpec.ofChange glueWarmerSpec)

/-- ITS FALSE NEIGHBOUR: 'it returns false'. Refute it at one input. -/
def glueWarmerWrong : ChangeSpec := { name := "glueWarmer", fn := fun _ => fun
  | [d1, d2, d3, d4, d5, d6, d7] => { results := [.lit (.bool false)], args := [d1, d2, d3, d4, d5, d6, d7] }
  | _ => none }
def GlueWarmerWrongFalsely : Prop := glueWarmerRow.holds Try.pinned (OpenSpec.ofChange glueWarmerWrong)

/-- 'crossbandlaw06.GlueTurned': WHATEVER THE INPUT: true; the input reads as it did. -/
def glueTurnedSpec : ChangeSpec := { name := "glueTurned", fn := fun _ => fun
  | [d1, d2, d3, d4] => { results := [.lit (.bool true)], args := [d1, d2, d3, d4] }
  | _ => none }
def glueTurnedRow : OpenClaim := { program := "ytmnbkceiaifncaa", sum := "b939144d9ba3a76363898c6e95065029d9364580c2ce938cb19d0b14766f08a8", func := "crossband/crossbandlaw06.GlueTurned", spec := "glueTurned", unfollowed := true, recurses := true, plainKeys := false, apart := false }
def GlueTurnedSaid : Prop := glueTurnedRow.holds Try.pinned (OpenSpec.ofChange glueTurnedSpec)

/-- ITS FALSE NEIGHBOUR: 'it returns false'. Refute it at one input. -/
def glueTurnedWrong : ChangeSpec := { name := "glueTurned", fn := fun _ => fun
  | [d1, d2, d3, d4] => { results := [.lit (.bool false)], args := [d1, d2, d3, d4] }
  | _ => none }
def GlueTurnedWrongFalsely : Prop := glueTurnedRow.holds Try.pinned (OpenSpec.ofChange glueTurnedWrong)

/-- 'crossbandlaw06.GlueMore': WHATEVER THE INPUT: true; the input reads as it did. -/
def glueMoreSpec : ChangeSpec := { name := "glueMore", fn := fun _ => fun
  | [d1, d2, d3, d4, d5] => { results := [.lit (.bool true)], args := [d1, d2, d3, d4, d5] }
  | _ => none }
def glueMoreRow : OpenClaim := { program := "ytmnbkceiaifncaa", sum := "b939144d9ba3a76363898c6e95065029d9364580c2ce938cb19d0b14766f08a8", func := "crossband/crossbandlaw06.GlueMore", spec := "glueMore", unfollowed := true, recurses := true, plainKeys := false, apart := false }
def GlueMoreSaid : Prop := glueMoreRow.holds Try.pinned (OpenSpec.ofChange glueMoreSpec)

/-- ITS FALSE NEIGHBOUR: 'it returns false'. Refute it at one input. -/
def glueMoreWrong : ChangeSpec := { name := "glueMore", fn := fun _ => fun
  | [d1, d2, d3, d4, d5] => { results := [.lit (.bool false)], args := [d1, d2, d3, d4, d5] }
  | _ => none }
def GlueMoreWrongFalsely : Prop := glueMoreRow.holds Try.pinned (OpenSpec.ofChange glueMoreWrong)

/-- 'crossbandlaw06.GlueSpared': WHATEVER THE INPUT: true; the input reads as it did. -/
def glueSparedSpec : ChangeSpec := { name := "glueSpared", fn := fun _ => fun
  | [d1, d2, d3] => { results := [.lit (.bool true)], args := [d1, d2, d3] }
  | _ => none }
def glueSparedRow : OpenClaim := { program := "ytmnbkceiaifncaa", sum := "b939144d9ba3a76363898c6e95065029d9364580c2ce938cb19d0b14766f08a8", func := "crossband/crossbandlaw06.GlueSpared", spec := "glueSpared", unfollowed := true, recurses := true, plainKeys := false, apart := false }
def GlueSparedSaid : Prop := glueSparedRow.holds Try.pinned (OpenSpec.ofChange glueSparedSpec)

/-- ITS FALSE NEIGHBOUR: 'it returns false'. Refute it at one input. -/
def glueSparedWrong : ChangeSpec := { name := "glueSpared", fn := fun _ => fun
  | [d1, d2, d3] => { results := [.lit (.bool false)], args := [d1, d2, d3] }
  | _ => none }
def GlueSparedWrongFalsely : Prop := glueSparedRow.holds Try.pinned (OpenSpec.ofChange glueSparedWrong)

/-- 'crossbandlaw06.GlueKnown': WHATEVER THE INPUT: true; the input reads as it did. -/
def glueKnownSpec : ChangeSpec := { name := "glueKnown", fn := fun _ => fun
  | [] => { results := [.lit (.bool true)], args := [] }
  | _ => none }
def glueKnownRow : OpenClaim := { program := "ytmnbkceiaifncaa", sum := "b939144d9ba3a76363898c6e95065029d9364580c2ce938cb19d0b14766f08a8", func := "crossband/crossbandlaw06.GlueKnown", spec := "glueKnown", unfollowed := true, recurses := true, plainKeys := false, apart := false }
def GlueKnownSaid : Prop := glueKnownRow.holds Try.pinned (OpenSpec.ofChange glueKnownSpec)

/-- ITS FALSE NEIGHBOUR: 'it returns false'. Refute it at one input. -/
def glueKnownWrong : ChangeSpec := { name := "glueKnown", fn := fun _ => fun
  | [] => { results := [.lit (.bool false)], args := [] }
  | _ => none }
def GlueKnownWrongFalsely : Prop := glueKnownRow.holds Try.pinned (OpenSpec.ofChange glueKnownWrong)

/- THE SECOND FORM. 'bulk': how many values and letters a reading holds, each counted each time it is reached (what is shared counts as often as it is met; a slice's spare places count too). A statement '..UptoSaid' is the law's where the arguments, and the package variables that the reading takes, are together of bulk at most 1048576: NARROWER than '..Said'. Prove '..Said' where nothing that the law and all that it calls make is longer than what came in: it says more and counts as full. Else prove '..UptoSaid'. A law counts once. -/
mutual
def uptoBulk {H : Type} : DataW H → Nat
  | .lit (.string bytes) => bytes.length + 1
  | .lit _ => 1
  | .nil => 1
  | .ptr d => uptoBulk d + 1
  | .slice elems spare => uptoBulkAll elems + uptoBulkAll spare + 1
  | .agg parts => uptoBulkAll parts + 1
  | .iface _ d => uptoBulk d + 1
  | .map entries => uptoBulkEntries entries + 1
  | .held _ => 1
def uptoBulkAll {H : Type} : List (DataW H) → Nat
  | [] => 0
  | d :: r => uptoBulk d + uptoBulkAll r
def uptoBulkEntries {H : Type} : List (Lit × DataW H) → Nat
  | [] => 0
  | x :: r => uptoBulkEntry x + uptoBulkEntries r
def uptoBulkEntry {H : Type} : Lit × DataW H → Nat
  | (.string bytes, d) => bytes.length + uptoBulk d + 1
  | (_, d) => uptoBulk d + 1
 end
def uptoSmall : (H : Type) → List (DataW H) → Bool := fun _ ds => decide (uptoBulkAll ds ≤ 1048576)
def OpenSpec.upto (s : _root_.Go.ChangeSpec) : _root_.Go.OpenSpec := { _root_.Go.OpenSpec.ofChange s with cond := some uptoSmall }

/-- 'crossbandlaw06.GlueDays', WHERE WHAT IT READS IS OF BULK AT MOST 1048576: true; the input reads as it did. -/
def glueDaysUptoRow : OpenClaim := { program := "ytmnbkceiaifncaa", sum := "b939144d9ba3a76363898c6e95065029d9364580c2ce938cb19d0b14766f08a8", func := "crossband/crossbandlaw06.GlueDays", spec := "glueDays", unfollowed := true, recurses := true, plainKeys := false, apart := false, narrowed := true }
def GlueDaysUptoSaid : Prop := glueDaysUptoRow.holds Try.pinned (OpenSpec.upto glueDaysSpec)

/-- 'crossbandlaw06.GlueRows', WHERE WHAT IT READS IS OF BULK AT MOST 1048576: true; the input reads as it did. -/
def glueRowsUptoRow : OpenClaim := { program := "ytmnbkceiaifncaa", sum := "b939144d9ba3a76363898c6e95065029d9364580c2ce938cb19d0b14766f08a8", func := "crossband/crossbandlaw06.GlueRows", spec := "glueRows", unfollowed := true, recurses := true, plainKeys := false, apart := false, narrowed := true }
def GlueRowsUptoSaid : Prop := glueRowsUptoRow.holds Try.pinned (OpenSpec.upto glueRowsSpec)

/-- 'crossbandlaw06.GluePlans', WHERE WHAT IT READS IS OF BULK AT MOST 1048576: true; the input reads as it did. -/
def gluePlansUptoRow : OpenClaim := { program := "ytmnbkceiaifncaa", sum := "b939144d9ba3a76363898c6e95065029d9364580c2ce938cb19d0b14766f08a8", func := "crossband/crossbandlaw06.GluePlans", spec := "gluePlans", unfollowed := true, recurses := true, plainKeys := false, apart := false, narrowed := true }
def GluePlansUptoSaid : Prop := gluePlansUptoRow.holds Try.pinned (OpenSpec.upto gluePlansSpec)

/-- 'crossbandlaw06.GlueAparts', WHERE WHAT IT READS IS OF BULK AT MOST 1048576: true; the input reads as it did. -/
def glueApartsUptoRow : OpenClaim := { program := "ytmnbkceiaifncaa", sum := "b939144d9ba3a76363898c6e95065029d9364580c2ce938cb19d0b14766f08a8", func := "crossband/crossbandlaw06.GlueAparts", spec := "glueAparts", unfollowed := true, recurses := true, plainKeys := false, apart := false, narrowed := true }
def GlueApartsUptoSaid : Prop := glueApartsUptoRow.holds Try.pinned (OpenSpec.upto glueApartsSpec)

/-- 'crossbandlaw06.GlueProved', WHERE WHAT IT READS IS OF BULK AT MOST 1048576: true; the input reads as it did. -/
def glueProvedUptoRow : OpenClaim := { program := "ytmnbkceiaifncaa", sum := "b939144d9ba3a76363898c6e95065029d9364580c2ce938cb19d0b14766f08a8", func := "crossband/crossbandlaw06.GlueProved", spec := "glueProved", unfollowed := true, recurses := true, plainKeys := false, apart := false, narrowed := true }
def GlueProvedUptoSaid : Prop := glueProvedUptoRow.holds Try.pinned (OpenSpec.upto glueProvedSpec)

/-- 'crossbandlaw06.GlueAny', WHERE WHAT IT READS IS OF BULK AT MOST 1048576: true; the input reads as it did. -/
def glueAnyUptoRow : OpenClaim := { program := "ytmnbkceiaifncaa", sum := "b939144d9ba3a76363898c6e95065029d9364580c2ce938cb19d0b14766f08a8", func := "crossband/crossbandlaw06.GlueAny", spec := "glueAny", unfollowed := true, recurses := true, plainKeys := false, apart := false, narrowed := true }
def GlueAnyUptoSaid : Prop := glueAnyUptoRow.holds Try.pinned (OpenSpec.upto glueAnySpec)

/-- 'crossbandlaw06.GlueFirst', WHERE WHAT IT READS IS OF BULK AT MOST 1048576: true; the input reads as it did. -/
def glueFirstUptoRow : OpenClaim := { program := "ytmnbkceiaifncaa", sum := "b939144d9ba3a76363898c6e95065029d9364580c2ce938cb19d0b14766f08a8", func := "crossband/crossbandlaw06.GlueFirst", spec := "glueFirst", unfollowed := true, recurses := true, plainKeys := false, apart := false, narrowed := true }
def GlueFirstUptoSaid : Prop := glueFirstUptoRow.holds Try.pinned (OpenSpec.upto glueFirstSpec)

/-- 'crossbandlaw06.GlueSurely', WHERE WHAT IT READS IS OF BULK AT MOST 1048576: true; the input reads as it did. -/
def glueSurelyUptoRow : OpenClaim := { program := "ytmnbkceiaifncaa", sum := "b939144d9ba3a76363898c6e95065029d9364580c2ce938cb19d0b14766f08a8", func := "crossband/crossbandlaw06.GlueSurely", spec := "glueSurely", unfollowed := true, recurses := true, plainKeys := false, apart := false, narrowed := true }
def GlueSurelyUptoSaid : Prop := glueSurelyUptoRow.holds Try.pinned (OpenSpec.upto glueSurelySpec)

/-- 'crossbandlaw06.GlueWarmer', WHERE WHAT IT READS IS OF BULK AT MOST 1048576: true; the input reads as it did. -/
def glueWarmerUptoRow : OpenClaim := { program := "ytmnbkceiaifncaa", sum := "b939144d9ba3a76363898c6e95065029d9364580c2ce938cb19d0b14766f08a8", func := "crossband/crossbandlaw06.GlueWarmer", spec := "glueWarmer", unfollowed := true, recurses := true, plainKeys := false, apart := false, narrowed := true }
def GlueWarmerUptoSaid : Prop := glueWarmerUptoRow.holds Try.pinned (OpenSpec.upto glueWarmerSpec)

/-- 'crossbandlaw06.GlueTurned', WHERE WHAT IT READS IS OF BULK AT MOST 1048576: true; the input reads as it did. -/
def glueTurnedUptoRow : OpenClaim := { program := "ytmnbkceiaifncaa", sum := "b939144d9ba3a76363898c6e95065029d9364580c2ce938cb19d0b14766f08a8", func := "crossband/crossbandlaw06.GlueTurned", spec := "glueTurned", unfollowed := true, recurses := true, plainKeys := false, apart := false, narrowed := true }
def GlueTurnedUptoSaid : Prop := glueTurnedUptoRow.holds Try.pinned (OpenSpec.upto glueTurnedSpec)

/-- 'crossbandlaw06.GlueMore', WHERE WHAT IT READS IS OF BULK AT MOST 1048576: true; the input reads as it did. -/
def glueMoreUptoRow : OpenClaim := { program := "ytmnbkceiaifncaa", sum := "b939144d9ba3a76363898c6e95065029d9364580c2ce938cb19d0b14766f08a8", func := "crossband/crossbandlaw06.GlueMore", spec := "glueMore", unfollowed := true, recurses := true, plainKeys := false, apart := false, narrowed := true }
def GlueMoreUptoSaid : Prop := glueMoreUptoRow.holds Try.pinned (OpenSpec.upto glueMoreSpec)

/-- 'crossbandlaw06.GlueSpared', WHERE WHAT IT READS IS OF BULK AT MOST 1048576: true; the input reads as it did. -/
def glueSparedUptoRow : OpenClaim := { program := "ytmnbkceiaifncaa", sum := "b939144d9ba3a76363898c6e95065029d9364580c2ce938cb19d0b14766f08a8", func := "crossband/crossbandlaw06.GlueSpared", spec := "glueSpared", unfollowed := true, recurses := true, plainKeys := false, apart := false, narrowed := true }
def GlueSparedUptoSaid : Prop := glueSparedUptoRow.holds Try.pinned (OpenSpec.upto glueSparedSpec)

/-- 'crossbandlaw06.GlueKnown', WHERE WHAT IT READS IS OF BULK AT MOST 1048576: true; the input reads as it did. -/
def glueKnownUptoRow : OpenClaim := { program := "ytmnbkceiaifncaa", sum := "b939144d9ba3a76363898c6e95065029d9364580c2ce938cb19d0b14766f08a8", func := "crossband/crossbandlaw06.GlueKnown", spec := "glueKnown", unfollowed := true, recurses := true, plainKeys := false, apart := false, narrowed := true }
def GlueKnownUptoSaid : Prop := glueKnownUptoRow.holds Try.pinned (OpenSpec.upto glueKnownSpec)

end Rows
end Go.Proofs.Ytmnbkceiaifncaa
