/- Texts that the last one of this claim imports. -/
import Derived.Test.YtpoignmclfdgpaaGreatDoorProg
import Derived.KernelRfl
import Derived.Shelf.Strings.Split
import Derived.Shelf.Strings.Prefix
import Derived.Shelf.Strings.Repeat
import Derived.Shelf.Strconv.Itoa4
import Derived.Shelf.Strings.SlTrimAscii
import Derived.Shelf.Strings.Count
import Derived.Test.YtpoignmclfdgpaaGreatDoorChecked
import Derived.Shelf.Pu.ParseUintPublic10
import Derived.Lib.SplitLaws
import Derived.Lib.IndexLaws
import Derived.Lib.ParseIntBCases
import Derived.Lib.ItoaNum
import Derived.Lib.QuoteBits
import Derived.WideLaws
import Derived.Laws.IdiomStrings
import Derived.Laws.AppendOwn
import Derived.Shelf.Strings.Search3
import Derived.Lib.AppendIntMem
import Derived.Lib.TrailingZeros
import Derived.Lib.SmallJoins
import Derived.Test.YtpoignmclfdgpaaGreatDoorRows
import Derived.Test.YtpoignmclfdgpaaGreatDoorTie
import Derived.Test.YtpoignmclfdgpaaGreatDoorCards
import Derived.Lay
import Derived.MakeChecks
import Derived.SevenTiedAt
import Derived.LaidLaws
import Derived.Deep.Strs
import Derived.ChangeMaps5
import Derived.Lib.Walk
import Derived.Lib.ItoaMem
import Derived.WalkKit
import Derived.BigCall
import Derived.BigGuard
import Derived.Lib.AppendStr
import Derived.Test.YtpoignmclfdgpaaGreatDoorB1
set_option linter.unusedVariables false
set_option linter.unusedSimpArgs false
set_option linter.unusedSectionVars false
namespace Go.Proofs.YtpoignmclfdgpaaGreatDoor
open Go.Lw
theorem tk2 : tkB Tryz.prog 2 = some (false, 1) := by kernel_rfl
theorem z2 : qx Tryz.prog 2 = some (Go.Value.int Go.IntKind.i64 0) := by kernel_rfl
theorem rw2 : rowB Tryz.prog 2 = some ((Go.Value.int Go.IntKind.i64 0), 1, 8) := by kernel_rfl
theorem un2 : (Tryz.prog.underlying 2).isSome = true := by kernel_rfl
theorem tk3 : tkB Tryz.prog 3 = some (false, 1) := by kernel_rfl
theorem z3 : qx Tryz.prog 3 = some (Go.Value.int Go.IntKind.i64 0) := by kernel_rfl
theorem rw3 : rowB Tryz.prog 3 = some ((Go.Value.int Go.IntKind.i64 0), 1, 8) := by kernel_rfl
theorem un3 : (Tryz.prog.underlying 3).isSome = true := by kernel_rfl
theorem tk4 : tkB Tryz.prog 4 = some (false, 1) := by kernel_rfl
theorem z4 : qx Tryz.prog 4 = some (Go.Value.bool Bool.false) := by kernel_rfl
theorem rw4 : rowB Tryz.prog 4 = some ((Go.Value.bool Bool.false), 1, 1) := by kernel_rfl
theorem tk5 : tkB Tryz.prog 5 = some (false, 1) := by kernel_rfl
theorem z5 : qx Tryz.prog 5 = some (Go.Value.int Go.IntKind.u8 0) := by kernel_rfl
theorem rw5 : rowB Tryz.prog 5 = some ((Go.Value.int Go.IntKind.u8 0), 1, 1) := by kernel_rfl
theorem un5 : (Tryz.prog.underlying 5).isSome = true := by kernel_rfl
theorem tk9 : tkB Tryz.prog 9 = some (false, 1) := by kernel_rfl
theorem z9 : qx Tryz.prog 9 = some (Go.Value.string (ByteArray.mk #[])) := by kernel_rfl
theorem rw9 : rowB Tryz.prog 9 = some ((Go.Value.string (ByteArray.mk #[])), 1, 16) := by kernel_rfl
theorem z20 : qx Tryz.prog 20 = some Go.Value.nilIface := by kernel_rfl
theorem z21 : qx Tryz.prog 21 = some (Go.Value.int Go.IntKind.i32 0) := by kernel_rfl
theorem qz : tkB Tryz.prog 22 = some (false, 1) := by kernel_rfl
theorem z22 : qx Tryz.prog 22 = some (Go.Value.slice Option.none 0 0) := by kernel_rfl
theorem qo : tkB Tryz.prog 24 = some (false, 1) := by kernel_rfl
theorem z24 : qx Tryz.prog 24 = some (Go.Value.slice Option.none 0 0) := by kernel_rfl
theorem z25 : qx Tryz.prog 25 = some (Go.Value.agg #[(Go.Value.slice Option.none 0 0), (Go.Value.slice Option.none 0 0)]) := by kernel_rfl
theorem zH : tkB Tryz.prog 26 = some (true, 2) := by kernel_rfl
theorem z26 : qx Tryz.prog 26 = some (Go.Value.agg #[(Go.Value.slice Option.none 0 0), (Go.Value.slice Option.none 0 0)]) := by kernel_rfl
theorem zC : foB Tryz.prog 26 0 = some 0 := by kernel_rfl
theorem zz : foB Tryz.prog 26 1 = some 1 := by kernel_rfl
theorem tk28 : tkB Tryz.prog 28 = some (false, 1) := by kernel_rfl
theorem z31 : qx Tryz.prog 31 = some Go.Value.nilFunc := by kernel_rfl
theorem z34 : qx Tryz.prog 34 = some Go.Value.nilFunc := by kernel_rfl
theorem qH : tkB Tryz.prog 36 = some (true, 4) := by kernel_rfl
theorem z36 : qx Tryz.prog 36 = some (Go.Value.agg #[(Go.Value.int Go.IntKind.i64 0), (Go.Value.int Go.IntKind.i64 0), (Go.Value.int Go.IntKind.i64 0), (Go.Value.int Go.IntKind.i64 0)]) := by kernel_rfl
theorem rw36 : rowB Tryz.prog 36 = some ((Go.Value.agg #[(Go.Value.int Go.IntKind.i64 0), (Go.Value.int Go.IntKind.i64 0), (Go.Value.int Go.IntKind.i64 0), (Go.Value.int Go.IntKind.i64 0)]), 4, 32) := by kernel_rfl
theorem qc : foB Tryz.prog 36 0 = some 0 := by kernel_rfl
theorem zA : foB Tryz.prog 36 1 = some 1 := by kernel_rfl
theorem zL : foB Tryz.prog 36 2 = some 2 := by kernel_rfl
theorem zO : foB Tryz.prog 36 3 = some 3 := by kernel_rfl
theorem tk37 : tkB Tryz.prog 37 = some (false, 1) := by kernel_rfl
theorem z37 : qx Tryz.prog 37 = some (Go.Value.slice Option.none 0 0) := by kernel_rfl
theorem z39 : qx Tryz.prog 39 = some Go.Value.nilFunc := by kernel_rfl
theorem z44 : qx Tryz.prog 44 = some Go.Value.nilFunc := by kernel_rfl
theorem z46 : qx Tryz.prog 46 = some Go.Value.nilFunc := by kernel_rfl
theorem z48 : qx Tryz.prog 48 = some Go.Value.nilFunc := by kernel_rfl
theorem z51 : qx Tryz.prog 51 = some Go.Value.nilFunc := by kernel_rfl
theorem z52 : qx Tryz.prog 52 = some Go.Value.nilFunc := by kernel_rfl
theorem z53 : qx Tryz.prog 53 = some Go.Value.nilFunc := by kernel_rfl
theorem z55 : qx Tryz.prog 55 = some (Go.Value.int Go.IntKind.u16 0) := by kernel_rfl
theorem z60 : qx Tryz.prog 60 = some Go.Value.nilFunc := by kernel_rfl
theorem z61 : qx Tryz.prog 61 = some Go.Value.nilFunc := by kernel_rfl
theorem z65 : qx Tryz.prog 65 = some Go.Value.nilFunc := by kernel_rfl
theorem qM : tkB Tryz.prog 66 = some (false, 1) := by kernel_rfl
theorem z66 : qx Tryz.prog 66 = some (Go.Value.slice Option.none 0 0) := by kernel_rfl
theorem z67 : qx Tryz.prog 67 = some Go.Value.nilFunc := by kernel_rfl
theorem qZ : tkB Tryz.prog 69 = some (true, 2) := by kernel_rfl
theorem z69 : qx Tryz.prog 69 = some (Go.Value.agg #[(Go.Value.int Go.IntKind.i64 0), (Go.Value.int Go.IntKind.i64 0)]) := by kernel_rfl
theorem rw69 : rowB Tryz.prog 69 = some ((Go.Value.agg #[(Go.Value.int Go.IntKind.i64 0), (Go.Value.int Go.IntKind.i64 0)]), 2, 16) := by kernel_rfl
theorem zZ : foB Tryz.prog 69 0 = some 0 := by kernel_rfl
theorem qi : foB Tryz.prog 69 1 = some 1 := by kernel_rfl
theorem z70 : qx Tryz.prog 70 = some Go.Value.nilFunc := by kernel_rfl
theorem z72 : qx Tryz.prog 72 = some Go.Value.nilFunc := by kernel_rfl
theorem tk74 : tkB Tryz.prog 74 = some (false, 1) := by kernel_rfl
theorem z74 : qx Tryz.prog 74 = some (Go.Value.slice Option.none 0 0) := by kernel_rfl
theorem z75 : qx Tryz.prog 75 = some Go.Value.nilFunc := by kernel_rfl
theorem z76 : qx Tryz.prog 76 = some Go.Value.nilFunc := by kernel_rfl
theorem qO : tkB Tryz.prog 80 = some (true, 2) := by kernel_rfl
theorem z80 : qx Tryz.prog 80 = some (Go.Value.agg #[(Go.Value.int Go.IntKind.i64 0), (Go.Value.slice Option.none 0 0)]) := by kernel_rfl
theorem rw80 : rowB Tryz.prog 80 = some ((Go.Value.agg #[(Go.Value.int Go.IntKind.i64 0), (Go.Value.slice Option.none 0 0)]), 2, 32) := by kernel_rfl
theorem zY : foB Tryz.prog 80 0 = some 0 := by kernel_rfl
theorem zK : foB Tryz.prog 80 1 = some 1 := by kernel_rfl
theorem tk83 : tkB Tryz.prog 83 = some (false, 1) := by kernel_rfl
theorem tk87 : tkB Tryz.prog 87 = some (false, 1) := by kernel_rfl
theorem tk88 : tkB Tryz.prog 88 = some (false, 1) := by kernel_rfl
theorem kg : foB Tryz.prog 90 0 = some 0 := by kernel_rfl
theorem jd : foB Tryz.prog 90 1 = some 2 := by kernel_rfl
theorem qQ : foB Tryz.prog 90 2 = some 3 := by kernel_rfl
theorem tk92 : tkB Tryz.prog 92 = some (true, 1) := by kernel_rfl
theorem z92 : qx Tryz.prog 92 = some (Go.Value.agg #[(Go.Value.int Go.IntKind.i64 0)]) := by kernel_rfl
theorem fo92_0 : foB Tryz.prog 92 0 = some 0 := by kernel_rfl
theorem z102 : qx Tryz.prog 102 = some Go.Value.nilFunc := by kernel_rfl
theorem qj : tkB Tryz.prog 105 = some (true, 8) := by kernel_rfl
theorem z105 : qx Tryz.prog 105 = some (Go.Value.agg #[(Go.Value.int Go.IntKind.i64 0), (Go.Value.int Go.IntKind.i64 0), (Go.Value.int Go.IntKind.i64 0), (Go.Value.int Go.IntKind.i64 0), (Go.Value.int Go.IntKind.i64 0), (Go.Value.int Go.IntKind.i64 0), (Go.Value.int Go.IntKind.i64 0), (Go.Value.int Go.IntKind.i64 0)]) := by kernel_rfl
theorem z108 : qx Tryz.prog 108 = some Go.Value.nilFunc := by kernel_rfl
theorem z109 : qx Tryz.prog 109 = some Go.Value.nilFunc := by kernel_rfl
theorem z114 : qx Tryz.prog 114 = some (Go.Value.agg #[(Go.Value.pointer Option.none), (Go.Value.slice Option.none 0 0)]) := by kernel_rfl
theorem jW : foB Tryz.prog 114 1 = some 1 := by kernel_rfl
theorem z116 : qx Tryz.prog 116 = some Go.Value.nilIface := by kernel_rfl
theorem z119 : qx Tryz.prog 119 = some Go.Value.nilFunc := by kernel_rfl
theorem z120 : qx Tryz.prog 120 = some Go.Value.nilFunc := by kernel_rfl
theorem tk121 : tkB Tryz.prog 121 = some (false, 1) := by kernel_rfl
theorem z121 : qx Tryz.prog 121 = some (Go.Value.slice Option.none 0 0) := by kernel_rfl
theorem z124 : qx Tryz.prog 124 = some Go.Value.nilFunc := by kernel_rfl
theorem z127 : qx Tryz.prog 127 = some Go.Value.nilFunc := by kernel_rfl
theorem tk136 : tkB Tryz.prog 136 = some (false, 1) := by kernel_rfl
theorem z136 : qx Tryz.prog 136 = some (Go.Value.slice Option.none 0 0) := by kernel_rfl
theorem tk138 : tkB Tryz.prog 138 = some (false, 1) := by kernel_rfl
theorem z138 : qx Tryz.prog 138 = some Go.Value.nilFunc := by kernel_rfl
theorem z139 : qx Tryz.prog 139 = some (Go.Value.agg #[(Go.Value.string (ByteArray.mk #[])), (Go.Value.int Go.IntKind.i64 0)]) := by kernel_rfl
theorem ko : tkB Tryz.prog 140 = some (true, 2) := by kernel_rfl
theorem z140 : qx Tryz.prog 140 = some (Go.Value.agg #[(Go.Value.string (ByteArray.mk #[])), (Go.Value.int Go.IntKind.i64 0)]) := by kernel_rfl
theorem fo140_0 : foB Tryz.prog 140 0 = some 0 := by kernel_rfl
theorem jG : foB Tryz.prog 140 1 = some 1 := by kernel_rfl
theorem z146 : qx Tryz.prog 146 = some Go.Value.nilFunc := by kernel_rfl
theorem z148 : qx Tryz.prog 148 = some Go.Value.nilFunc := by kernel_rfl
theorem z164 : qx Tryz.prog 164 = some Go.Value.nilFunc := by kernel_rfl
theorem z173 : qx Tryz.prog 173 = some Go.Value.nilFunc := by kernel_rfl
theorem z174 : qx Tryz.prog 174 = some (Go.Value.int Go.IntKind.u64 0) := by kernel_rfl
theorem un174 : (Tryz.prog.underlying 174).isSome = true := by kernel_rfl
theorem z183 : qx Tryz.prog 183 = some (Go.Value.agg #[(Go.Value.int Go.IntKind.u8 0), (Go.Value.int Go.IntKind.u8 0), (Go.Value.int Go.IntKind.u8 0), (Go.Value.int Go.IntKind.u8 0), (Go.Value.int Go.IntKind.u8 0), (Go.Value.int Go.IntKind.u8 0), (Go.Value.int Go.IntKind.u8 0), (Go.Value.int Go.IntKind.u8 0), (Go.Value.int Go.IntKind.u8 0), (Go.Value.int Go.IntKind.u8 0), (Go.Value.int Go.IntKind.u8 0), (Go.Value.int Go.IntKind.u8 0), (Go.Value.int Go.IntKind.u8 0), (Go.Value.int Go.IntKind.u8 0), (Go.Value.int Go.IntKind.u8 0), (Go.Value.int Go.IntKind.u8 0), (Go.Value.int Go.IntKind.u8 0), (Go.Value.int Go.IntKind.u8 0), (Go.Value.int Go.IntKind.u8 0), (Go.Value.int Go.IntKind.u8 0), (Go.Value.int Go.IntKind.u8 0), (Go.Value.int Go.IntKind.u8 0), (Go.Value.int Go.IntKind.u8 0), (Go.Value.int Go.IntKind.u8 0)]) := by kernel_rfl
theorem z212 : qx Tryz.prog 212 = some Go.Value.nilFunc := by kernel_rfl
theorem z213 : qx Tryz.prog 213 = some Go.Value.nilFunc := by kernel_rfl
theorem z232 : qx Tryz.prog 232 = some (Go.Value.agg #[(Go.Value.int Go.IntKind.u64 0), (Go.Value.int Go.IntKind.u64 0), (Go.Value.int Go.IntKind.u32 0), (Go.Value.int Go.IntKind.u8 0), (Go.Value.int Go.IntKind.u8 0), (Go.Value.int Go.IntKind.u8 0), (Go.Value.int Go.IntKind.u8 0), Go.Value.nilFunc, (Go.Value.pointer Option.none), (Go.Value.int Go.IntKind.i32 0), (Go.Value.int Go.IntKind.i32 0)]) := by kernel_rfl
theorem z233 : qx Tryz.prog 233 = some (Go.Value.agg #[(Go.Value.int Go.IntKind.u64 0), (Go.Value.int Go.IntKind.u64 0), (Go.Value.int Go.IntKind.u32 0), (Go.Value.int Go.IntKind.u8 0), (Go.Value.int Go.IntKind.u8 0), (Go.Value.int Go.IntKind.u8 0), (Go.Value.int Go.IntKind.u8 0), Go.Value.nilFunc, (Go.Value.pointer Option.none), (Go.Value.int Go.IntKind.i32 0), (Go.Value.int Go.IntKind.i32 0)]) := by kernel_rfl
theorem ok16 : zM Tryz.prog 16 := zB Tryz.func16 (by kernel_rfl) (by kernel_rfl)
theorem ok17 : zM Tryz.prog 17 := zB Tryz.func17 (by kernel_rfl) (by kernel_rfl)
theorem ok18 : zM Tryz.prog 18 := zB Tryz.func18 (by kernel_rfl) (by kernel_rfl)
theorem ok20 : zM Tryz.prog 20 := zB Tryz.func20 (by kernel_rfl) (by kernel_rfl)
theorem ok21 : zM Tryz.prog 21 := zB Tryz.func21 (by kernel_rfl) (by kernel_rfl)
theorem ok22 : zM Tryz.prog 22 := zB Tryz.func22 (by kernel_rfl) (by kernel_rfl)
theorem ok23 : zM Tryz.prog 23 := zB Tryz.func23 (by kernel_rfl) (by kernel_rfl)
theorem ok25 : zM Tryz.prog 25 := zB Tryz.func25 (by kernel_rfl) (by kernel_rfl)
theorem ok27 : zM Tryz.prog 27 := zB Tryz.func27 (by kernel_rfl) (by kernel_rfl)
theorem ok28 : zM Tryz.prog 28 := zB Tryz.func28 (by kernel_rfl) (by kernel_rfl)
theorem ok29 : zM Tryz.prog 29 := zB Tryz.func29 (by kernel_rfl) (by kernel_rfl)
theorem ok30 : zM Tryz.prog 30 := zB Tryz.func30 (by kernel_rfl) (by kernel_rfl)
theorem ok31 : zM Tryz.prog 31 := zB Tryz.func31 (by kernel_rfl) (by kernel_rfl)
theorem ok33 : zM Tryz.prog 33 := zB Tryz.func33 (by kernel_rfl) (by kernel_rfl)
theorem ok35 : zM Tryz.prog 35 := zB Tryz.func35 (by kernel_rfl) (by kernel_rfl)
theorem ok36 : zM Tryz.prog 36 := zB Tryz.func36 (by kernel_rfl) (by kernel_rfl)
theorem ok37 : zM Tryz.prog 37 := zB Tryz.func37 (by kernel_rfl) (by kernel_rfl)
theorem ok38 : zM Tryz.prog 38 := zB Tryz.func38 (by kernel_rfl) (by kernel_rfl)
theorem ok39 : zM Tryz.prog 39 := zB Tryz.func39 (by kernel_rfl) (by kernel_rfl)
theorem ok40 : zM Tryz.prog 40 := zB Tryz.func40 (by kernel_rfl) (by kernel_rfl)
theorem ok44 : zM Tryz.prog 44 := zB Tryz.func44 (by kernel_rfl) (by kernel_rfl)
theorem ok46 : zM Tryz.prog 46 := zB Tryz.func46 (by kernel_rfl) (by kernel_rfl)
theorem ok48 : zM Tryz.prog 48 := zB Tryz.func48 (by kernel_rfl) (by kernel_rfl)
theorem ok50 : zM Tryz.prog 50 := zB Tryz.func50 (by kernel_rfl) (by kernel_rfl)
theorem ok51 : zM Tryz.prog 51 := zB Tryz.func51 (by kernel_rfl) (by kernel_rfl)
theorem ok52 : zM Tryz.prog 52 := zB Tryz.func52 (by kernel_rfl) (by kernel_rfl)
theorem ok53 : zM Tryz.prog 53 := zB Tryz.func53 (by kernel_rfl) (by kernel_rfl)
theorem ok54 : zM Tryz.prog 54 := zB Tryz.func54 (by kernel_rfl) (by kernel_rfl)
theorem jV : zM Tryz.prog 55 := zB Tryz.func55 (by kernel_rfl) (by kernel_rfl)
theorem ok56 : zM Tryz.prog 56 := zB Tryz.func56 (by kernel_rfl) (by kernel_rfl)
theorem ok57 : zM Tryz.prog 57 := zB Tryz.func57 (by kernel_rfl) (by kernel_rfl)
theorem ok58 : zM Tryz.prog 58 := zB Tryz.func58 (by kernel_rfl) (by kernel_rfl)
theorem ok59 : zM Tryz.prog 59 := zB Tryz.func59 (by kernel_rfl) (by kernel_rfl)
theorem ok61 : zM Tryz.prog 61 := zB Tryz.func61 (by kernel_rfl) (by kernel_rfl)
theorem ok62 : zM Tryz.prog 62 := zB Tryz.func62 (by kernel_rfl) (by kernel_rfl)
theorem ok63 : zM Tryz.prog 63 := zB Tryz.func63 (by kernel_rfl) (by kernel_rfl)
theorem ok64 : zM Tryz.prog 64 := zB Tryz.func64 (by kernel_rfl) (by kernel_rfl)
theorem ok65 : zM Tryz.prog 65 := zB Tryz.func65 (by kernel_rfl) (by kernel_rfl)
theorem ok66 : zM Tryz.prog 66 := zB Tryz.func66 (by kernel_rfl) (by kernel_rfl)
theorem ok67 : zM Tryz.prog 67 := zB Tryz.func67 (by kernel_rfl) (by kernel_rfl)
theorem ok68 : zM Tryz.prog 68 := zB Tryz.func68 (by kernel_rfl) (by kernel_rfl)
theorem ok70 : zM Tryz.prog 70 := zB Tryz.func70 (by kernel_rfl) (by kernel_rfl)
theorem ok72 : zM Tryz.prog 72 := zB Tryz.func72 (by kernel_rfl) (by kernel_rfl)
theorem ok73 : zM Tryz.prog 73 := zB Tryz.func73 (by kernel_rfl) (by kernel_rfl)
theorem ok74 : zM Tryz.prog 74 := zB Tryz.func74 (by kernel_rfl) (by kernel_rfl)
theorem ok75 : zM Tryz.prog 75 := zB Tryz.func75 (by kernel_rfl) (by kernel_rfl)
theorem ok76 : zM Tryz.prog 76 := zB Tryz.func76 (by kernel_rfl) (by kernel_rfl)
theorem ok77 : zM Tryz.prog 77 := zB Tryz.func77 (by kernel_rfl) (by kernel_rfl)
theorem ok78 : zM Tryz.prog 78 := zB Tryz.func78 (by kernel_rfl) (by kernel_rfl)
theorem ok79 : zM Tryz.prog 79 := zB Tryz.func79 (by kernel_rfl) (by kernel_rfl)
theorem ok80 : zM Tryz.prog 80 := zB Tryz.func80 (by kernel_rfl) (by kernel_rfl)
theorem ok81 : zM Tryz.prog 81 := zB Tryz.func81 (by kernel_rfl) (by kernel_rfl)
theorem ok82 : zM Tryz.prog 82 := zB Tryz.func82 (by kernel_rfl) (by kernel_rfl)
theorem ok83 : zM Tryz.prog 83 := zB Tryz.func83 (by kernel_rfl) (by kernel_rfl)
theorem ok84 : zM Tryz.prog 84 := zB Tryz.func84 (by kernel_rfl) (by kernel_rfl)
theorem ok85 : zM Tryz.prog 85 := zB Tryz.func85 (by kernel_rfl) (by kernel_rfl)
theorem ok86 : zM Tryz.prog 86 := zB Tryz.func86 (by kernel_rfl) (by kernel_rfl)
theorem ok87 : zM Tryz.prog 87 := zB Tryz.func87 (by kernel_rfl) (by kernel_rfl)
theorem ok88 : zM Tryz.prog 88 := zB Tryz.func88 (by kernel_rfl) (by kernel_rfl)
theorem ok89 : zM Tryz.prog 89 := zB Tryz.func89 (by kernel_rfl) (by kernel_rfl)
theorem ok90 : zM Tryz.prog 90 := zB Tryz.func90 (by kernel_rfl) (by kernel_rfl)
theorem ok91 : zM Tryz.prog 91 := zB Tryz.func91 (by kernel_rfl) (by kernel_rfl)
theorem ok92 : zM Tryz.prog 92 := zB Tryz.func92 (by kernel_rfl) (by kernel_rfl)
theorem ok93 : zM Tryz.prog 93 := zB Tryz.func93 (by kernel_rfl) (by kernel_rfl)
theorem ok94 : zM Tryz.prog 94 := zB Tryz.func94 (by kernel_rfl) (by kernel_rfl)
theorem ok95 : zM Tryz.prog 95 := zB Tryz.func95 (by kernel_rfl) (by kernel_rfl)
theorem ok96 : zM Tryz.prog 96 := zB Tryz.func96 (by kernel_rfl) (by kernel_rfl)
theorem ok97 : zM Tryz.prog 97 := zB Tryz.func97 (by kernel_rfl) (by kernel_rfl)
theorem ok98 : zM Tryz.prog 98 := zB Tryz.func98 (by kernel_rfl) (by kernel_rfl)
theorem ok99 : zM Tryz.prog 99 := zB Tryz.func99 (by kernel_rfl) (by kernel_rfl)
theorem ok100 : zM Tryz.prog 100 := zB Tryz.func100 (by kernel_rfl) (by kernel_rfl)
theorem ok101 : zM Tryz.prog 101 := zB Tryz.func101 (by kernel_rfl) (by kernel_rfl)
theorem ok102 : zM Tryz.prog 102 := zB Tryz.func102 (by kernel_rfl) (by kernel_rfl)
theorem ok111 : zM Tryz.prog 111 := zB Tryz.func111 (by kernel_rfl) (by kernel_rfl)
theorem ok112 : zM Tryz.prog 112 := zB Tryz.func112 (by kernel_rfl) (by kernel_rfl)
theorem ok113 : zM Tryz.prog 113 := zB Tryz.func113 (by kernel_rfl) (by kernel_rfl)
theorem ok114 : zM Tryz.prog 114 := zB Tryz.func114 (by kernel_rfl) (by kernel_rfl)
theorem ok116 : zM Tryz.prog 116 := zB Tryz.func116 (by kernel_rfl) (by kernel_rfl)
theorem ok117 : zM Tryz.prog 117 := zB Tryz.func117 (by kernel_rfl) (by kernel_rfl)
theorem ok118 : zM Tryz.prog 118 := zB Tryz.func118 (by kernel_rfl) (by kernel_rfl)
theorem ok119 : zM Tryz.prog 119 := zB Tryz.func119 (by kernel_rfl) (by kernel_rfl)
theorem ok120 : zM Tryz.prog 120 := zB Tryz.func120 (by kernel_rfl) (by kernel_rfl)
theorem ok122 : zM Tryz.prog 122 := zB Tryz.func122 (by kernel_rfl) (by kernel_rfl)
theorem ok130 : zM Tryz.prog 130 := zB Tryz.func130 (by kernel_rfl) (by kernel_rfl)
theorem ok131 : zM Tryz.prog 131 := zB Tryz.func131 (by kernel_rfl) (by kernel_rfl)
theorem ok132 : zM Tryz.prog 132 := zB Tryz.func132 (by kernel_rfl) (by kernel_rfl)
theorem ok134 : zM Tryz.prog 134 := zB Tryz.func134 (by kernel_rfl) (by kernel_rfl)
theorem ok141 : zM Tryz.prog 141 := zB Tryz.func141 (by kernel_rfl) (by kernel_rfl)
theorem ok150 : zM Tryz.prog 150 := zB Tryz.func150 (by kernel_rfl) (by kernel_rfl)
theorem ok157 : zM Tryz.prog 157 := zB Tryz.func157 (by kernel_rfl) (by kernel_rfl)
theorem ok158 : zM Tryz.prog 158 := zB Tryz.func158 (by kernel_rfl) (by kernel_rfl)
theorem ok173 : zM Tryz.prog 173 := zB Tryz.func173 (by kernel_rfl) (by kernel_rfl)
theorem bd26_0_1 (x1 : Option Addr) (x2 : Nat) (x3 : Nat) (x4 : Option Addr) (x5 : Nat) (x6 : Nat) (w : World) : (Instr.build 26 #[(0, (.slice x1 x2 x3)), (1, (.slice x4 x5 x6))]).run Tryz.prog w = .ok (.agg #[(.slice x1 x2 x3), (.slice x4 x5 x6)]) w := by kernel_rfl
theorem bd26  (w : World) : (Instr.build 26 #[]).run Tryz.prog w = .ok (.agg #[(Go.Value.slice Option.none 0 0), (Go.Value.slice Option.none 0 0)]) w := by kernel_rfl
theorem bs28_2_0_1 (x1 : Int) (x2 : Int) (w : World) : (Instr.buildSlice 28 2 #[(0, (.int .i64 x1)), (1, (.int .i64 x2))]).run Tryz.prog w = .ok (.slice (some ⟨w.heap.size, 0, none⟩) 2 2) (w.alloc (LC [(.int .i64 x1), (.int .i64 x2)] 2)) := by kernel_rfl
theorem bs28_1_0 (x1 : Int) (w : World) : (Instr.buildSlice 28 1 #[(0, (.int .i64 x1))]).run Tryz.prog w = .ok (.slice (some ⟨w.heap.size, 0, none⟩) 1 1) (w.alloc (LC [(.int .i64 x1)] 2)) := by kernel_rfl
theorem bs37_5_0_1_2_3_4 (x1 : Int) (x2 : Int) (x3 : Int) (x4 : Int) (x5 : Int) (w : World) : (Instr.buildSlice 37 5 #[(0, (.int .i64 x1)), (1, (.int .i64 x2)), (2, (.int .i64 x3)), (3, (.int .i64 x4)), (4, (.int .i64 x5))]).run Tryz.prog w = .ok (.slice (some ⟨w.heap.size, 0, none⟩) 5 5) (w.alloc (LC [(.int .i64 x1), (.int .i64 x2), (.int .i64 x3), (.int .i64 x4), (.int .i64 x5)] 3)) := by kernel_rfl
theorem bs37_4_0_1_2_3 (x1 : Int) (x2 : Int) (x3 : Int) (x4 : Int) (w : World) : (Instr.buildSlice 37 4 #[(0, (.int .i64 x1)), (1, (.int .i64 x2)), (2, (.int .i64 x3)), (3, (.int .i64 x4))]).run Tryz.prog w = .ok (.slice (some ⟨w.heap.size, 0, none⟩) 4 4) (w.alloc (LC [(.int .i64 x1), (.int .i64 x2), (.int .i64 x3), (.int .i64 x4)] 3)) := by kernel_rfl
theorem bs28_4_0_1_2_3 (x1 : Int) (x2 : Int) (x3 : Int) (x4 : Int) (w : World) : (Instr.buildSlice 28 4 #[(0, (.int .i64 x1)), (1, (.int .i64 x2)), (2, (.int .i64 x3)), (3, (.int .i64 x4))]).run Tryz.prog w = .ok (.slice (some ⟨w.heap.size, 0, none⟩) 4 4) (w.alloc (LC [(.int .i64 x1), (.int .i64 x2), (.int .i64 x3), (.int .i64 x4)] 2)) := by kernel_rfl
theorem bs28_3_0_1_2 (x1 : Int) (x2 : Int) (x3 : Int) (w : World) : (Instr.buildSlice 28 3 #[(0, (.int .i64 x1)), (1, (.int .i64 x2)), (2, (.int .i64 x3))]).run Tryz.prog w = .ok (.slice (some ⟨w.heap.size, 0, none⟩) 3 3) (w.alloc (LC [(.int .i64 x1), (.int .i64 x2), (.int .i64 x3)] 2)) := by kernel_rfl
theorem qw (x1 : Int) (w : World) : (Instr.buildSlice 37 1 #[(0, (.int .i64 x1))]).run Tryz.prog w = .ok (.slice (some ⟨w.heap.size, 0, none⟩) 1 1) (w.alloc (LC [(.int .i64 x1)] 3)) := by kernel_rfl
theorem bd80_0_1 (x1 : Int) (x2 : Option Addr) (x3 : Nat) (x4 : Nat) (w : World) : (Instr.build 80 #[(0, (.int .i64 x1)), (1, (.slice x2 x3 x4))]).run Tryz.prog w = .ok (.agg #[(.int .i64 x1), (.slice x2 x3 x4)]) w := by kernel_rfl
theorem bs22_1_0 (x1 : Int) (x2 : Option Addr) (x3 : Nat) (x4 : Nat) (w : World) : (Instr.buildSlice 22 1 #[(0, (.agg #[(.int .i64 x1), (.slice x2 x3 x4)]))]).run Tryz.prog w = .ok (.slice (some ⟨w.heap.size, 0, none⟩) 1 1) (w.alloc (LC [(.int .i64 x1), (.slice x2 x3 x4)] 80)) := by kernel_rfl
theorem bs24_1_0 (x1 : Int) (x2 : Int) (x3 : Int) (x4 : Int) (w : World) : (Instr.buildSlice 24 1 #[(0, (.agg #[(.int .i64 x1), (.int .i64 x2), (.int .i64 x3), (.int .i64 x4)]))]).run Tryz.prog w = .ok (.slice (some ⟨w.heap.size, 0, none⟩) 1 1) (w.alloc (LC [(.int .i64 x1), (.int .i64 x2), (.int .i64 x3), (.int .i64 x4)] 36)) := by kernel_rfl
theorem bd92_0 (x1 : Int) (w : World) : (Instr.build 92 #[(0, (.int .i64 x1))]).run Tryz.prog w = .ok (.agg #[(.int .i64 x1)]) w := by kernel_rfl
theorem bd105  (w : World) : (Instr.build 105 #[]).run Tryz.prog w = .ok (.agg #[(Go.Value.int Go.IntKind.i64 0), (Go.Value.int Go.IntKind.i64 0), (Go.Value.int Go.IntKind.i64 0), (Go.Value.int Go.IntKind.i64 0), (Go.Value.int Go.IntKind.i64 0), (Go.Value.int Go.IntKind.i64 0), (Go.Value.int Go.IntKind.i64 0), (Go.Value.int Go.IntKind.i64 0)]) w := by kernel_rfl
theorem bs66_0  (w : World) : (Instr.buildSlice 66 0 #[]).run Tryz.prog w = .ok (.slice (some ⟨w.heap.size, 0, none⟩) 0 0) (w.alloc (LC [] 69)) := by kernel_rfl
theorem bd36_0_1_2_3 (x1 : Int) (x2 : Int) (x3 : Int) (x4 : Int) (w : World) : (Instr.build 36 #[(0, (.int .i64 x1)), (1, (.int .i64 x2)), (2, (.int .i64 x3)), (3, (.int .i64 x4))]).run Tryz.prog w = .ok (.agg #[(.int .i64 x1), (.int .i64 x2), (.int .i64 x3), (.int .i64 x4)]) w := by kernel_rfl
theorem bs37_2_0_1 (x1 : Int) (x2 : Int) (w : World) : (Instr.buildSlice 37 2 #[(0, (.int .i64 x1)), (1, (.int .i64 x2))]).run Tryz.prog w = .ok (.slice (some ⟨w.heap.size, 0, none⟩) 2 2) (w.alloc (LC [(.int .i64 x1), (.int .i64 x2)] 3)) := by kernel_rfl
theorem bs22_2_0_1 (x1 : Int) (x2 : Option Addr) (x3 : Nat) (x4 : Nat) (x5 : Int) (x6 : Option Addr) (x7 : Nat) (x8 : Nat) (w : World) : (Instr.buildSlice 22 2 #[(0, (.agg #[(.int .i64 x1), (.slice x2 x3 x4)])), (1, (.agg #[(.int .i64 x5), (.slice x6 x7 x8)]))]).run Tryz.prog w = .ok (.slice (some ⟨w.heap.size, 0, none⟩) 2 2) (w.alloc (LC [(.int .i64 x1), (.slice x2 x3 x4), (.int .i64 x5), (.slice x6 x7 x8)] 80)) := by kernel_rfl
theorem bs24_6_0_1_2_3_4_5 (x1 : Int) (x2 : Int) (x3 : Int) (x4 : Int) (x5 : Int) (x6 : Int) (x7 : Int) (x8 : Int) (x9 : Int) (x10 : Int) (x11 : Int) (x12 : Int) (x13 : Int) (x14 : Int) (x15 : Int) (x16 : Int) (x17 : Int) (x18 : Int) (x19 : Int) (x20 : Int) (x21 : Int) (x22 : Int) (x23 : Int) (x24 : Int) (w : World) : (Instr.buildSlice 24 6 #[(0, (.agg #[(.int .i64 x1), (.int .i64 x2), (.int .i64 x3), (.int .i64 x4)])), (1, (.agg #[(.int .i64 x5), (.int .i64 x6), (.int .i64 x7), (.int .i64 x8)])), (2, (.agg #[(.int .i64 x9), (.int .i64 x10), (.int .i64 x11), (.int .i64 x12)])), (3, (.agg #[(.int .i64 x13), (.int .i64 x14), (.int .i64 x15), (.int .i64 x16)])), (4, (.agg #[(.int .i64 x17), (.int .i64 x18), (.int .i64 x19), (.int .i64 x20)])), (5, (.agg #[(.int .i64 x21), (.int .i64 x22), (.int .i64 x23), (.int .i64 x24)]))]).run Tryz.prog w = .ok (.slice (some ⟨w.heap.size, 0, none⟩) 6 6) (w.alloc (LC [(.int .i64 x1), (.int .i64 x2), (.int .i64 x3), (.int .i64 x4), (.int .i64 x5), (.int .i64 x6), (.int .i64 x7), (.int .i64 x8), (.int .i64 x9), (.int .i64 x10), (.int .i64 x11), (.int .i64 x12), (.int .i64 x13), (.int .i64 x14), (.int .i64 x15), (.int .i64 x16), (.int .i64 x17), (.int .i64 x18), (.int .i64 x19), (.int .i64 x20), (.int .i64 x21), (.int .i64 x22), (.int .i64 x23), (.int .i64 x24)] 36)) := by kernel_rfl
theorem bd90_1_2 (x1 : Option Nat) (x2 : Option Nat) (w : World) : (Instr.build 90 #[(1, (.map x1)), (2, (.map x2))]).run Tryz.prog w = .ok (.agg #[(Go.Value.slice Option.none 0 0), (Go.Value.slice Option.none 0 0), (.map x1), (.map x2)]) w := by kernel_rfl
theorem bd80_0 (x1 : Int) (w : World) : (Instr.build 80 #[(0, (.int .i64 x1))]).run Tryz.prog w = .ok (.agg #[(.int .i64 x1), (Go.Value.slice Option.none 0 0)]) w := by kernel_rfl
theorem bd69_0_1 (x1 : Int) (x2 : Int) (w : World) : (Instr.build 69 #[(0, (.int .i64 x1)), (1, (.int .i64 x2))]).run Tryz.prog w = .ok (.agg #[(.int .i64 x1), (.int .i64 x2)]) w := by kernel_rfl
theorem bs66_1_0 (x1 : Int) (x2 : Int) (w : World) : (Instr.buildSlice 66 1 #[(0, (.agg #[(.int .i64 x1), (.int .i64 x2)]))]).run Tryz.prog w = .ok (.slice (some ⟨w.heap.size, 0, none⟩) 1 1) (w.alloc (LC [(.int .i64 x1), (.int .i64 x2)] 69)) := by kernel_rfl
theorem bd36_0_1_2 (x1 : Int) (x2 : Int) (x3 : Int) (w : World) : (Instr.build 36 #[(0, (.int .i64 x1)), (1, (.int .i64 x2)), (2, (.int .i64 x3))]).run Tryz.prog w = .ok (.agg #[(.int .i64 x1), (.int .i64 x2), (.int .i64 x3), (Go.Value.int Go.IntKind.i64 0)]) w := by kernel_rfl
theorem bd140_0_1 (x1 : ByteArray) (x2 : Int) (w : World) : (Instr.build 140 #[(0, (.string x1)), (1, (.int .i64 x2))]).run Tryz.prog w = .ok (.agg #[(.string x1), (.int .i64 x2)]) w := by kernel_rfl
theorem bs143_5_0_1_2_3_4 (x1 : ByteArray) (x2 : Int) (x3 : ByteArray) (x4 : Int) (x5 : ByteArray) (x6 : Int) (x7 : ByteArray) (x8 : Int) (x9 : ByteArray) (x10 : Int) (w : World) : (Instr.buildSlice 143 5 #[(0, (.agg #[(.string x1), (.int .i64 x2)])), (1, (.agg #[(.string x3), (.int .i64 x4)])), (2, (.agg #[(.string x5), (.int .i64 x6)])), (3, (.agg #[(.string x7), (.int .i64 x8)])), (4, (.agg #[(.string x9), (.int .i64 x10)]))]).run Tryz.prog w = .ok (.slice (some ⟨w.heap.size, 0, none⟩) 5 5) (w.alloc (LC [(.string x1), (.int .i64 x2), (.string x3), (.int .i64 x4), (.string x5), (.int .i64 x6), (.string x7), (.int .i64 x8), (.string x9), (.int .i64 x10)] 140)) := by kernel_rfl
theorem bs121_1_0 (x1 : ByteArray) (w : World) : (Instr.buildSlice 121 1 #[(0, (.string x1))]).run Tryz.prog w = .ok (.slice (some ⟨w.heap.size, 0, none⟩) 1 1) (w.alloc (LC [(.string x1)] 9)) := by kernel_rfl
-- build in 167: pat interface
theorem ffm : Tryz.prog.follows .mixedOrders = true := by kernel_rfl
end Go.Proofs.YtpoignmclfdgpaaGreatDoor
set_option linter.unusedVariables false
set_option linter.unusedSimpArgs false
namespace Go.Proofs.YtpoignmclfdgpaaGreatDoor
open Go.Lw Go.RowKit
theorem eqS36 (x1 : Int) (x2 : Int) (x3 : Int) (x4 : Int) (x5 : Int) (x6 : Int) (x7 : Int) (x8 : Int) : EqS Tryz.prog 36 [(.int .i64 x1), (.int .i64 x2), (.int .i64 x3), (.int .i64 x4)] [(.int .i64 x5), (.int .i64 x6), (.int .i64 x7), (.int .i64 x8)] (decide (x1 = x5 ∧ x2 = x6 ∧ x3 = x7 ∧ x4 = x8)) := by
 refine ⟨by first | exact Tryz.eqGuardType36 | kernel_rfl, fun w => ?_⟩
 have u2 := Tryz.underlying2
 have a2 := Tryz.isAgg2
 have z2 := Tryz.sizeOf2
 have u3 := Tryz.underlying3
 have a3 := Tryz.isAgg3
 have z3 := Tryz.sizeOf3
 have hS : Tryz.prog.underlying 36 = some (.struct (Tryz.prog.fieldsOf 36)) := by kernel_rfl
 have hp : Tryz.prog.stoodInHeld 36 = false := by kernel_rfl
 rw [show (10000 : Nat) = 9999 + 1 from rfl, run_equalIn_agg w 9999 36 _ _ hS hp]
 simp only [Program.fieldsOf, Tryz.underlying36]
 go_simp
 by_cases h0 : x1 = x5 <;> by_cases h1 : x2 = x6 <;> by_cases h2 : x3 = x7 <;> by_cases h3 : x4 = x8 <;> simp [*]
theorem eqS69 (x1 : Int) (x2 : Int) (x3 : Int) (x4 : Int) : EqS Tryz.prog 69 [(.int .i64 x1), (.int .i64 x2)] [(.int .i64 x3), (.int .i64 x4)] (decide (x1 = x3 ∧ x2 = x4)) := by
 refine ⟨by first | exact Tryz.eqGuardType69 | kernel_rfl, fun w => ?_⟩
 have u2 := Tryz.underlying2
 have a2 := Tryz.isAgg2
 have z2 := Tryz.sizeOf2
 have u3 := Tryz.underlying3
 have a3 := Tryz.isAgg3
 have z3 := Tryz.sizeOf3
 have hS : Tryz.prog.underlying 69 = some (.struct (Tryz.prog.fieldsOf 69)) := by kernel_rfl
 have hp : Tryz.prog.stoodInHeld 69 = false := by kernel_rfl
 rw [show (10000 : Nat) = 9999 + 1 from rfl, run_equalIn_agg w 9999 69 _ _ hS hp]
 simp only [Program.fieldsOf, Tryz.underlying69]
 go_simp
 by_cases h0 : x1 = x3 <;> by_cases h1 : x2 = x4 <;> simp [*]
theorem eqS92 (x1 : Int) (x2 : Int) : EqS Tryz.prog 92 [(.int .i64 x1)] [(.int .i64 x2)] (decide (x1 = x2)) := by
 refine ⟨by first | exact Tryz.eqGuardType92 | kernel_rfl, fun w => ?_⟩
 have u3 := Tryz.underlying3
 have a3 := Tryz.isAgg3
 have z3 := Tryz.sizeOf3
 have hS : Tryz.prog.underlying 92 = some (.struct (Tryz.prog.fieldsOf 92)) := by kernel_rfl
 have hp : Tryz.prog.stoodInHeld 92 = false := by kernel_rfl
 rw [show (10000 : Nat) = 9999 + 1 from rfl, run_equalIn_agg w 9999 92 _ _ hS hp]
 simp only [Program.fieldsOf, Tryz.underlying92]
 go_simp
 by_cases h0 : x1 = x2 <;> simp [*]
theorem eqS105 (x1 : Int) (x2 : Int) (x3 : Int) (x4 : Int) (x5 : Int) (x6 : Int) (x7 : Int) (x8 : Int) (x9 : Int) (x10 : Int) (x11 : Int) (x12 : Int) (x13 : Int) (x14 : Int) (x15 : Int) (x16 : Int) : EqS Tryz.prog 105 [(.int .i64 x1), (.int .i64 x2), (.int .i64 x3), (.int .i64 x4), (.int .i64 x5), (.int .i64 x6), (.int .i64 x7), (.int .i64 x8)] [(.int .i64 x9), (.int .i64 x10), (.int .i64 x11), (.int .i64 x12), (.int .i64 x13), (.int .i64 x14), (.int .i64 x15), (.int .i64 x16)] (decide (x1 = x9 ∧ x2 = x10 ∧ x3 = x11 ∧ x4 = x12 ∧ x5 = x13 ∧ x6 = x14 ∧ x7 = x15 ∧ x8 = x16)) := by
 refine ⟨by first | exact Tryz.eqGuardType105 | kernel_rfl, fun w => ?_⟩
 have u2 := Tryz.underlying2
 have a2 := Tryz.isAgg2
 have z2 := Tryz.sizeOf2
 rw [show (10000 : Nat) = 9999 + 1 from rfl, Op.equalIn]
 simp only [Sem.run_bind, run_underlying Tryz.underlying105, Result.andThen_ok]
 simp only [Std.Legacy.Range.forIn_eq_forIn_range', Std.Legacy.Range.size, Nat.sub_zero, Nat.add_sub_cancel, Nat.div_one, List.range'_succ, List.range'_zero, List.forIn_cons, List.forIn_nil]
 go_simp
 by_cases h0 : x1 = x9 <;> by_cases h1 : x2 = x10 <;> by_cases h2 : x3 = x11 <;> by_cases h3 : x4 = x12 <;> by_cases h4 : x5 = x13 <;> by_cases h5 : x6 = x14 <;> by_cases h6 : x7 = x15 <;> by_cases h7 : x8 = x16 <;> simp [*]
end Go.Proofs.YtpoignmclfdgpaaGreatDoor
set_option linter.unusedVariables false
namespace Go.Bk
structure Pt where
 t : Int
 n : Int
 deriving DecidableEq
structure Rc where
 g : Int
 ps : List Pt
 deriving DecidableEq
structure En where
 d : Int
 k : Int
 t : Int
 n : Int
 deriving DecidableEq
structure Bo where
 rs : List Rc
 es : List En
 deriving DecidableEq
def partE (g last : Int) (p : Pt) : Int := if ¬ (0 ≤ p.t ∧ p.t ≤ 7) ∨ p.n < 1 ∨ 9 < p.n then 3 else if ¬ (last + 1 ≤ p.t ∧ p.t ≤ g - 1) then 16 else 0
def partsE (g : Int) : Int → List Pt → Int
 | _, [] => 0
 | last, p :: ps => if partE g last p ≠ 0 then partE g last p else partsE g p.t ps
def rcE (last : Int) (r : Rc) : Int := if ¬ (0 ≤ r.g ∧ r.g ≤ 7) then 3 else if r.g ≤ last then 16 else if ¬ (1 ≤ r.ps.length ∧ r.ps.length ≤ 3) then 6 else partsE r.g (-1) r.ps
def recsE : Int → List Rc → Int
 | _, [] => 0
 | last, r :: rs => if rcE last r ≠ 0 then rcE last r else recsE r.g rs
def crE (rs : List Rc) : Int := recsE (-1) rs
structure PtOk (g last : Int) (p : Pt) : Prop where
 t : 0 ≤ p.t ∧ p.t ≤ 7
 n : 1 ≤ p.n ∧ p.n ≤ 9
 lt : last < p.t ∧ p.t < g
theorem partE_iff {g last : Int} {p : Pt} : partE g last p = 0 ↔ PtOk g last p := by
 unfold partE
 constructor
 ·intro h
  split at h
  ·cases h
  ·split at h
   ·cases h
   ·exact ⟨by omega, by omega, by omega⟩
 ·rintro ⟨h1, h2, h3⟩
  rw [if_neg (by omega), if_neg (by omega)]
inductive PtsOk (g : Int) : Int → List Pt → Prop
 | nil (last : Int) : PtsOk g last []
 | cons {last : Int} {p : Pt} {ps : List Pt} : PtOk g last p → PtsOk g p.t ps → PtsOk g last (p :: ps)
theorem partsE_iff {g : Int} : ∀ {ps : List Pt} {last : Int}, partsE g last ps = 0 ↔ PtsOk g last ps
 | [], last => ⟨fun _ => .nil last, fun _ => rfl⟩
 | p :: ps, last => by
  simp only [partsE]
  constructor
  ·intro h
   split at h
   ·rename_i c; exact absurd h c
   ·rename_i c
    exact .cons (partE_iff.1 (Classical.not_not.1 c)) (partsE_iff.1 h)
  ·intro h
   cases h with
   | cons h1 h2 => rw [if_neg (by rw [partE_iff.2 h1]; simp)]; exact partsE_iff.2 h2
structure RcOk (last : Int) (r : Rc) : Prop where
 g : 0 ≤ r.g ∧ r.g ≤ 7
 lt : last < r.g
 len : 1 ≤ r.ps.length ∧ r.ps.length ≤ 3
 ps : PtsOk r.g (-1) r.ps
theorem rcE_iff {last : Int} {r : Rc} : rcE last r = 0 ↔ RcOk last r := by
 unfold rcE
 constructor
 ·intro h
  split at h
  ·cases h
  ·split at h
   ·cases h
   ·split at h
    ·cases h
    ·exact ⟨by omega, by omega, by omega, partsE_iff.1 h⟩
 ·rintro ⟨h1, h2, h3, h4⟩
  rw [if_neg (by omega), if_neg (by omega), if_neg (by omega)]
  exact partsE_iff.2 h4
inductive qL : Int → List Rc → Prop
 | nil (last : Int) : qL last []
 | cons {last : Int} {r : Rc} {rs : List Rc} : RcOk last r → qL r.g rs → qL last (r :: rs)
theorem recsE_iff : ∀ {rs : List Rc} {last : Int}, recsE last rs = 0 ↔ qL last rs
 | [], last => ⟨fun _ => .nil last, fun _ => rfl⟩
 | r :: rs, last => by
  simp only [recsE]
  constructor
  ·intro h
   split at h
   ·rename_i c; exact absurd h c
   ·rename_i c
    exact .cons (rcE_iff.1 (Classical.not_not.1 c)) (recsE_iff.1 h)
  ·intro h
   cases h with
   | cons h1 h2 => rw [if_neg (by rw [rcE_iff.2 h1]; simp)]; exact recsE_iff.2 h2
def partsOf (rs : List Rc) (g : Int) : List Pt := match rs.find? (fun r => decide (r.g = g)) with
 | some r => r.ps
 | none => []
theorem ptsOk_in {g : Int} : ∀ {ps : List Pt} {last : Int}, PtsOk g last ps → ∀ p ∈ ps, 0 ≤ p.t ∧ p.t ≤ 7 ∧ 1 ≤ p.n ∧ p.n ≤ 9 ∧ p.t < g ∧ last < p.t
 | [], last, _, p, hp => by cases hp
 | q :: ps, last, h, p, hp => by
  cases h with
  | cons h1 h2 =>
   rcases List.mem_cons.1 hp with rfl | hp
   ·exact ⟨h1.t.1, h1.t.2, h1.n.1, h1.n.2, h1.lt.2, h1.lt.1⟩
   ·have := ptsOk_in h2 p hp
    have := h1.lt
    omega
theorem ky : ∀ {rs : List Rc} {last : Int}, qL last rs → ∀ r ∈ rs, RcOk last r
 | [], last, _, r, hr => by cases hr
 | q :: rs, last, h, r, hr => by
  cases h with
  | cons h1 h2 =>
   rcases List.mem_cons.1 hr with rfl | hr
   ·exact h1
   ·have h3 := ky h2 r hr
    have := h1.lt
    exact ⟨h3.g, by have := h3.lt; omega, h3.len, h3.ps⟩
theorem qD {rs : List Rc} (h : qL (-1) rs) {g : Int} {p : Pt} (hp : p ∈ partsOf rs g) : 0 ≤ p.t ∧ p.t ≤ 7 ∧ 1 ≤ p.n ∧ p.n ≤ 9 ∧ p.t < g := by
 unfold partsOf at hp
 split at hp
 ·rename_i r hr
  have hm := List.mem_of_find?_eq_some hr
  have hg := List.find?_some hr
  have hg' : r.g = g := of_decide_eq_true hg
  have := ptsOk_in (ky h r hm).ps p hp
  omega
 ·cases hp
theorem partsOf_len {rs : List Rc} (h : qL (-1) rs) (g : Int) : (partsOf rs g).length ≤ 3 := by
 unfold partsOf
 split
 ·rename_i r hr
  exact (ky h r (List.mem_of_find?_eq_some hr)).len.2
 ·exact Nat.zero_le _
end Go.Bk
set_option linter.unusedVariables false
namespace Go.Bk
def one (rs : List Rc) : Nat → Int → Int → Int
 | 0, g, x => if x = g then 1 else 0
 | f + 1, g, x => if partsOf rs g = [] then (if x = g then 1 else 0) else ((partsOf rs g).map fun p => p.n * one rs f p.t x).sum
theorem sum_congr {α : Type} {f g : α → Int} : ∀ {l : List α}, (∀ x ∈ l, f x = g x) → (l.map f).sum = (l.map g).sum
 | [], _ => rfl
 | a :: l, h => by
  rw [List.map_cons, List.map_cons, List.sum_cons, List.sum_cons, h a List.mem_cons_self, sum_congr fun x hx => h x (List.mem_cons_of_mem _ hx)]
theorem one_step {rs : List Rc} (h : qL (-1) rs) (x : Int) : ∀ (f : Nat) (g : Int), g < f → one rs (f + 1) g x = one rs f g x
 | 0, g, hg => by
  have hp : partsOf rs g = [] := by
   cases c : partsOf rs g with
   | nil => rfl
   | cons p l =>
    have := qD h (g := g) (p := p) (by rw [c]; exact List.mem_cons_self)
    omega
  simp only [one, if_pos hp]
 | f + 1, g, hg => by
  rw [one]
  conv => rhs; rw [one]
  split
  ·rfl
  ·exact sum_congr fun p hp => by
    have := qD h hp
    rw [one_step h x f p.t (by omega)]
def jS (rs : List Rc) (g x : Int) : Int := one rs 8 g x
theorem rawO_raw {rs : List Rc} {g : Int} (hp : partsOf rs g = []) (x : Int) : jS rs g x = if x = g then 1 else 0 := by
 unfold jS
 rw [one, if_pos hp]
theorem rawO_made {rs : List Rc} (h : qL (-1) rs) {g : Int} (hg : g ≤ 7) (hp : partsOf rs g ≠ []) (x : Int) : jS rs g x = ((partsOf rs g).map fun p => p.n * jS rs p.t x).sum := by
 unfold jS
 rw [one, if_neg hp]
 exact sum_congr fun p hpm => by
  have := qD h hpm
  rw [one_step h x 7 p.t (by omega)]
def lim : Nat → Int
 | 0 => 1
 | n + 1 => 27 * lim n
theorem lim_pos : ∀ n, 1 ≤ lim n
 | 0 => Int.le_refl _
 | n + 1 => by have := lim_pos n; simp only [lim]; omega
theorem lim_mono : ∀ {n m : Nat}, n ≤ m → lim n ≤ lim m
 | n, 0, h => by
   obtain rfl : n = 0 := by omega
   exact Int.le_refl _
 | n, m + 1, h => by
  by_cases e : n = m + 1
  ·subst e; exact Int.le_refl _
  ·have := lim_mono (n := n) (m := m) (by omega)
   have := lim_pos m
   simp only [lim]; omega
theorem sum_bd {α : Type} {f : α → Int} {b : Int} (hb : 0 ≤ b) : ∀ {l : List α}, (∀ x ∈ l, 0 ≤ f x ∧ f x ≤ b) → 0 ≤ (l.map f).sum ∧ (l.map f).sum ≤ b * l.length
 | [], _ => by simp
 | a :: l, h => by
  have h1 := h a List.mem_cons_self
  have h2 := sum_bd hb fun x hx => h x (List.mem_cons_of_mem _ hx)
  rw [List.map_cons, List.sum_cons, List.length_cons]
  have : b * ((l.length + 1 : Nat) : Int) = b * (l.length : Int) + b := by push_cast; rw [Int.mul_add, Int.mul_one]
  omega
theorem one_bd {rs : List Rc} (h : qL (-1) rs) (x : Int) : ∀ (f : Nat) (g : Int), 0 ≤ one rs f g x ∧ one rs f g x ≤ lim g.toNat
 | 0, g => by
  have := lim_pos g.toNat
  simp only [one]; split <;> omega
 | f + 1, g => by
  have hl := lim_pos g.toNat
  rw [one]
  split
  ·split <;> omega
  ·rename_i hne
   obtain ⟨q, hq⟩ := List.exists_mem_of_ne_nil _ hne
   have hq' := qD h hq
   obtain ⟨m, hm⟩ : ∃ m : Nat, g.toNat = m + 1 := ⟨g.toNat - 1, by omega⟩
   have hm0 := lim_pos m
   have h1 := sum_bd (f := fun p : Pt => p.n * one rs f p.t x) (b := 9 * lim m) (by omega) (l := partsOf rs g) fun p hp => by
    have a := qD h hp
    have b := one_bd h x f p.t
    have c := lim_mono (n := p.t.toNat) (m := m) (by omega)
    exact ⟨Int.mul_nonneg (by omega) b.1, Int.mul_le_mul (by omega) (Int.le_trans b.2 c) b.1 (by decide)⟩
   have h2 := partsOf_len h g
   refine ⟨h1.1, Int.le_trans h1.2 ?_⟩
   have h3 : 9 * lim m * ((partsOf rs g).length : Int) ≤ 9 * lim m * 3 := Int.mul_le_mul_of_nonneg_left (by omega) (by omega)
   rw [hm]
   simp only [lim]; omega
theorem rawO_bd {rs : List Rc} (h : qL (-1) rs) {g : Int} (hg : g ≤ 7) (x : Int) : 0 ≤ jS rs g x ∧ jS rs g x ≤ 10460353203 := by
 have a := one_bd h x 8 g
 have b := lim_mono (n := g.toNat) (m := 7) (by omega)
 have l7 : lim 7 = 10460353203 := by decide
 unfold jS
 omega
def upd (W : Nat → Int) (a : Nat) (v : Int) : Nat → Int := fun s => if s = a then v else W s
def dotN (W r : Nat → Int) : Nat → Int
 | 0 => 0
 | n + 1 => dotN W r n + W n * r n
theorem dot_out {W r : Nat → Int} {a : Nat} {v : Int} : ∀ {n : Nat}, n ≤ a → dotN (upd W a v) r n = dotN W r n
 | 0, _ => rfl
 | n + 1, h => by
  simp only [dotN]
  rw [dot_out (by omega), upd, if_neg (by omega)]
theorem dot_upd {W r : Nat → Int} {a : Nat} {v : Int} : ∀ {n : Nat}, a < n → dotN (upd W a v) r n = dotN W r n + (v - W a) * r a
 | 0, h => absurd h (Nat.not_lt_zero a)
 | n + 1, h => by
  simp only [dotN]
  by_cases e : a = n
  ·subst e
   rw [dot_out (Nat.le_refl _), upd, if_pos rfl, Int.sub_mul]; omega
  ·rw [dot_upd (by omega)]
   have : upd W a v n = W n := by unfold upd; rw [if_neg (fun h => e h.symm)]
   rw [this]; omega
end Go.Bk
set_option linter.unusedVariables false
namespace Go.Bk
def qK (c : Int) : List Pt → (Nat → Int) → (Nat → Int)
 | [], W => W
 | p :: ps, W => qK c ps (upd W p.t.toNat (W p.t.toNat + c * p.n))
def jR (rs : List Rc) (g : Nat) (W : Nat → Int) : Nat → Int := if partsOf rs g = [] then W else qK (W g) (partsOf rs g) (upd W g 0)
def splitTo (rs : List Rc) : Nat → (Nat → Int) → (Nat → Int)
 | 0, W => W
 | t + 1, W => splitTo rs t (jR rs t W)
theorem want_out {c : Int} {s : Nat} : ∀ {ps : List Pt} {W : Nat → Int}, (∀ p ∈ ps, p.t.toNat ≠ s) → qK c ps W s = W s
 | [], W, _ => rfl
 | p :: ps, W, h => by
  simp only [qK]
  rw [want_out fun q hq => h q (List.mem_cons_of_mem _ hq), upd, if_neg (fun e => h p List.mem_cons_self e.symm)]
theorem want_dot {c : Int} {r : Nat → Int} {n : Nat} : ∀ {ps : List Pt} {W : Nat → Int}, (∀ p ∈ ps, p.t.toNat < n) → dotN (qK c ps W) r n = dotN W r n + c * (ps.map fun p => p.n * r p.t.toNat).sum
 | [], W, _ => by simp [qK]
 | p :: ps, W, h => by
  simp only [qK]
  rw [want_dot fun q hq => h q (List.mem_cons_of_mem _ hq), dot_upd (h p List.mem_cons_self), List.map_cons, List.sum_cons, Int.mul_add]
  have : W p.t.toNat + c * p.n - W p.t.toNat = c * p.n := by omega
  rw [this, Int.mul_assoc]; omega
theorem split_dot {rs : List Rc} (h : qL (-1) rs) {g : Nat} (hg : g < 8) (W : Nat → Int) (y : Int) : dotN (jR rs g W) (fun s => jS rs s y) 8 = dotN W (fun s => jS rs s y) 8 := by
 unfold jR
 split
 ·rfl
 ·rename_i hne
  rw [want_dot fun p hp => by have := qD h hp; omega, dot_upd hg, rawO_made h (by omega) hne y]
  have e : ((partsOf rs g).map fun p => p.n * jS rs (p.t.toNat : Int) y).sum = ((partsOf rs g).map fun p => p.n * jS rs p.t y).sum := sum_congr fun p hp => by
   have := qD h hp
   rw [Int.toNat_of_nonneg this.1]
  rw [e, Int.zero_sub, Int.neg_mul]; omega
theorem splitTo_dot {rs : List Rc} (h : qL (-1) rs) (y : Int) : ∀ {n : Nat}, n ≤ 8 → ∀ W, dotN (splitTo rs n W) (fun s => jS rs s y) 8 = dotN W (fun s => jS rs s y) 8
 | 0, _, W => rfl
 | n + 1, hn, W => by
  simp only [splitTo]
  rw [splitTo_dot h y (by omega), split_dot h (by omega)]
def Low (rs : List Rc) (W : Nat → Int) (n : Nat) : Prop := ∀ s : Nat, n ≤ s → W s = 0 ∨ partsOf rs s = []
theorem split_low {rs : List Rc} (h : qL (-1) rs) {W : Nat → Int} {g : Nat} (hl : Low rs W (g + 1)) : Low rs (jR rs g W) g := fun s hs => by
 unfold jR
 split
 ·rename_i hp
  by_cases e : s = g
  ·subst e; exact .inr hp
  ·exact hl s (by omega)
 ·have hout : qK (W g) (partsOf rs g) (upd W g 0) s = upd W g 0 s := want_out fun p hp => by
   have := qD h hp
   omega
  rw [hout]
  by_cases e : s = g
  ·subst e; left; unfold upd; rw [if_pos rfl]
  ·have : upd W g 0 s = W s := by unfold upd; rw [if_neg e]
   rw [this]; exact hl s (by omega)
theorem splitTo_low {rs : List Rc} (h : qL (-1) rs) : ∀ {n : Nat} {W : Nat → Int}, Low rs W n → Low rs (splitTo rs n W) 0
 | 0, W, hl => hl
 | n + 1, W, hl => by
  show Low rs (splitTo rs n (jR rs n W)) 0
  exact splitTo_low h (split_low h hl)
theorem low_dot {rs : List Rc} {W : Nat → Int} (hl : Low rs W 0) (y : Nat) : ∀ n : Nat, dotN W (fun s => jS rs s y) n = if y < n then W y else 0
 | 0 => by simp [dotN]
 | n + 1 => by
  simp only [dotN]
  rw [low_dot hl y n]
  rcases hl n (Nat.zero_le _) with h | h
  ·rw [h, Int.zero_mul]
   by_cases e : y = n
   ·subst e; rw [if_neg (by omega), if_pos (by omega), h]; rfl
   ·by_cases c : y < n
    ·rw [if_pos c, if_pos (by omega)]; omega
    ·rw [if_neg c, if_neg (by omega)]; rfl
  ·rw [rawO_raw h]
   by_cases e : y = n
   ·subst e; simp
   ·rw [if_neg (show ¬ ((y : Int) = (n : Int)) by omega), Int.mul_zero, Int.add_zero]
    by_cases c : y < n
    ·rw [if_pos c, if_pos (show y < n + 1 by omega)]
    ·rw [if_neg c, if_neg (show ¬ y < n + 1 by omega)]
theorem dot_one {r : Nat → Int} {a : Nat} {v : Int} {n : Nat} (h : a < n) : dotN (upd (fun _ => 0) a v) r n = v * r a := by
 have z : ∀ n, dotN (fun _ => (0 : Int)) r n = 0 := by
  intro n
  induction n with
  | zero => rfl
  | succ n ih => simp only [dotN, ih]; simp
 rw [dot_upd h, z]; simp
theorem split_raw {rs : List Rc} (h : qL (-1) rs) {g : Nat} (hg : g < 8) (c : Int) {y : Nat} (hy : y < 8) : splitTo rs (g + 1) (upd (fun _ => 0) g c) y = c * jS rs g y := by
 have hl : Low rs (splitTo rs (g + 1) (upd (fun _ => 0) g c)) 0 := splitTo_low h fun s hs => by
  left; unfold upd; rw [if_neg (by omega)]
 have e := splitTo_dot h y (n := g + 1) (by omega) (upd (fun _ => 0) g c)
 rw [low_dot hl y 8, if_pos hy, dot_one hg] at e
 exact e
theorem raw_some {rs : List Rc} (h : qL (-1) rs) : ∀ (n : Nat) (g : Nat), g < n → g < 8 → ∃ y : Nat, y < 8 ∧ 1 ≤ jS rs g y
 | 0, g, h1, _ => absurd h1 (Nat.not_lt_zero g)
 | n + 1, g, h1, h2 => by
  by_cases hp : partsOf rs g = []
  ·exact ⟨g, h2, by rw [rawO_raw hp, if_pos rfl]; exact Int.le_refl _⟩
  ·obtain ⟨p, hpm⟩ := List.exists_mem_of_ne_nil _ hp
   have hpi := qD h hpm
   obtain ⟨y, hy, hy1⟩ := raw_some h n p.t.toNat (by omega) (by omega)
   rw [Int.toNat_of_nonneg hpi.1] at hy1
   refine ⟨y, hy, ?_⟩
   rw [rawO_made h (by omega) hp]
   have key : ∀ l : List Pt, (∀ q ∈ l, 0 ≤ q.n * jS rs q.t y) → p ∈ l → p.n * jS rs p.t y ≤ (l.map fun q => q.n * jS rs q.t y).sum := by
    intro l
    induction l with
    | nil => intro _ hm; cases hm
    | cons a l ih =>
     intro hn hm
     have h3 := hn a List.mem_cons_self
     have h4 : 0 ≤ (l.map fun q => q.n * jS rs q.t y).sum := by
      have : ∀ l' : List Pt, (∀ q ∈ l', 0 ≤ q.n * jS rs q.t y) → 0 ≤ (l'.map fun q => q.n * jS rs q.t y).sum := by
       intro l'
       induction l' with
       | nil => intro _; exact Int.le_refl _
       | cons b l' ih' =>
        intro hb
        rw [List.map_cons, List.sum_cons]
        have := hb b List.mem_cons_self
        have := ih' fun q hq => hb q (List.mem_cons_of_mem _ hq)
        omega
      exact this l fun q hq => hn q (List.mem_cons_of_mem _ hq)
     rw [List.map_cons, List.sum_cons]
     rcases List.mem_cons.1 hm with rfl | hm
     ·omega
     ·have := ih (fun q hq => hn q (List.mem_cons_of_mem _ hq)) hm
      omega
   have h5 := key (partsOf rs g) (fun q hq => by
    have a := qD h hq
    exact Int.mul_nonneg (by omega) (rawO_bd h (by omega) y).1) hpm
   have h6 : 1 * 1 ≤ p.n * jS rs p.t y := Int.mul_le_mul (by omega) hy1 (by decide) (by omega)
   omega
end Go.Bk
set_option linter.unusedVariables false
namespace Go.Bk
def en0 : En := ⟨0, 0, 0, 0⟩
def enA (es : List En) (i : Nat) : En := es.getD i en0
def jg (es : List En) (first : Nat) : Nat → Nat → Bool
 | 0 => fun _ => false
 | k + 1 => fun s => jg es first k s || (decide ((enA es (first - 1 - k)).k = 4) && !jg es first k (first - 1 - k) && decide (s = (enA es (first - 1 - k)).t.toNat))
def gone (es : List En) (first i : Nat) : Bool := jg es first first i
def cntS (es : List En) (first : Nat) : List Nat := (List.range first).filter fun i => !gone es first i
def BkOk (es : List En) (first : Nat) : Prop := ∀ k, k < first → (enA es k).k = 4 → 0 ≤ (enA es k).t ∧ (enA es k).t < k
def less (rs : List Rc) (e : En) (s : Nat) : Int := if e.k = 2 then (if s = e.t.toNat then e.n else 0) else if e.k = 3 then ((partsOf rs e.t).map fun p => if s = p.t.toNat then e.n * p.n else 0).sum else 0
def more (e : En) (s : Nat) : Int := if e.k = 1 ∨ e.k = 3 then (if s = e.t.toNat then e.n else 0) else 0
def okS (rs : List Rc) (e : En) (st : Nat → Int) : Bool := (List.range 8).all fun s => decide (less rs e s ≤ st s)
def runL (rs : List Rc) (day : Int) : List En → (Nat → Int) → Option (Nat → Int)
 | [], st => some st
 | e :: l, st => if day < e.d then runL rs day l st else if okS rs e st = true then runL rs day l (fun s => st s + (more e s - less rs e s)) else none
def runS (rs : List Rc) (es : List En) (first : Nat) (day : Int) : Option (Nat → Int) := runL rs day ((cntS es first).map (enA es)) fun _ => 0
def kD (rs : List Rc) (e : En) (index last : Int) : Int :=
 if ¬ (0 ≤ e.d ∧ e.d ≤ 999) ∨ ¬ (1 ≤ e.k ∧ e.k ≤ 4) then 3
 else if e.k = 4 ∧ ¬ (0 ≤ e.t ∧ e.t ≤ index - 1) then 2
 else if e.k = 4 ∧ e.n ≠ 0 then 3
 else if e.k ≠ 4 ∧ (¬ (0 ≤ e.t ∧ e.t ≤ 7) ∨ e.n < 1 ∨ 1000 < e.n) then 3
 else if e.d < last then 12
 else if e.k = 3 ∧ partsOf rs e.t = [] then 16 else 0
def entsE (rs : List Rc) : Int → Int → List En → Int
 | _, _, [] => 0
 | index, last, e :: es => if kD rs e index last ≠ 0 then kD rs e index last else entsE rs (index + 1) e.d es
def bkE (b : Bo) : Int := if crE b.rs ≠ 0 then crE b.rs else if 24 < b.es.length then 6 else if entsE b.rs 0 0 b.es ≠ 0 then entsE b.rs 0 0 b.es
 else if ((List.range b.es.length).all fun k => (runS b.rs b.es (k + 1) 999).isSome) = true then 0 else 28
end Go.Bk
set_option linter.unusedVariables false
namespace Go.Bk
def canW (rs : List Rc) (l : Nat → Int) : Nat → (Nat → Int) → Bool
 | 0, _ => true
 | t + 1, W => if W t - l t ≤ 0 then canW rs l t W else if partsOf rs t = [] then false else canW rs l t (qK (W t - l t) (partsOf rs t) W)
def canS (rs : List Rc) (l : Nat → Int) (g : Nat) (c : Int) : Bool := canW rs (upd l g 0) (g + 1) (upd (fun _ => 0) g c)
theorem want_mono {c d : Int} (hc : c ≤ d) : ∀ {ps : List Pt} {W W' : Nat → Int}, (∀ p ∈ ps, 0 ≤ p.n) → (∀ s, W s ≤ W' s) → ∀ s, qK c ps W s ≤ qK d ps W' s
 | [], W, W', _, h, s => h s
 | p :: ps, W, W', hp, h, s => by
  simp only [qK]
  refine want_mono hc (fun q hq => hp q (List.mem_cons_of_mem _ hq)) (fun s => ?_) s
  have := Int.mul_le_mul_of_nonneg_right hc (hp p List.mem_cons_self)
  have := h p.t.toNat
  unfold upd
  split
  ·omega
  ·exact h s
theorem want_ge {c : Int} (hc : 0 ≤ c) : ∀ {ps : List Pt} {W : Nat → Int}, (∀ p ∈ ps, 0 ≤ p.n) → ∀ s, W s ≤ qK c ps W s
 | [], W, _, s => Int.le_refl _
 | p :: ps, W, hp, s => by
  simp only [qK]
  refine Int.le_trans ?_ (want_ge hc (fun q hq => hp q (List.mem_cons_of_mem _ hq)) s)
  have := Int.mul_nonneg hc (hp p List.mem_cons_self)
  unfold upd
  split
  ·rename_i e; subst e; omega
  ·exact Int.le_refl _
theorem want_in {c : Int} (hc : 0 ≤ c) : ∀ {ps : List Pt} {W : Nat → Int}, (∀ p ∈ ps, 1 ≤ p.n) → ∀ {p : Pt}, p ∈ ps → W p.t.toNat + c ≤ qK c ps W p.t.toNat
 | [], W, _, p, h => by cases h
 | q :: ps, W, hp, p, h => by
  simp only [qK]
  have h0 : ∀ x ∈ ps, 0 ≤ x.n := fun x hx => by have := hp x (List.mem_cons_of_mem _ hx); omega
  have hq := hp q List.mem_cons_self
  have hm : c ≤ c * q.n := by have := Int.mul_le_mul_of_nonneg_left hq hc; omega
  rcases List.mem_cons.1 h with rfl | h
  ·refine Int.le_trans ?_ (want_ge hc h0 _)
   unfold upd; rw [if_pos rfl]; omega
  ·have h1 := want_in hc (W := upd W q.t.toNat (W q.t.toNat + c * q.n)) (fun x hx => hp x (List.mem_cons_of_mem _ hx)) h
   refine Int.le_trans ?_ h1
   unfold upd
   split
   ·rename_i e; rw [e]; omega
   ·exact Int.le_refl _
theorem canW_mono {rs : List Rc} (h : qL (-1) rs) {l l' : Nat → Int} (hl : ∀ s, l' s ≤ l s) : ∀ {t : Nat} {W W' : Nat → Int}, (∀ s, W s ≤ W' s) → canW rs l' t W' = true → canW rs l t W = true
 | 0, W, W', _, _ => rfl
 | t + 1, W, W', hW, hc => by
  have h1 := hW t
  have h2 := hl t
  have hn : ∀ p ∈ partsOf rs t, 0 ≤ p.n := fun p hp => by have := qD h hp; omega
  simp only [canW] at hc ⊢
  by_cases c : W t - l t ≤ 0
  ·rw [if_pos c]
   by_cases c' : W' t - l' t ≤ 0
   ·rw [if_pos c'] at hc; exact canW_mono h hl hW hc
   ·rw [if_neg c'] at hc
    by_cases e : partsOf rs t = []
    ·rw [if_pos e] at hc; cases hc
    ·rw [if_neg e] at hc
     exact canW_mono h hl (fun s => Int.le_trans (hW s) (want_ge (by omega) hn s)) hc
  ·rw [if_neg c]
   rw [if_neg (by omega)] at hc
   by_cases e : partsOf rs t = []
   ·rw [if_pos e] at hc; cases hc
   ·rw [if_neg e] at hc ⊢
    exact canW_mono h hl (want_mono (by omega) hn hW) hc
theorem canS_mono {rs : List Rc} (h : qL (-1) rs) {l l' : Nat → Int} (hl : ∀ s, l' s ≤ l s) {g : Nat} {c d : Int} (hc : c ≤ d) (hd : canS rs l' g d = true) : canS rs l g c = true := by
 refine canW_mono h (fun s => ?_) (fun s => ?_) hd
 ·unfold upd; split
  ·exact Int.le_refl _
  ·exact hl s
 ·unfold upd; split
  ·exact hc
  ·exact Int.le_refl _
def jJ (l : Nat → Int) : Nat → Int
 | 0 => 0
 | n + 1 => jJ l n + l n
theorem sumN_mono {l : Nat → Int} (hl : ∀ s, 0 ≤ l s) : ∀ {n m : Nat}, n ≤ m → jJ l n ≤ jJ l m
 | n, 0, h => by
   obtain rfl : n = 0 := by omega
   exact Int.le_refl _
 | n, m + 1, h => by
  by_cases e : n = m + 1
  ·subst e; exact Int.le_refl _
  ·have := sumN_mono hl (n := n) (m := m) (by omega)
   have := hl m
   simp only [jJ]; omega
theorem canW_le {rs : List Rc} (h : qL (-1) rs) {l : Nat → Int} (hl : ∀ s, 0 ≤ l s) : ∀ {t : Nat} {W : Nat → Int}, (∀ s, 0 ≤ W s) → canW rs l t W = true → ∀ s, s < t → W s ≤ jJ l (s + 1)
 | 0, W, _, _, s, hs => absurd hs (Nat.not_lt_zero s)
 | t + 1, W, hW, hc, s, hs => by
  have hn : ∀ p ∈ partsOf rs t, 1 ≤ p.n := fun p hp => by have := qD h hp; omega
  have hn0 : ∀ p ∈ partsOf rs t, 0 ≤ p.n := fun p hp => by have := hn p hp; omega
  have hlt := hl t
  have hst : 0 ≤ jJ l t := by have := sumN_mono hl (n := 0) (m := t) (Nat.zero_le _); exact this
  simp only [canW] at hc
  by_cases c : W t - l t ≤ 0
  ·rw [if_pos c] at hc
   by_cases e : s = t
   ·subst e; simp only [jJ]; omega
   ·exact canW_le h hl hW hc s (by omega)
  ·rw [if_neg c] at hc
   by_cases e : partsOf rs t = []
   ·rw [if_pos e] at hc; cases hc
   ·rw [if_neg e] at hc
    have hg : ∀ s, W s ≤ qK (W t - l t) (partsOf rs t) W s := want_ge (by omega) hn0
    have ih := canW_le h hl (fun s => Int.le_trans (hW s) (hg s)) hc
    by_cases e2 : s = t
    ·subst e2
     obtain ⟨p, hp⟩ := List.exists_mem_of_ne_nil _ e
     have hpi := qD h hp
     have h1 := want_in (W := W) (c := W s - l s) (by omega) hn hp
     have h2 := ih p.t.toNat (by omega)
     have h3 := sumN_mono hl (n := p.t.toNat + 1) (m := s) (by omega)
     have h4 := hW p.t.toNat
     simp only [jJ] at h2 ⊢
     simp only [jJ] at h3
     omega
    ·exact Int.le_trans (hg s) (ih s (by omega))
theorem canS_le {rs : List Rc} (h : qL (-1) rs) {l : Nat → Int} (hl : ∀ s, 0 ≤ l s) {g : Nat} (hg : g < 8) {c : Int} (hc0 : 0 ≤ c) (hc : canS rs l g c = true) : c ≤ jJ l 8 := by
 have hl' : ∀ s, 0 ≤ upd l g 0 s := fun s => by unfold upd; split; exact Int.le_refl _; exact hl s
 have h1 := canW_le h hl' (fun s => by unfold upd; split; exact hc0; exact Int.le_refl _) hc g (by omega)
 have e : upd (fun _ => (0 : Int)) g c g = c := by unfold upd; rw [if_pos rfl]
 rw [e] at h1
 have h2 := sumN_mono hl' (n := g + 1) (m := 8) (by omega)
 have h3 : ∀ n, jJ (upd l g 0) n ≤ jJ l n := by
  intro n
  induction n with
  | zero => exact Int.le_refl _
  | succ n ih =>
   simp only [jJ]
   have : upd l g 0 n ≤ l n := by unfold upd; split; exact hl n; exact Int.le_refl _
   omega
 have := h3 8
 omega
end Go.Bk
set_option linter.unusedVariables false
namespace Go.Bk
structure EnOk (rs : List Rc) (e : En) (index last : Int) : Prop where
 d : 0 ≤ e.d ∧ e.d ≤ 999
 k : 1 ≤ e.k ∧ e.k ≤ 4
 bk : e.k = 4 → 0 ≤ e.t ∧ e.t < index ∧ e.n = 0
 th : e.k ≠ 4 → 0 ≤ e.t ∧ e.t ≤ 7 ∧ 1 ≤ e.n ∧ e.n ≤ 1000
 late : last ≤ e.d
 made : e.k = 3 → partsOf rs e.t ≠ []
theorem entE_iff {rs : List Rc} {e : En} {index last : Int} : kD rs e index last = 0 ↔ EnOk rs e index last := by
 unfold kD
 constructor
 ·intro h
  split at h
  ·cases h
  rename_i h1
  split at h
  ·cases h
  rename_i h2
  split at h
  ·cases h
  rename_i h3
  split at h
  ·cases h
  rename_i h4
  split at h
  ·cases h
  rename_i h5
  split at h
  ·cases h
  rename_i h6
  exact ⟨by omega, by omega, fun hk => by omega, fun hk => by omega, by omega, fun hk hp => h6 ⟨hk, hp⟩⟩
 ·rintro ⟨h1, h2, h3, h4, h5, h6⟩
  by_cases hk : e.k = 4
  ·have := h3 hk
   rw [if_neg (by omega), if_neg (by omega), if_neg (by omega), if_neg (by omega), if_neg (by omega), if_neg (by omega)]
  ·have := h4 hk
   rw [if_neg (by omega), if_neg (by omega), if_neg (by omega), if_neg (by omega), if_neg (by omega), if_neg (fun hc => h6 hc.1 hc.2)]
inductive EnsOk (rs : List Rc) : Int → Int → List En → Prop
 | nil (index last : Int) : EnsOk rs index last []
 | cons {index last : Int} {e : En} {es : List En} : EnOk rs e index last → EnsOk rs (index + 1) e.d es → EnsOk rs index last (e :: es)
theorem entsE_iff {rs : List Rc} : ∀ {es : List En} {index last : Int}, entsE rs index last es = 0 ↔ EnsOk rs index last es
 | [], index, last => ⟨fun _ => .nil _ _, fun _ => rfl⟩
 | e :: es, index, last => by
  simp only [entsE]
  constructor
  ·intro h
   split at h
   ·rename_i c; exact absurd h c
   ·rename_i c
    exact .cons (entE_iff.1 (Classical.not_not.1 c)) (entsE_iff.1 h)
  ·intro h
   cases h with
   | cons h1 h2 => rw [if_neg (by rw [entE_iff.2 h1]; simp)]; exact entsE_iff.2 h2
theorem ensOk_at {rs : List Rc} : ∀ {es : List En} {index last : Int}, EnsOk rs index last es → ∀ {k : Nat} {e : En}, es[k]? = some e → ∃ l, EnOk rs e (index + k) l ∧ last ≤ l
 | [], index, last, _, k, e, h => by simp at h
 | x :: es, index, last, h, 0, e, he => by
  cases h with
  | cons h1 h2 => simp at he; subst he; exact ⟨last, by simpa using h1, Int.le_refl _⟩
 | x :: es, index, last, h, k + 1, e, he => by
  cases h with
  | cons h1 h2 =>
   obtain ⟨l, h3, h4⟩ := ensOk_at h2 (k := k) (e := e) (by simpa using he)
   have := h1.late
   refine ⟨l, ?_, by omega⟩
   rw [show index + ((k + 1 : Nat) : Int) = index + 1 + (k : Int) by push_cast; omega]; exact h3
theorem less_nn {rs : List Rc} (h : qL (-1) rs) {e : En} (ht : e.k ≠ 4 → 1 ≤ e.n) (s : Nat) : 0 ≤ less rs e s := by
 unfold less
 split
 ·have := ht (by omega); split <;> omega
 ·split
  ·have hn := ht (by omega)
   have key : ∀ l : List Pt, (∀ p ∈ l, 1 ≤ p.n) → 0 ≤ (l.map fun p => if s = p.t.toNat then e.n * p.n else 0).sum := by
    intro l
    induction l with
    | nil => intro _; exact Int.le_refl _
    | cons a l ih =>
     intro hl
     rw [List.map_cons, List.sum_cons]
     have h1 := ih fun p hp => hl p (List.mem_cons_of_mem _ hp)
     have h2 := Int.mul_nonneg (show 0 ≤ e.n by omega) (show 0 ≤ a.n by have := hl a List.mem_cons_self; omega)
     split <;> omega
   exact key _ fun p hp => (qD h hp).2.2.1
  ·exact Int.le_refl _
end Go.Bk
namespace Go.Gl
structure Rg where
 lo : Int
 hi : Int
structure Dy where
 lo : Int
 hi : Int
 pot : Int
structure Pn where
 lo : Int
 hi : Int
 sp : Int
structure Sm where
 t : Int
 g : Int
 deriving DecidableEq
structure Bn where
 w : Int
 p : Int
 each : List Sm
abbrev iv (x : Int) : Value := .int .i64 x
theorem ivs {a b : Int} (h : a = b) : some (iv a) = some (iv b) := by rw [h]
theorem qY {α : Type} (enc : α → List Value) (l m : List α) : Go.Lw.flat enc (l ++ m) = Go.Lw.flat enc l ++ Go.Lw.flat enc m := by simp [Go.Lw.flat]
theorem jU (x : Int) : (Go.Lw.ei x).length = 1 := rfl
structure Ok (d : Dy) (ps : List Pn) : Prop where
 l0 : 1 ≤ d.lo
 l1 : d.lo ≤ d.hi
 l2 : d.hi ≤ 240
 p0 : 1 ≤ d.pot
 p1 : d.pot ≤ 200
 n10 : ps.length ≤ 10
 each : ∀ p ∈ ps, 1 ≤ p.lo ∧ p.lo ≤ p.hi ∧ p.hi ≤ 240 ∧ 1 ≤ p.sp ∧ p.sp ≤ 200
def Sm.and (a b : Sm) : Sm := ⟨a.t + b.t, a.g + b.g⟩
structure BnOk (B : Bn) : Prop where
 w0 : 1 ≤ B.w
 w1 : B.w ≤ 240
 p0 : 1 ≤ B.p
 p1 : B.p ≤ 200
 n10 : B.each.length ≤ 10
 each : ∀ s ∈ B.each, 1 ≤ s.t ∧ s.t ≤ 240 ∧ 1 ≤ s.g ∧ s.g ≤ 200
end Go.Gl
set_option linter.unusedVariables false
namespace Go.Bk
open Go.Lw Go.Gl
abbrev pte (p : Pt) : List Value := [iv p.t, iv p.n]
abbrev ptv (p : Pt) : Value := .agg #[iv p.t, iv p.n]
abbrev ene (e : En) : List Value := [iv e.d, iv e.k, iv e.t, iv e.n]
abbrev env (e : En) : Value := .agg #[iv e.d, iv e.k, iv e.t, iv e.n]
abbrev RcQ := Rc × Option Addr × Nat
abbrev rcs (x : RcQ) : Value := .slice x.2.1 x.1.ps.length x.2.2
abbrev rce (x : RcQ) : List Value := [iv x.1.g, .slice x.2.1 x.1.ps.length x.2.2]
theorem pte_len (p : Pt) : (pte p).length = 2 := rfl
theorem ene_len (e : En) : (ene e).length = 4 := rfl
theorem rce_len (x : RcQ) : (rce x).length = 2 := rfl
def RsQ (V : View) (qs : List RcQ) : Prop := ∀ x ∈ qs, Sl V pte 2 (.slice x.2.1 x.1.ps.length x.2.2) x.1.ps
def RsV (V : View) (v : Value) (rs : List Rc) : Prop := ∃ (qs : List RcQ) (a : Option Addr) (c : Nat), qs.map (·.1) = rs ∧ v = .slice a qs.length c ∧ Sl V rce 2 (.slice a qs.length c) qs ∧ RsQ V qs
theorem RsQ.le {V V' : View} {qs : List RcQ} (h : RsQ V qs) (hl : Le V V') : RsQ V' qs := fun x hx => (h x hx).le hl
theorem RsV.le {V V' : View} {v : Value} {rs : List Rc} (h : RsV V v rs) (hl : Le V V') : RsV V' v rs := by
 obtain ⟨qs, a, c, h1, h2, h3, h4⟩ := h
 exact ⟨qs, a, c, h1, h2, h3.le hl, h4.le hl⟩
theorem RsV.nil (V : View) : RsV V (.slice none 0 0) [] := ⟨[], none, 0, rfl, rfl, Sl.nil _ _ _, fun x hx => by cases hx⟩
theorem qs_at {qs : List RcQ} {k : Nat} {x : RcQ} (h : qs[k]? = some x) : (qs.map (·.1))[k]? = some x.1 := by rw [List.getElem?_map, h]; rfl
theorem qs_mem {qs : List RcQ} {k : Nat} {x : RcQ} (h : qs[k]? = some x) : x ∈ qs := List.mem_of_getElem? h
def BoV (V : View) (v : Value) (b : Bo) : Prop := ∃ (v1 : Value) (a : Option Addr) (c : Nat), v = .agg #[v1, .slice a b.es.length c] ∧ RsV V v1 b.rs ∧ Sl V ene 4 (.slice a b.es.length c) b.es
theorem BoV.le {V V' : View} {v : Value} {b : Bo} (h : BoV V v b) (hl : Le V V') : BoV V' v b := by
 obtain ⟨v1, a, c, h1, h2, h3⟩ := h
 exact ⟨v1, a, c, h1, h2.le hl, h3.le hl⟩
theorem BoV.nil (V : View) : BoV V (.agg #[.slice none 0 0, .slice none 0 0]) ⟨[], []⟩ := ⟨_, none, 0, rfl, RsV.nil V, Sl.nil _ _ _⟩
def grL (rs : List Rc) (n : Nat) : Bool := decide (12 < rs.length) || decide (30 < n) || rs.any fun r => decide (6 < r.ps.length)
def grB (b : Bo) : Bool := grL b.rs b.es.length
def mxP (rs : List Rc) : Int := rs.foldl (fun m r => max m (r.ps.length : Int)) 0
theorem mxP_snoc (rs : List Rc) (r : Rc) : mxP (rs ++ [r]) = max (mxP rs) (r.ps.length : Int) := by unfold mxP; rw [List.foldl_append]; rfl
theorem mxP_gt (rs : List Rc) : (6 < mxP rs) ↔ ∃ r ∈ rs, 6 < r.ps.length := by
 have key : ∀ (l : List Rc) (m : Int), 6 < l.foldl (fun m r => max m (r.ps.length : Int)) m ↔ 6 < m ∨ ∃ r ∈ l, 6 < r.ps.length := by
  intro l
  induction l with
  | nil => intro m; simp
  | cons a l ih =>
   intro m
   rw [List.foldl_cons, ih]
   simp only [List.mem_cons, exists_eq_or_imp]
   have e : (6 < max m (a.ps.length : Int)) ↔ (6 < m ∨ 6 < a.ps.length) := by omega
   rw [e, or_assoc]
 unfold mxP
 rw [key]
 simp
theorem grL_eq {rs : List Rc} {n : Nat} (h1 : ¬ 12 < rs.length) (h2 : ¬ 30 < n) : grL rs n = decide (6 < mxP rs) := by
 unfold grL
 rw [decide_eq_false h1, decide_eq_false h2]
 simp only [Bool.false_or]
 rw [Bool.eq_iff_iff, decide_eq_true_eq, mxP_gt, List.any_eq_true]
 simp
end Go.Bk
set_option linter.unusedVariables false
namespace Go.Proofs.YtpoignmclfdgpaaGreatDoor
open Go.Lw Go.Gl Go.Bk Go.RowKit
theorem index_i (g : FuncId) (cap : List Value) (p : Int → Bool) (V : View) (vl : Value) (l : List Int) (hs : SlI V vl l) (hok : zM Tryz.prog g)
  (hc : ∀ x, x ∈ l → Fnc Tryz.prog g ([] ++ [iv x] ++ cap) V (fun v _ => v = .bool (p x))) :
  Fnc Tryz.prog 119 [vl, .func (.func g) #[] cap.toArray] V fun v _ => ∃ j : Int, v = iv j ∧ (decide (0 ≤ j)) = l.any p := by
 have hlen := hs.jA
 refine ql Tryz.func119 rfl Tryz.ntmps119 (Nat.le_of_ble_eq_true rfl) ?_
 intro w0 hw0
 refine At.nrm ?_
 refine At.zi (.q 0 .done) ?_
 refine AtT.zg ?_
 refine AtT.done ?_
 refine At.nrm ?_
 refine At.zi (.q 0 (.q 1 (.q 2 .done))) ?_
 refine AtT.zf ?_
 first | refine AtT.zR Tryz.underlying37 ?_ | refine AtT.zQ Tryz.underlying37 ?_
 refine AtT.zf ?_
 refine AtT.done ?_
 refine At.nrm ?_
 refine At.lp (ι := Nat) (KS := fun k => [(0, vl), (1, .func (.func g) #[] cap.toArray), (4, iv 0), (7, iv l.length), (8, iv k)]) (OS := fun _ => [])
  (VS := fun k V' => V' = V ∧ k ≤ l.length ∧ (l.take k).any p = false) (μ := fun k => l.length - k) 0 ?_ ?_ ?_ ?_
 ·exact ⟨rfl, rfl, rfl, rfl, rfl, trivial⟩
 ·exact Pt.zI
 ·exact ⟨rfl, Nat.zero_le _, rfl⟩
 ·rintro k V' ks' O' ⟨rfl, hkl, hany⟩ hk hO hl
  subst hk hO
  refine At.nrm ?_
  refine At.zi (.q 0 .done) ?_
  refine AtT.qp ?_
  refine AtT.done ?_
  refine At.nrm ?_
  refine At.qb rfl (fun hp => ?_) (fun hp => ?_)
  ·refine At.nrm ?_
   refine At.zi (.q 0 (.q 1 .done)) ?_
   refine AtT.zf ?_
   refine AtT.zg ?_
   refine AtT.done ?_
   refine At.nrm ?_
   refine At.zi (.q 0 (.q 1 (.q 2 (.q 3 (.q 4 (.n false 5 .done)))))) ?_
   refine AtT.zf ?_
   refine AtT.zf ?_
   refine AtT.zf ?_
   refine AtT.qm Tryz.underlying37 tk3 ?_
   intro p14 e14 he14 hc14
   first | refine AtT.zm tk3 ?_ | refine AtT.zo tk3 ?_
   refine AtT.kcallV rfl rfl rfl hok (hc e14 (List.mem_of_getElem? he14)) ?_
   rintro _ rfl
   refine AtT.done ?_
   refine At.nrm ?_
   have hee : l[k]? = some e14 := by simpa using he14
   have hnx : l.take (k + 1) = l.take k ++ [e14] := by
    rw [List.take_succ_eq_append_getElem (by omega)]; congr 1; rw [List.getElem?_eq_getElem (by omega)] at hee; simpa using hee
   refine At.cond rfl (fun hb => ?_) (fun hb => ?_)
   ·refine At.nrm ?_
    refine At.zi (.q 0 (.q 1 .done)) ?_
    refine AtT.zf ?_
    refine AtT.zg ?_
    refine AtT.done ?_
    refine At.nrm ?_
    refine At.qh rfl (.tmp rfl) ⟨k, rfl, ?_⟩
    have : l.any p = true := List.any_eq_true.2 ⟨e14, List.mem_of_getElem? hee, hb⟩
    rw [this]; simp
   ·refine At.nrm ?_
    refine At.zi (.q 0 (.q 1 .done)) ?_
    first | refine AtT.qG ?_ | refine AtT.qd ?_
    refine AtT.zf ?_
    refine AtT.done ?_
    refine At.nrm ?_
    refine At.round (k + 1) ?_ ?_ ?_ ?_
    ·show l.length - (k + 1) < l.length - k; omega
    ·refine ⟨rfl, by omega, ?_⟩
     rw [hnx, List.any_append, hany]; simp [hb]
    ·exact ⟨rfl, rfl, rfl, rfl, rfl, trivial⟩
    ·exact Pt.zI
  ·have hkk : k = l.length := by omega
   subst hkk
   rw [List.take_length] at hany
   refine At.nrm ?_
   refine At.zi (.q 0 .done) ?_
   refine AtT.zg ?_
   refine AtT.done ?_
   refine At.nrm ?_
   refine At.qh rfl (.tmp rfl) ⟨-1, rfl, ?_⟩
   rw [hany]; rfl
theorem contains_i (g : FuncId) (cap : List Value) (p : Int → Bool) (V : View) (vl : Value) (l : List Int) (hs : SlI V vl l) (hok : zM Tryz.prog g)
  (hc : ∀ x, x ∈ l → Fnc Tryz.prog g ([] ++ [iv x] ++ cap) V (fun v _ => v = .bool (p x))) :
  Fnc Tryz.prog 87 [vl, .func (.func g) #[] cap.toArray] V fun v _ => v = .bool (l.any p) := by
 refine ql Tryz.func87 rfl Tryz.ntmps87 (Nat.le_of_ble_eq_true rfl) ?_
 intro w0 hw0
 refine At.nrm ?_
 refine At.zi (.q 0 .done) ?_
 refine AtT.zg ?_
 refine AtT.done ?_
 refine At.nrm ?_
 refine At.zi (.q 0 (.q 1 (.n false 2 (.q 3 (.q 4 .done))))) ?_
 refine AtT.zf ?_
 refine AtT.zf ?_
 refine AtT.zG rfl rfl ok119 (index_i g cap p V vl l hs hok hc) ?_
 rintro _ ⟨j, rfl, hj⟩
 refine AtT.kgeq ?_
 refine AtT.zg ?_
 refine AtT.done ?_
 refine At.nrm ?_
 refine At.qh rfl (.tmp rfl) ?_
 rw [hj]
theorem within1_f (lo hi y : Int) (V : View) (q1 q2 : Addr) (h1 : Cells V q1 [iv lo]) (h2 : Cells V q2 [iv hi]) : Fnc Tryz.prog 88 ([] ++ [iv y] ++ [.pointer (some q1), .pointer (some q2)]) V fun r _ => r = .bool (decide (y < lo ∨ hi < y)) := by
 refine ql Tryz.func88 rfl Tryz.ntmps88 (Nat.le_of_ble_eq_true rfl) ?_
 intro w0 hw0
 refine At.nrm ?_
 refine At.zi (.q 0 .done) ?_
 refine AtT.zg ?_
 refine AtT.done ?_
 refine At.nrm ?_
 by_cases h : y < lo
 ·refine At.zi (.q 0 (.q 1 (.q 2 (.q 3 (.q 4 (.q 5 (.q 6 (.q 7 (.q 8 .done))))))))) ?_
  refine AtT.zf ?_
  first | refine AtT.zm tk3 ?_ | refine AtT.zo tk3 ?_
  refine AtT.qp ?_
  refine AtT.qa (d := 7) rfl (h) ?_
  refine AtT.zf ?_
  all_goals (first | refine AtT.kL 8 ?_ | refine AtT.zw (d := 8) rfl (fun hg8 => ?_) (fun hg8 => ?_) | refine AtT.zu (d := 8) rfl (fun hg8 => ?_) (fun hg8 => ?_))
  all_goals first|refine AtT.zh ?_|refine AtT.ze ?_|(refine AtT.zf ?_)
  all_goals first|refine AtT.zh ?_|refine AtT.ze ?_|(first | refine AtT.zm tk3 ?_ | refine AtT.zo tk3 ?_)
  all_goals first|refine AtT.zh ?_|refine AtT.ze ?_|(refine AtT.qI ?_)
  all_goals (refine AtT.zx ?_)
  all_goals (refine AtT.zg ?_)
  all_goals refine AtT.done ?_
  all_goals (refine At.nrm ?_)
  all_goals (exact At.qh rfl (.tmp rfl) (by rw [decide_eq_true (Or.inl h)]; rfl))
 ·refine At.zi (.q 0 (.q 1 (.q 2 (.q 3 (.q 4 (.q 5 (.q 6 (.q 7 (.q 8 .done))))))))) ?_
  refine AtT.zf ?_
  first | refine AtT.zm tk3 ?_ | refine AtT.zo tk3 ?_
  refine AtT.qp ?_
  refine AtT.zS (d := 7) rfl (h) ?_
  refine AtT.zf ?_
  all_goals (first | refine AtT.kL 8 ?_ | refine AtT.zw (d := 8) rfl (fun hg8 => ?_) (fun hg8 => ?_) | refine AtT.zu (d := 8) rfl (fun hg8 => ?_) (fun hg8 => ?_))
  all_goals first|refine AtT.zh ?_|refine AtT.ze ?_|(refine AtT.zf ?_)
  all_goals first|refine AtT.zh ?_|refine AtT.ze ?_|(first | refine AtT.zm tk3 ?_ | refine AtT.zo tk3 ?_)
  all_goals first|refine AtT.zh ?_|refine AtT.ze ?_|(refine AtT.qI ?_)
  all_goals (refine AtT.zx ?_)
  all_goals (refine AtT.zg ?_)
  all_goals refine AtT.done ?_
  all_goals (refine At.nrm ?_)
  all_goals (exact At.qh rfl (.tmp rfl) (congrArg Value.bool (decide_eq_decide.2 ⟨fun h' => .inr h', fun h' => h'.resolve_left h⟩)))
theorem qB (lo hi x : Int) (V : View) (v : Value) (hs : SlI V v [x]) : Fnc Tryz.prog 55 [iv lo, iv hi, v] V fun r _ => r = .bool (decide (lo ≤ x ∧ x ≤ hi)) := by
 refine ql Tryz.func55 rfl Tryz.ntmps55 (Nat.le_of_ble_eq_true rfl) ?_
 intro w0 hw0
 refine At.nrm ?_
 refine At.zi (.n false 0 (.n false 1 (.q 2 .done))) ?_
 refine AtT.jE ?_
 intro b3
 refine AtT.jE ?_
 intro b4
 refine AtT.zg ?_
 refine AtT.done ?_
 refine At.nrm ?_
 refine At.zi (.q 0 (.q 1 (.n false 2 (.q 3 (.q 4 .done))))) ?_
 refine AtT.zf ?_
 refine AtT.kfn ?_
 refine AtT.kcallL rfl rfl ok87 (fun VL hVL hOL => contains_i 88 [.pointer (some ⟨b3, 0, none⟩), .pointer (some ⟨b4, 0, none⟩)] (fun y => decide (y < lo ∨ hi < y)) VL _ [x] (hs.le hVL) ok88 (fun y hy => within1_f lo hi y VL _ _ (jy (hOL b3 _ (List.mem_cons_of_mem _ (List.mem_cons_self ..)))) (jy (hOL b4 _ (List.mem_cons_self ..))))) ?_
 rintro _ rfl
 refine AtT.qC ?_
 refine AtT.zg ?_
 refine AtT.done ?_
 refine At.nrm ?_
 refine At.qh rfl (.tmp rfl) ?_
 simp only [List.any_cons, List.any_nil, Bool.or_false]
 congr 1
 rw [← decide_not]
 exact decide_eq_decide.2 (by omega)
theorem jI (x : Int) (V : View) : Fnc Tryz.prog 59 [iv x] V fun r _ => r = .bool (decide (0 ≤ x ∧ x ≤ 7)) := by
 refine ql Tryz.func59 rfl Tryz.ntmps59 (Nat.le_of_ble_eq_true rfl) ?_
 intro w0 hw0
 refine At.nrm ?_
 refine At.zi (.q 0 .done) ?_
 refine AtT.zg ?_
 refine AtT.done ?_
 refine At.nrm ?_
 by_cases h : 0 ≤ x
 ·refine At.zi (.q 0 (.q 1 (.q 2 (.q 3 (.q 4 (.q 5 (.q 6 .done))))))) ?_
  refine AtT.zf ?_
  refine AtT.kgeq ?_
  refine AtT.qa (d := 4) rfl (h) ?_
  refine AtT.zf ?_
  all_goals (first | refine AtT.kL 5 ?_ | refine AtT.zw (d := 5) rfl (fun hg5 => ?_) (fun hg5 => ?_) | refine AtT.zu (d := 5) rfl (fun hg5 => ?_) (fun hg5 => ?_))
  all_goals first|refine AtT.zh ?_|refine AtT.ze ?_|(refine AtT.zf ?_)
  all_goals first|refine AtT.zh ?_|refine AtT.ze ?_|(refine AtT.kleq ?_)
  all_goals (refine AtT.zx ?_)
  all_goals (refine AtT.zg ?_)
  all_goals refine AtT.done ?_
  all_goals (refine At.nrm ?_)
  all_goals (exact At.qh rfl (.tmp rfl) (congrArg Value.bool (decide_eq_decide.2 ⟨fun h' => ⟨h, h'⟩, fun h' => h'.2⟩)))
 ·refine At.zi (.q 0 (.q 1 (.q 2 (.q 3 (.q 4 (.q 5 (.q 6 .done))))))) ?_
  refine AtT.zf ?_
  refine AtT.kgeq ?_
  refine AtT.zS (d := 4) rfl (h) ?_
  refine AtT.zf ?_
  all_goals (first | refine AtT.kL 5 ?_ | refine AtT.zw (d := 5) rfl (fun hg5 => ?_) (fun hg5 => ?_) | refine AtT.zu (d := 5) rfl (fun hg5 => ?_) (fun hg5 => ?_))
  all_goals first|refine AtT.zh ?_|refine AtT.ze ?_|(refine AtT.zf ?_)
  all_goals first|refine AtT.zh ?_|refine AtT.ze ?_|(refine AtT.kleq ?_)
  all_goals (refine AtT.zx ?_)
  all_goals (refine AtT.zg ?_)
  all_goals refine AtT.done ?_
  all_goals (refine At.nrm ?_)
  all_goals (exact At.qh rfl (.tmp rfl) (by rw [decide_eq_false (fun h2 => h h2.1)]; rfl))
theorem jo (d k t n : Int) (V : View) : Fnc Tryz.prog 44 [iv d, iv k, iv t, iv n] V fun r _ => r = env ⟨d, k, t, n⟩ := by
 refine ql Tryz.func44 rfl Tryz.ntmps44 (Nat.le_of_ble_eq_true rfl) ?_
 intro w0 hw0
 refine At.nrm ?_
 refine At.zi (.n false 0 .done) ?_
 refine AtT.zT z36 ?_
 intro b8
 refine AtT.done ?_
 refine At.nrm ?_
 refine At.zi (.q 0 (.q 1 (.q 2 (.q 3 (.q 4 (.n true 5 .done)))))) ?_
 refine AtT.zf ?_
 refine AtT.zf ?_
 refine AtT.zf ?_
 refine AtT.zf ?_
 refine AtT.qy (bd36_0_1_2_3 _ _ _ _) ?_
 refine AtT.zy qH ?_
 refine AtT.done ?_
 refine At.nrm ?_
 exact At.qh rfl (.agg rfl qH zP.zI rfl) rfl
theorem of_f (v : Value) (V : View) : Fnc Tryz.prog 54 [v] V fun r _ => r = v := by
 refine ql Tryz.func54 rfl Tryz.ntmps54 (Nat.le_of_ble_eq_true rfl) ?_
 intro w0 hw0
 refine At.nrm ?_
 refine At.zi (.q 0 .done) ?_
 refine AtT.zg ?_
 refine AtT.done ?_
 refine At.nrm ?_
 refine At.zi (.q 0 (.q 1 .done)) ?_
 refine AtT.zf ?_
 refine AtT.zg ?_
 refine AtT.done ?_
 refine At.nrm ?_
 exact At.qh rfl (.tmp rfl) rfl
end Go.Proofs.YtpoignmclfdgpaaGreatDoor
set_option linter.unusedVariables false
namespace Go.Proofs.YtpoignmclfdgpaaGreatDoor
open Go.Shelf Go.RowKit Go.Lib
def kE : Go.Shelf.Ren := ⟨fun | 99 => 78 | 102 => 81 | 105 => 120 | 119 => 164 | 120 => 147 | 129 => 155 | 137 => 163 | 138 => 124 | 143 => 125 | 146 => 111 | 151 => 128 | 152 => 146 | 160 => 79 | 165 => 136 | 166 => 74 | 169 => 76 | 170 => 137 | 173 => 101 | 195 => 142 | 197 => 127 | 206 => 103 | 207 => 133 | 209 => 115 | 212 => 135 | 217 => 159 | 218 => 143 | 219 => 144 | 221 => 102 | 224 => 161 | 225 => 160 | 227 => 106 | 228 => 126 | 231 => 104 | 232 => 105 | 233 => 107 | 234 => 108 | 235 => 109 | 236 => 110 | 240 => 97 | 241 => 153 | 246 => 122 | 260 => 145 | 263 => 151 | 264 => 152 | 266 => 174 | 267 => 162 | 268 => 123 | 271 => 129 | 276 => 121 | 277 => 171 | 283 => 138 | 284 => 139 | 285 => 140 | 286 => 141 | 314 => 175 | 317 => 154 | 318 => 156 | 319 => 157 | 320 => 158 | 337 => 172 | 338 => 173 | n => n, fun | 31 => 121 | 37 => 74 | 46 => 179 | 51 => 191 | 53 => 174 | 70 => 112 | 71 => 113 | 72 => 114 | 74 => 115 | 75 => 116 | 76 => 117 | 80 => 120 | 105 => 171 | 109 => 180 | 115 => 150 | 116 => 151 | 117 => 152 | 119 => 201 | 124 => 155 | 127 => 147 | 137 => 202 | 138 => 203 | 139 => 204 | 146 => 192 | 148 => 194 | 164 => 166 | 171 => 183 | 173 => 186 | 212 => 198 | 213 => 199 | 232 => 217 | 233 => 218 | n => n, fun | 3 => 2 | 4 => 3 | 17 => 0 | 18 => 6 | 19 => 7 | n => n⟩
theorem lay_genSplit : Lays.n221 Tryz.prog kE where
 mixed := by kernel_rfl
 f138 := Tryz.func124.trans (congrArg some (by kernel_rfl))
 f143 := Tryz.func125.trans (congrArg some (by kernel_rfl))
 f195 := Tryz.func142.trans (congrArg some (by kernel_rfl))
 f197 := Tryz.func127.trans (congrArg some (by kernel_rfl))
 f217 := Tryz.func159.trans (congrArg some (by kernel_rfl))
 f218 := Tryz.func143.trans (congrArg some (by kernel_rfl))
 f219 := Tryz.func144.trans (congrArg some (by kernel_rfl))
 f221 := Tryz.func102.trans (congrArg some (by kernel_rfl))
 f224 := Tryz.func161.trans (congrArg some (by kernel_rfl))
 f225 := Tryz.func160.trans (congrArg some (by kernel_rfl))
 f260 := Tryz.func145.trans (congrArg some (by kernel_rfl))
 f266 := Tryz.func174.trans (congrArg some (by kernel_rfl))
 f267 := Tryz.func162.trans (congrArg some (by kernel_rfl))
 f268 := Tryz.func123.trans (congrArg some (by kernel_rfl))
 f314 := Tryz.func175.trans (congrArg some (by kernel_rfl))
 t0 := Tryz.underlying0
 a0 := Tryz.isAgg0
 z0 := Tryz.sizeOf0
 v0 := Tryz.zeroValue0
 t3 := Tryz.underlying3
 a3 := Tryz.isAgg3
 z3 := Tryz.sizeOf3
 v3 := Tryz.zeroValue3
 t4 := Tryz.underlying4
 a4 := Tryz.isAgg4
 z4 := Tryz.sizeOf4
 v4 := Tryz.zeroValue4
 t5 := Tryz.underlying5
 a5 := Tryz.isAgg5
 z5 := Tryz.sizeOf5
 v5 := Tryz.zeroValue5
 t9 := Tryz.underlying9
 a9 := Tryz.isAgg9
 z9 := Tryz.sizeOf9
 v9 := Tryz.zeroValue9
 t21 := Tryz.underlying21
 a21 := Tryz.isAgg21
 z21 := Tryz.sizeOf21
 v21 := Tryz.zeroValue21
 t31 := Tryz.underlying121
 a31 := Tryz.isAgg121
 z31 := Tryz.sizeOf121
 v31 := Tryz.zeroValue121
 t46 := Tryz.underlying179
 a46 := Tryz.isAgg179
 z46 := Tryz.sizeOf179
 v46 := Tryz.zeroValue179
 t51 := Tryz.underlying191
 a51 := Tryz.isAgg191
 z51 := Tryz.sizeOf191
 v51 := Tryz.zeroValue191
 t105 := Tryz.underlying171
 a105 := Tryz.isAgg171
 z105 := Tryz.sizeOf171
 v105 := Tryz.zeroValue171
 t119 := Tryz.underlying201
 a119 := Tryz.isAgg201
 z119 := Tryz.sizeOf201
 t138 := Tryz.underlying203
 a138 := Tryz.isAgg203
 z138 := Tryz.sizeOf203
 v138 := Tryz.zeroValue203
 t139 := Tryz.underlying204
 a139 := Tryz.isAgg204
 z139 := Tryz.sizeOf204
 v139 := Tryz.zeroValue204
 t146 := Tryz.underlying192
 a146 := Tryz.isAgg192
 z146 := Tryz.sizeOf192
 v146 := Tryz.zeroValue192
 g1 := by kernel_rfl
 g3 := by kernel_rfl
 g4 := by kernel_rfl
theorem lay_hasPrefix : Lays.n99 Tryz.prog kE where
 mixed := by kernel_rfl
 f99 := Tryz.func78.trans (congrArg some (by kernel_rfl))
 f206 := Tryz.func103.trans (congrArg some (by kernel_rfl))
 t3 := Tryz.underlying3
 a3 := Tryz.isAgg3
 z3 := Tryz.sizeOf3
 v3 := Tryz.zeroValue3
 t4 := Tryz.underlying4
 a4 := Tryz.isAgg4
 z4 := Tryz.sizeOf4
 v4 := Tryz.zeroValue4
 t9 := Tryz.underlying9
 a9 := Tryz.isAgg9
 z9 := Tryz.sizeOf9
 v9 := Tryz.zeroValue9
theorem lay_trimSuffix : Lays.n102 Tryz.prog kE where
 mixed := by kernel_rfl
 f102 := Tryz.func81.trans (congrArg some (by kernel_rfl))
 f207 := Tryz.func133.trans (congrArg some (by kernel_rfl))
 f209 := Tryz.func115.trans (congrArg some (by kernel_rfl))
 t3 := Tryz.underlying3
 a3 := Tryz.isAgg3
 z3 := Tryz.sizeOf3
 v3 := Tryz.zeroValue3
 t4 := Tryz.underlying4
 a4 := Tryz.isAgg4
 z4 := Tryz.sizeOf4
 v4 := Tryz.zeroValue4
 t9 := Tryz.underlying9
 a9 := Tryz.isAgg9
 z9 := Tryz.sizeOf9
 v9 := Tryz.zeroValue9
theorem lay_trim : Lays.n160 Tryz.prog kE where
 mixed := by kernel_rfl
 f119 := Tryz.func164.trans (congrArg some (by kernel_rfl))
 f120 := Tryz.func147.trans (congrArg some (by kernel_rfl))
 f137 := Tryz.func163.trans (congrArg some (by kernel_rfl))
 f151 := Tryz.func128.trans (congrArg some (by kernel_rfl))
 f152 := Tryz.func146.trans (congrArg some (by kernel_rfl))
 f160 := Tryz.func79.trans (congrArg some (by kernel_rfl))
 f197 := Tryz.func127.trans (congrArg some (by kernel_rfl))
 f217 := Tryz.func159.trans (congrArg some (by kernel_rfl))
 f224 := Tryz.func161.trans (congrArg some (by kernel_rfl))
 f225 := Tryz.func160.trans (congrArg some (by kernel_rfl))
 f227 := Tryz.func106.trans (congrArg some (by kernel_rfl))
 f228 := Tryz.func126.trans (congrArg some (by kernel_rfl))
 f231 := Tryz.func104.trans (congrArg some (by kernel_rfl))
 f232 := Tryz.func105.trans (congrArg some (by kernel_rfl))
 f233 := Tryz.func107.trans (congrArg some (by kernel_rfl))
 f234 := Tryz.func108.trans (congrArg some (by kernel_rfl))
 f235 := Tryz.func109.trans (congrArg some (by kernel_rfl))
 f236 := Tryz.func110.trans (congrArg some (by kernel_rfl))
 f260 := Tryz.func145.trans (congrArg some (by kernel_rfl))
 f266 := Tryz.func174.trans (congrArg some (by kernel_rfl))
 f271 := Tryz.func129.trans (congrArg some (by kernel_rfl))
 t0 := Tryz.underlying0
 a0 := Tryz.isAgg0
 z0 := Tryz.sizeOf0
 v0 := Tryz.zeroValue0
 t3 := Tryz.underlying3
 a3 := Tryz.isAgg3
 z3 := Tryz.sizeOf3
 v3 := Tryz.zeroValue3
 t4 := Tryz.underlying4
 a4 := Tryz.isAgg4
 z4 := Tryz.sizeOf4
 v4 := Tryz.zeroValue4
 t5 := Tryz.underlying5
 a5 := Tryz.isAgg5
 z5 := Tryz.sizeOf5
 v5 := Tryz.zeroValue5
 t9 := Tryz.underlying9
 a9 := Tryz.isAgg9
 z9 := Tryz.sizeOf9
 v9 := Tryz.zeroValue9
 t21 := Tryz.underlying21
 a21 := Tryz.isAgg21
 z21 := Tryz.sizeOf21
 v21 := Tryz.zeroValue21
 t46 := Tryz.underlying179
 a46 := Tryz.isAgg179
 z46 := Tryz.sizeOf179
 v46 := Tryz.zeroValue179
 t105 := Tryz.underlying171
 a105 := Tryz.isAgg171
 z105 := Tryz.sizeOf171
 v105 := Tryz.zeroValue171
 t116 := Tryz.underlying151
 a116 := Tryz.isAgg151
 z116 := Tryz.sizeOf151
 t117 := Tryz.underlying152
 a117 := Tryz.isAgg152
 z117 := Tryz.sizeOf152
 v117 := Tryz.zeroValue152
 t119 := Tryz.underlying201
 a119 := Tryz.isAgg201
 z119 := Tryz.sizeOf201
 t124 := Tryz.underlying155
 a124 := Tryz.isAgg155
 z124 := Tryz.sizeOf155
 v124 := Tryz.zeroValue155
 t138 := Tryz.underlying203
 a138 := Tryz.isAgg203
 z138 := Tryz.sizeOf203
 v138 := Tryz.zeroValue203
 t139 := Tryz.underlying204
 a139 := Tryz.isAgg204
 z139 := Tryz.sizeOf204
 v139 := Tryz.zeroValue204
 g3 := by kernel_rfl
 g4 := by kernel_rfl
theorem lay_repeat : Lays.n105 Tryz.prog kE where
 mixed := by kernel_rfl
 f99 := Tryz.func78.trans (congrArg some (by kernel_rfl))
 f105 := Tryz.func120.trans (congrArg some (by kernel_rfl))
 f165 := Tryz.func136.trans (congrArg some (by kernel_rfl))
 f166 := Tryz.func74.trans (congrArg some (by kernel_rfl))
 f169 := Tryz.func76.trans (congrArg some (by kernel_rfl))
 f170 := Tryz.func137.trans (congrArg some (by kernel_rfl))
 f206 := Tryz.func103.trans (congrArg some (by kernel_rfl))
 f212 := Tryz.func135.trans (congrArg some (by kernel_rfl))
 f240 := Tryz.func97.trans (congrArg some (by kernel_rfl))
 f241 := Tryz.func153.trans (congrArg some (by kernel_rfl))
 f263 := Tryz.func151.trans (congrArg some (by kernel_rfl))
 f264 := Tryz.func152.trans (congrArg some (by kernel_rfl))
 f276 := Tryz.func121.trans (congrArg some (by kernel_rfl))
 f277 := Tryz.func171.trans (congrArg some (by kernel_rfl))
 t0 := Tryz.underlying0
 a0 := Tryz.isAgg0
 z0 := Tryz.sizeOf0
 v0 := Tryz.zeroValue0
 t3 := Tryz.underlying3
 a3 := Tryz.isAgg3
 z3 := Tryz.sizeOf3
 v3 := Tryz.zeroValue3
 t4 := Tryz.underlying4
 a4 := Tryz.isAgg4
 z4 := Tryz.sizeOf4
 v4 := Tryz.zeroValue4
 t5 := Tryz.underlying5
 a5 := Tryz.isAgg5
 z5 := Tryz.sizeOf5
 v5 := Tryz.zeroValue5
 t9 := Tryz.underlying9
 a9 := Tryz.isAgg9
 z9 := Tryz.sizeOf9
 v9 := Tryz.zeroValue9
 t20 := Tryz.underlying20
 a20 := Tryz.isAgg20
 z20 := Tryz.sizeOf20
 v20 := Tryz.zeroValue20
 t37 := Tryz.underlying74
 a37 := Tryz.isAgg74
 z37 := Tryz.sizeOf74
 v37 := Tryz.zeroValue74
 t46 := Tryz.underlying179
 a46 := Tryz.isAgg179
 z46 := Tryz.sizeOf179
 v46 := Tryz.zeroValue179
 t51 := Tryz.underlying191
 a51 := Tryz.isAgg191
 z51 := Tryz.sizeOf191
 v51 := Tryz.zeroValue191
 t53 := Tryz.underlying174
 a53 := Tryz.isAgg174
 z53 := Tryz.sizeOf174
 v53 := Tryz.zeroValue174
 t70 := Tryz.underlying112
 a70 := Tryz.isAgg112
 z70 := Tryz.sizeOf112
 v70 := Tryz.zeroValue112
 t72 := Tryz.underlying114
 a72 := Tryz.isAgg114
 z72 := Tryz.sizeOf114
 v72 := Tryz.zeroValue114
 t75 := Tryz.underlying116
 a75 := Tryz.isAgg116
 z75 := Tryz.sizeOf116
 v75 := Tryz.zeroValue116
 t76 := Tryz.underlying117
 a76 := Tryz.isAgg117
 z76 := Tryz.sizeOf117
 v76 := Tryz.zeroValue117
 t109 := Tryz.underlying180
 a109 := Tryz.isAgg180
 z109 := Tryz.sizeOf180
 v109 := Tryz.zeroValue180
 t127 := Tryz.underlying147
 a127 := Tryz.isAgg147
 z127 := Tryz.sizeOf147
 v127 := Tryz.zeroValue147
 t146 := Tryz.underlying192
 a146 := Tryz.isAgg192
 z146 := Tryz.sizeOf192
 v146 := Tryz.zeroValue192
 t148 := Tryz.underlying194
 a148 := Tryz.isAgg194
 z148 := Tryz.sizeOf194
 v148 := Tryz.zeroValue194
 t164 := Tryz.underlying166
 a164 := Tryz.isAgg166
 z164 := Tryz.sizeOf166
 v164 := Tryz.zeroValue166
theorem lay_fmtInt : LaysM.n173 Tryz.prog kE where
 mixed := by kernel_rfl
 f129 := Tryz.func155.trans (congrArg some (by kernel_rfl))
 f173 := Tryz.func101.trans (congrArg some (by kernel_rfl))
 f246 := Tryz.func122.trans (congrArg some (by kernel_rfl))
 f283 := Tryz.func138.trans (congrArg some (by kernel_rfl))
 f284 := Tryz.func139.trans (congrArg some (by kernel_rfl))
 f285 := Tryz.func140.trans (congrArg some (by kernel_rfl))
 f286 := Tryz.func141.trans (congrArg some (by kernel_rfl))
 f317 := Tryz.func154.trans (congrArg some (by kernel_rfl))
 f318 := Tryz.func156.trans (congrArg some (by kernel_rfl))
 f319 := Tryz.func157.trans (congrArg some (by kernel_rfl))
 f320 := Tryz.func158.trans (congrArg some (by kernel_rfl))
 f337 := Tryz.func172.trans (congrArg some (by kernel_rfl))
 f338 := Tryz.func173.trans (congrArg some (by kernel_rfl))
 t0 := Tryz.underlying0
 a0 := Tryz.isAgg0
 z0 := Tryz.sizeOf0
 v0 := Tryz.zeroValue0
 t2 := Tryz.underlying2
 a2 := Tryz.isAgg2
 z2 := Tryz.sizeOf2
 v2 := Tryz.zeroValue2
 t3 := Tryz.underlying3
 a3 := Tryz.isAgg3
 z3 := Tryz.sizeOf3
 v3 := Tryz.zeroValue3
 t4 := Tryz.underlying4
 a4 := Tryz.isAgg4
 z4 := Tryz.sizeOf4
 v4 := Tryz.zeroValue4
 t5 := Tryz.underlying5
 a5 := Tryz.isAgg5
 z5 := Tryz.sizeOf5
 v5 := Tryz.zeroValue5
 t9 := Tryz.underlying9
 a9 := Tryz.isAgg9
 z9 := Tryz.sizeOf9
 v9 := Tryz.zeroValue9
 t20 := Tryz.underlying20
 a20 := Tryz.isAgg20
 z20 := Tryz.sizeOf20
 v20 := Tryz.zeroValue20
 t37 := Tryz.underlying74
 a37 := Tryz.isAgg74
 z37 := Tryz.sizeOf74
 v37 := Tryz.zeroValue74
 t46 := Tryz.underlying179
 a46 := Tryz.isAgg179
 z46 := Tryz.sizeOf179
 v46 := Tryz.zeroValue179
 t51 := Tryz.underlying191
 a51 := Tryz.isAgg191
 z51 := Tryz.sizeOf191
 v51 := Tryz.zeroValue191
 t53 := Tryz.underlying174
 a53 := Tryz.isAgg174
 z53 := Tryz.sizeOf174
 v53 := Tryz.zeroValue174
 t171 := Tryz.underlying183
 a171 := Tryz.isAgg183
 z171 := Tryz.sizeOf183
 v171 := Tryz.zeroValue183
 t173 := Tryz.underlying186
 a173 := Tryz.isAgg186
 z173 := Tryz.sizeOf186
 v173 := Tryz.zeroValue186
 t212 := Tryz.underlying198
 a212 := Tryz.isAgg198
 z212 := Tryz.sizeOf198
 v212 := Tryz.zeroValue198
 t213 := Tryz.underlying199
 a213 := Tryz.isAgg199
 z213 := Tryz.sizeOf199
 t232 := Tryz.underlying217
 a232 := Tryz.isAgg217
 z232 := Tryz.sizeOf217
 v232 := Tryz.zeroValue217
 t233 := Tryz.underlying218
 a233 := Tryz.isAgg218
 z233 := Tryz.sizeOf218
 v233 := Tryz.zeroValue218
 g17 := by kernel_rfl
 g18 := by kernel_rfl
 g19 := by kernel_rfl
 i0 := by kernel_rfl
 i2 := by kernel_rfl
 i3 := by kernel_rfl
 i4 := by kernel_rfl
 i5 := by kernel_rfl
 i9 := by kernel_rfl
 i20 := by kernel_rfl
 i37 := by kernel_rfl
 i46 := by kernel_rfl
 i51 := by kernel_rfl
 i53 := by kernel_rfl
 i171 := by kernel_rfl
 i173 := by kernel_rfl
 i212 := by kernel_rfl
 i232 := by kernel_rfl
 i233 := by kernel_rfl
 m17 := by kernel_rfl
 m18 := by kernel_rfl
 m19 := by kernel_rfl
theorem bstr_ren_ext : Builder.Extra Tryz.prog kE where
 sizeBuilder := by kernel_rfl
 liesBuilder := by kernel_rfl
 t5 := Tryz.underlying5
 a5 := Tryz.isAgg5
 z5 := Tryz.sizeOf5
 v5 := Tryz.zeroValue5
 infoByte := by kernel_rfl
 cellsByte := by kernel_rfl
 sizeByte := by kernel_rfl
 neB5 := by decide
end Go.Proofs.YtpoignmclfdgpaaGreatDoor
set_option linter.unusedVariables false
namespace Go.Proofs.YtpoignmclfdgpaaGreatDoor
open Go.Shelf Go.RowKit Go.Lib
def bpu_ren : Go.Shelf.Ren := ⟨fun | 14 => 130 | 16 => 148 | 17 => 149 | 19 => 165 | 20 => 166 | 21 => 167 | 22 => 168 | 23 => 169 | 24 => 170 | 25 => 176 | 26 => 177 | 27 => 178 | 28 => 179 | 29 => 122 | 30 => 138 | 31 => 139 | 32 => 140 | 33 => 141 | 34 => 154 | 35 => 155 | 36 => 156 | 37 => 157 | 38 => 158 | 39 => 172 | 40 => 173 | n => n, fun | 22 => 174 | 23 => 115 | 24 => 116 | 25 => 175 | 34 => 206 | 36 => 179 | 37 => 74 | 39 => 208 | 43 => 214 | 44 => 215 | 47 => 147 | 48 => 219 | 49 => 220 | 50 => 221 | 52 => 183 | 55 => 186 | 59 => 198 | 60 => 191 | 61 => 199 | 65 => 217 | 66 => 218 | 67 => 120 | n => n, fun | 0 => 4 | 1 => 5 | 2 => 0 | 3 => 6 | 4 => 7 | n => n⟩
theorem lay_parseUint : LaysPu.n14 Tryz.prog bpu_ren where
 mixed := by kernel_rfl
 f14 := Tryz.func130.trans (congrArg some (by kernel_rfl))
 f16 := Tryz.func148.trans (congrArg some (by kernel_rfl))
 f17 := Tryz.func149.trans (congrArg some (by kernel_rfl))
 f19 := Tryz.func165.trans (congrArg some (by kernel_rfl))
 f20 := Tryz.func166.trans (congrArg some (by kernel_rfl))
 f21 := Tryz.func167.trans (congrArg some (by kernel_rfl))
 f22 := Tryz.func168.trans (congrArg some (by kernel_rfl))
 f23 := Tryz.func169.trans (congrArg some (by kernel_rfl))
 f24 := Tryz.func170.trans (congrArg some (by kernel_rfl))
 f25 := Tryz.func176.trans (congrArg some (by kernel_rfl))
 f26 := Tryz.func177.trans (congrArg some (by kernel_rfl))
 f27 := Tryz.func178.trans (congrArg some (by kernel_rfl))
 f28 := Tryz.func179.trans (congrArg some (by kernel_rfl))
 f29 := Tryz.func122.trans (congrArg some (by kernel_rfl))
 f30 := Tryz.func138.trans (congrArg some (by kernel_rfl))
 f31 := Tryz.func139.trans (congrArg some (by kernel_rfl))
 f32 := Tryz.func140.trans (congrArg some (by kernel_rfl))
 f33 := Tryz.func141.trans (congrArg some (by kernel_rfl))
 f34 := Tryz.func154.trans (congrArg some (by kernel_rfl))
 f35 := Tryz.func155.trans (congrArg some (by kernel_rfl))
 f36 := Tryz.func156.trans (congrArg some (by kernel_rfl))
 f37 := Tryz.func157.trans (congrArg some (by kernel_rfl))
 f38 := Tryz.func158.trans (congrArg some (by kernel_rfl))
 f39 := Tryz.func172.trans (congrArg some (by kernel_rfl))
 f40 := Tryz.func173.trans (congrArg some (by kernel_rfl))
 t0 := Tryz.underlying0
 a0 := Tryz.isAgg0
 z0 := Tryz.sizeOf0
 v0 := Tryz.zeroValue0
 i0 := by kernel_rfl
 t2 := Tryz.underlying2
 a2 := Tryz.isAgg2
 z2 := Tryz.sizeOf2
 v2 := Tryz.zeroValue2
 i2 := by kernel_rfl
 t3 := Tryz.underlying3
 a3 := Tryz.isAgg3
 z3 := Tryz.sizeOf3
 v3 := Tryz.zeroValue3
 i3 := by kernel_rfl
 t4 := Tryz.underlying4
 a4 := Tryz.isAgg4
 z4 := Tryz.sizeOf4
 v4 := Tryz.zeroValue4
 i4 := by kernel_rfl
 t5 := Tryz.underlying5
 a5 := Tryz.isAgg5
 z5 := Tryz.sizeOf5
 v5 := Tryz.zeroValue5
 i5 := by kernel_rfl
 t9 := Tryz.underlying9
 a9 := Tryz.isAgg9
 z9 := Tryz.sizeOf9
 v9 := Tryz.zeroValue9
 i9 := by kernel_rfl
 t20 := Tryz.underlying20
 a20 := Tryz.isAgg20
 z20 := Tryz.sizeOf20
 v20 := Tryz.zeroValue20
 i20 := by kernel_rfl
 t21 := Tryz.underlying21
 a21 := Tryz.isAgg21
 z21 := Tryz.sizeOf21
 v21 := Tryz.zeroValue21
 i21 := by kernel_rfl
 t22 := Tryz.underlying174
 a22 := Tryz.isAgg174
 z22 := Tryz.sizeOf174
 v22 := Tryz.zeroValue174
 i22 := by kernel_rfl
 t24 := Tryz.underlying116
 a24 := Tryz.isAgg116
 z24 := Tryz.sizeOf116
 v24 := Tryz.zeroValue116
 i24 := by kernel_rfl
 t25 := Tryz.underlying175
 a25 := Tryz.isAgg175
 z25 := Tryz.sizeOf175
 v25 := Tryz.zeroValue175
 i25 := by kernel_rfl
 t34 := Tryz.underlying206
 a34 := Tryz.isAgg206
 z34 := Tryz.sizeOf206
 v34 := Tryz.zeroValue206
 i34 := by kernel_rfl
 c34 := by kernel_rfl
 t36 := Tryz.underlying179
 a36 := Tryz.isAgg179
 z36 := Tryz.sizeOf179
 v36 := Tryz.zeroValue179
 i36 := by kernel_rfl
 t37 := Tryz.underlying74
 a37 := Tryz.isAgg74
 z37 := Tryz.sizeOf74
 v37 := Tryz.zeroValue74
 i37 := by kernel_rfl
 t39 := Tryz.underlying208
 a39 := Tryz.isAgg208
 z39 := Tryz.sizeOf208
 v39 := Tryz.zeroValue208
 i39 := by kernel_rfl
 t44 := Tryz.underlying215
 a44 := Tryz.isAgg215
 z44 := Tryz.sizeOf215
 v44 := Tryz.zeroValue215
 i44 := by kernel_rfl
 t47 := Tryz.underlying147
 a47 := Tryz.isAgg147
 z47 := Tryz.sizeOf147
 v47 := Tryz.zeroValue147
 i47 := by kernel_rfl
 t48 := Tryz.underlying219
 a48 := Tryz.isAgg219
 z48 := Tryz.sizeOf219
 v48 := Tryz.zeroValue219
 i48 := by kernel_rfl
 t50 := Tryz.underlying221
 a50 := Tryz.isAgg221
 z50 := Tryz.sizeOf221
 v50 := Tryz.zeroValue221
 i50 := by kernel_rfl
 t52 := Tryz.underlying183
 a52 := Tryz.isAgg183
 z52 := Tryz.sizeOf183
 v52 := Tryz.zeroValue183
 i52 := by kernel_rfl
 t55 := Tryz.underlying186
 a55 := Tryz.isAgg186
 z55 := Tryz.sizeOf186
 v55 := Tryz.zeroValue186
 i55 := by kernel_rfl
 t59 := Tryz.underlying198
 a59 := Tryz.isAgg198
 z59 := Tryz.sizeOf198
 v59 := Tryz.zeroValue198
 i59 := by kernel_rfl
 t60 := Tryz.underlying191
 a60 := Tryz.isAgg191
 z60 := Tryz.sizeOf191
 v60 := Tryz.zeroValue191
 i60 := by kernel_rfl
 t61 := Tryz.underlying199
 a61 := Tryz.isAgg199
 z61 := Tryz.sizeOf199
 t65 := Tryz.underlying217
 a65 := Tryz.isAgg217
 z65 := Tryz.sizeOf217
 v65 := Tryz.zeroValue217
 i65 := by kernel_rfl
 t66 := Tryz.underlying218
 a66 := Tryz.isAgg218
 z66 := Tryz.sizeOf218
 v66 := Tryz.zeroValue218
 i66 := by kernel_rfl
 t67 := Tryz.underlying120
 a67 := Tryz.isAgg120
 z67 := Tryz.sizeOf120
 v67 := Tryz.zeroValue120
 i67 := by kernel_rfl
 g0 := by kernel_rfl
 m0 := by kernel_rfl
 g1 := by kernel_rfl
 m1 := by kernel_rfl
 g2 := by kernel_rfl
 m2 := by kernel_rfl
 g3 := by kernel_rfl
 m3 := by kernel_rfl
 g4 := by kernel_rfl
 m4 := by kernel_rfl
end Go.Proofs.YtpoignmclfdgpaaGreatDoor
set_option linter.unusedVariables false
namespace Go.Bk
open Go.Lib
def cutAt (c : UInt8) : List UInt8 → List (List UInt8)
 | [] => [[]]
 | b :: l => if b = c then [] :: cutAt c l else ((b :: (cutAt c l).headD []) :: (cutAt c l).tail)
def jl (c : UInt8) : List UInt8 → List (List UInt8)
 | [] => [[]]
 | b :: l => if b = c then [c] :: jl c l else ((b :: (jl c l).headD []) :: (jl c l).tail)
theorem ja (c : UInt8) : ∀ s, cutAt c s ≠ []
 | [] => by simp [cutAt]
 | b :: l => by simp only [cutAt]; split <;> simp
theorem jN {c : UInt8} : ∀ {u : List UInt8}, c ∉ u → cutAt c u = [u]
 | [], _ => rfl
 | b :: l, h => by
  have h1 : ¬ b = c := fun e => h (by rw [e]; exact List.mem_cons_self)
  simp only [cutAt, if_neg h1, jN fun h2 => h (List.mem_cons_of_mem _ h2)]; rfl
theorem cutAf_no {c : UInt8} : ∀ {u : List UInt8}, c ∉ u → jl c u = [u]
 | [], _ => rfl
 | b :: l, h => by
  have h1 : ¬ b = c := fun e => h (by rw [e]; exact List.mem_cons_self)
  simp only [jl, if_neg h1, cutAf_no fun h2 => h (List.mem_cons_of_mem _ h2)]; rfl
theorem jk {c : UInt8} (v : List UInt8) : ∀ {u : List UInt8}, c ∉ u → cutAt c (u ++ c :: v) = u :: cutAt c v
 | [], _ => by simp [cutAt]
 | b :: l, h => by
  have h1 : ¬ b = c := fun e => h (by rw [e]; exact List.mem_cons_self)
  simp only [List.cons_append, cutAt, if_neg h1, jk v fun h2 => h (List.mem_cons_of_mem _ h2)]; rfl
theorem cutAf_app {c : UInt8} (v : List UInt8) : ∀ {u : List UInt8}, c ∉ u → jl c (u ++ c :: v) = (u ++ [c]) :: jl c v
 | [], _ => by simp [jl]
 | b :: l, h => by
  have h1 : ¬ b = c := fun e => h (by rw [e]; exact List.mem_cons_self)
  simp only [List.cons_append, jl, if_neg h1, cutAf_app v fun h2 => h (List.mem_cons_of_mem _ h2)]; rfl
theorem first_of (c : UInt8) : ∀ s : List UInt8, c ∉ s ∨ ∃ u v, s = u ++ c :: v ∧ c ∉ u
 | [] => .inl (by simp)
 | b :: l => by
  by_cases h : b = c
  ·subst h; exact .inr ⟨[], l, rfl, by simp⟩
  ·rcases first_of c l with h1 | ⟨u, v, rfl, hu⟩
   ·left; intro hm
    rcases List.mem_cons.1 hm with e | hm
    ·exact h e.symm
    ·exact h1 hm
   ·right
    refine ⟨b :: u, v, rfl, fun hm => ?_⟩
    rcases List.mem_cons.1 hm with e | hm
    ·exact h e.symm
    ·exact hu hm
theorem occ_one (s : List UInt8) (c : UInt8) (j : Nat) : occAt s [c] j = true ↔ s[j]? = some c := by
 unfold occAt
 cases hd : s.drop j with
 | nil =>
  have : s[j]? = none := List.getElem?_eq_none (by have h := congrArg List.length hd; simp at h; omega)
  simp [this]
 | cons a t =>
  have : s[j]? = some a := by
   have := congrArg (·[0]?) hd
   simpa using this
  simp [this]
  exact eq_comm
theorem index_no {s : List UInt8} {c : UInt8} (h : c ∉ s) : index s [c] = -1 := index_none fun j _ => by
 cases ho : occAt s [c] j with
 | false => rfl
 | true => exact absurd (List.mem_of_getElem? ((occ_one s c j).1 ho)) h
theorem index_app {u v : List UInt8} {c : UInt8} (h : c ∉ u) : index (u ++ c :: v) [c] = u.length := by
 refine index_first (by simp) ((occ_one _ _ _).2 (by simp)) fun j hj => ?_
 cases ho : occAt (u ++ c :: v) [c] j with
 | false => rfl
 | true =>
  have h1 := (occ_one _ _ _).1 ho
  rw [List.getElem?_append_left hj] at h1
  exact absurd (List.mem_of_getElem? h1) h
theorem splitK_one (c : UInt8) : ∀ (k : Nat) (s : List UInt8), s.count c = k → splitK [c] 0 k s = cutAt c s ∧ splitK [c] 1 k s = jl c s
 | 0, s, h => by
  have hn : c ∉ s := List.count_eq_zero.1 h
  rw [jN hn, cutAf_no hn]; exact ⟨rfl, rfl⟩
 | k + 1, s, h => by
  rcases first_of c s with hn | ⟨u, v, rfl, hu⟩
  ·rw [List.count_eq_zero.2 hn] at h; cases h
  ·have hc : v.count c = k := by
    rw [List.count_append, List.count_cons, List.count_eq_zero.2 hu] at h
    simp at h; omega
   have ih := splitK_one c k v hc
   have hi := index_app (v := v) hu
   have hd : (u ++ c :: v).drop (u.length + 1) = v := by
    rw [List.drop_append, List.drop_eq_nil_of_le (by omega)]; simp
   have ht : (u ++ c :: v).take (u.length + 1) = u ++ [c] := by
    rw [List.take_append, List.take_of_length_le (by omega)]; simp
   have hm : (index (u ++ c :: v) [c] == -1) = false := by rw [hi]; simp
   constructor
   ·rw [jk v hu, splitK, hm]
    simp only [Bool.false_eq_true, if_false, hi, Int.toNat_natCast, Nat.add_zero, List.length_singleton]
    rw [hd, ih.1]; simp
   ·rw [cutAf_app v hu, splitK, hm]
    simp only [Bool.false_eq_true, if_false, hi, Int.toNat_natCast, List.length_singleton]
    rw [hd, ih.2, ht]
theorem split_cut (s : List UInt8) (c : UInt8) : splitK [c] 0 (count s [c]) s = cutAt c s := (splitK_one c _ s (count_one c s).symm).1
theorem split_caf (s : List UInt8) (c : UInt8) : splitK [c] 1 (count s [c]) s = jl c s := (splitK_one c _ s (count_one c s).symm).2
theorem cutAt_free (c : UInt8) : ∀ s, ∀ w ∈ cutAt c s, c ∉ w
 | [], w, h => by simp [cutAt] at h; subst h; simp
 | b :: l, w, h => by
  have ih := cutAt_free c l
  simp only [cutAt] at h
  split at h
  ·rcases List.mem_cons.1 h with rfl | h
   ·simp
   ·exact ih w h
  ·rename_i hb
   rcases List.mem_cons.1 h with rfl | h
   ·intro hm
    rcases List.mem_cons.1 hm with e | hm
    ·exact hb e.symm
    ·obtain ⟨x, xs, hx⟩ := List.exists_cons_of_ne_nil (ja c l)
     rw [hx] at hm ih
     exact ih x List.mem_cons_self hm
   ·exact ih w (List.mem_of_mem_tail h)
def kC (c : UInt8) : List (List UInt8) → List UInt8
 | [] => []
 | [w] => w
 | w :: x :: ws => w ++ c :: kC c (x :: ws)
theorem cutAt_join (c : UInt8) : ∀ s, kC c (cutAt c s) = s
 | [] => rfl
 | b :: l => by
  have ih := cutAt_join c l
  obtain ⟨x, xs, hx⟩ := List.exists_cons_of_ne_nil (ja c l)
  simp only [cutAt]
  rw [hx] at ih ⊢
  split
  ·rename_i hb; subst hb; simp only [kC, List.nil_append]; rw [ih]
  ·cases xs with
   | nil => simp only [kC] at ih ⊢; simp [kC, ih]
   | cons y ys => simp only [kC] at ih; simp [kC, ih]
theorem cutAt_of {c : UInt8} : ∀ {ws : List (List UInt8)}, ws ≠ [] → (∀ w ∈ ws, c ∉ w) → cutAt c (kC c ws) = ws
 | [], h, _ => absurd rfl h
 | [w], _, h => jN (h w List.mem_cons_self)
 | w :: x :: ws, _, h => by
  simp only [kC]
  rw [jk _ (h w List.mem_cons_self), cutAt_of (by simp) fun y hy => h y (List.mem_cons_of_mem _ hy)]
theorem cutAf_eq (c : UInt8) : ∀ s, jl c s = ((cutAt c s).dropLast.map (· ++ [c])) ++ [(cutAt c s).getLastD []]
 | [] => rfl
 | b :: l => by
  have ih := cutAf_eq c l
  obtain ⟨x, xs, hx⟩ := List.exists_cons_of_ne_nil (ja c l)
  simp only [cutAt, jl]
  rw [ih, hx]
  split
  ·simp [List.getLastD]
  ·cases xs with
   | nil => simp [List.getLastD]
   | cons y ys => simp [List.getLastD]
/-! ### Numbers -/
def isDg (b : UInt8) : Bool := decide (48 ≤ b.toNat) && decide (b.toNat ≤ 57)
def valF (acc : Nat) (l : List UInt8) : Nat := l.foldl (fun a b => 10 * a + (b.toNat - 48)) acc
theorem valF_nil (acc : Nat) : valF acc [] = acc := rfl
theorem valF_cons (acc : Nat) (b : UInt8) (l : List UInt8) : valF acc (b :: l) = valF (10 * acc + (b.toNat - 48)) l := by unfold valF; rw [List.foldl_cons]
def numR (l : List UInt8) : Option Nat := if l.length < 1 ∨ 6 < l.length ∨ (1 < l.length ∧ l.headD 0 = 48) ∨ l.all isDg = false then none else some (valF 0 l)
def numP (l : List UInt8) : Option Nat := match parseUintB 32 l with
 | .ok v => if 6 < l.length ∨ decDigits v ≠ l then none else some v
 | _ => none
theorem valF_lt : ∀ {l : List UInt8} {acc k : Nat}, l.all isDg = true → acc < 10 ^ k → valF acc l < 10 ^ (k + l.length)
 | [], acc, k, _, h => by rw [valF_nil]; simpa using h
 | b :: l, acc, k, hd, h => by
  simp only [List.all_cons, Bool.and_eq_true] at hd
  have hb : b.toNat - 48 ≤ 9 := by
   have := hd.1; unfold isDg at this; simp at this; omega
  simp only [valF_cons]
  have := valF_lt (l := l) (acc := 10 * acc + (b.toNat - 48)) (k := k + 1) hd.2 (by rw [Nat.pow_succ]; omega)
  rw [List.length_cons, show k + (l.length + 1) = k + 1 + l.length by omega]; exact this
theorem valF_app (l : List UInt8) (b : UInt8) : ∀ acc, valF acc (l ++ [b]) = 10 * valF acc l + (b.toNat - 48) := by
 induction l with
 | nil => intro acc; rfl
 | cons a l ih => intro acc; simp only [List.cons_append, valF_cons]; exact ih _
theorem parse_ok : ∀ {l : List UInt8} {acc k : Nat}, l.all isDg = true → acc < 10 ^ k → k + l.length ≤ 9 → parseUintM 4294967295 acc l = .ok (valF acc l)
 | [], acc, k, _, _, _ => rfl
 | b :: l, acc, k, hd, h, hk => by
  simp only [List.all_cons, Bool.and_eq_true] at hd
  have hb : 48 ≤ b.toNat ∧ b.toNat ≤ 57 := by
   have := hd.1; unfold isDg at this; simp at this; exact this
  rw [List.length_cons] at hk
  have h9 : 10 ^ k ≤ 10 ^ 8 := Nat.pow_le_pow_right (by decide) (by omega)
  have e9 : (10 : Nat) ^ 8 = 100000000 := by decide
  have hacc : acc < 100000000 := by omega
  have n1 : ¬ 1844674407370955162 ≤ acc := by omega
  have n2 : ¬ 4294967295 < acc * 10 + (b.toNat - 48) := by omega
  have ih := parse_ok (l := l) (acc := 10 * acc + (b.toNat - 48)) hd.2 (k := k + 1) (by rw [Nat.pow_succ]; omega) (by omega)
  rw [parseUintM, if_pos hb, if_neg n1, if_neg n2, valF_cons, Nat.mul_comm acc 10]
  exact ih
theorem parse_dig : ∀ {l : List UInt8} {acc v : Nat}, parseUintM 4294967295 acc l = .ok v → l.all isDg = true
 | [], acc, v, _ => rfl
 | b :: l, acc, v, h => by
  simp only [parseUintM] at h
  split at h
  ·rename_i hb
   split at h
   ·cases h
   ·split at h
    ·cases h
    ·simp only [List.all_cons, Bool.and_eq_true]
     exact ⟨by unfold isDg; simp [hb], parse_dig h⟩
  ·cases h
theorem dec_head : ∀ (v : Nat), 0 < v → (decDigits v).headD 0 ≠ 48 ∧ decDigits v ≠ [] := by
 intro v
 induction v using Nat.strongRecOn with
 | _ v ih =>
  intro hv
  by_cases h : v < 10
  ·rw [decDigits, dif_pos h]
   refine ⟨fun e => ?_, by simp⟩
   have h2 : UInt8.toNat (UInt8.ofNat (48 + v)) = 48 := by
    rw [show UInt8.ofNat (48 + v) = 48 from e]; rfl
   rw [UInt8.toNat_ofNat'] at h2
   omega
  ·rw [decDigits, dif_neg h]
   have := ih (v / 10) (by omega) (by omega)
   obtain ⟨a, t, ht⟩ := List.exists_cons_of_ne_nil this.2
   rw [ht] at this ⊢
   exact ⟨by simpa using this.1, by simp⟩
theorem dec_dig : ∀ (v : Nat), (decDigits v).all isDg = true := by
 intro v
 induction v using Nat.strongRecOn with
 | _ v ih =>
  by_cases h : v < 10
  ·rw [decDigits, dif_pos h]
   simp only [List.all_cons, List.all_nil, Bool.and_true]
   unfold isDg
   rw [UInt8.toNat_ofNat']
   simp; omega
  ·rw [decDigits, dif_neg h, List.all_append, ih (v / 10) (by omega)]
   simp only [List.all_cons, List.all_nil, Bool.and_true, Bool.true_and]
   unfold isDg
   rw [UInt8.toNat_ofNat']
   simp; omega
theorem dec_val : ∀ (v : Nat), valF 0 (decDigits v) = v := by
 intro v
 induction v using Nat.strongRecOn with
 | _ v ih =>
  by_cases h : v < 10
  ·rw [decDigits, dif_pos h]
   simp only [valF_cons, valF_nil]
   rw [UInt8.toNat_ofNat']
   omega
  ·rw [decDigits, dif_neg h, valF_app, ih (v / 10) (by omega), UInt8.toNat_ofNat']
   omega
theorem dec_len {v : Nat} (h : v < 1000000) : 1 ≤ (decDigits v).length ∧ (decDigits v).length ≤ 6 := by
 rw [decDigits_length]
 refine ⟨nDigits_pos v, ?_⟩
 have a1 := fun k h1 h2 => nDigits_unique k v h1 h2
 by_cases c0 : v < 10
 ·rw [nDigits_small c0]; decide
 by_cases c1 : v < 100
 ·rw [a1 1 (by simpa using c0) (by simpa using c1)]; decide
 by_cases c2 : v < 1000
 ·rw [a1 2 (by simpa using c1) (by simpa using c2)]; decide
 by_cases c3 : v < 10000
 ·rw [a1 3 (by simpa using c2) (by simpa using c3)]; decide
 by_cases c4 : v < 100000
 ·rw [a1 4 (by simpa using c3) (by simpa using c4)]; decide
 ·rw [a1 5 (by simpa using c4) (by simpa using h)]; decide
theorem dec_of : ∀ (n : Nat) (l : List UInt8), l.length = n → l.all isDg = true → 1 ≤ l.length → (1 < l.length → l.headD 0 ≠ 48) → decDigits (valF 0 l) = l
 | 0, l, hn, _, h1, _ => by omega
 | n + 1, l, hn, hd, h1, hh => by
  obtain ⟨u, b, rfl⟩ : ∃ u b, l = u ++ [b] := ⟨l.dropLast, l.getLast (by intro e; subst e; simp at h1), (List.dropLast_concat_getLast _).symm⟩
  rw [List.all_append, Bool.and_eq_true] at hd
  have hb : 48 ≤ b.toNat ∧ b.toNat ≤ 57 := by
   have := hd.2; simp only [List.all_cons, List.all_nil, Bool.and_true] at this; unfold isDg at this; simp at this; exact this
  have eb : UInt8.ofNat (48 + (b.toNat - 48)) = b := by
   rw [show 48 + (b.toNat - 48) = b.toNat by omega]; simp
  rw [valF_app]
  cases u with
  | nil =>
   simp only [valF_nil, Nat.mul_zero, Nat.zero_add, List.nil_append]
   rw [decDigits, dif_pos (by omega), eb]
  | cons a t =>
   have hl : (a :: t).length = n := by simp at hn ⊢; omega
   have ha : a ≠ 48 := by have := hh (by simp); simpa using this
   have ih := dec_of n (a :: t) hl hd.1 (by simp) (fun _ => by simpa using ha)
   have hv : 1 ≤ valF 0 (a :: t) := by
    rcases Nat.eq_zero_or_pos (valF 0 (a :: t)) with h0 | h0
    ·rw [h0] at ih
     rw [decDigits, dif_pos (by decide)] at ih
     exact absurd (List.cons.inj ih).1.symm ha
    ·exact h0
   rw [decDigits, dif_neg (by omega), show (10 * valF 0 (a :: t) + (b.toNat - 48)) / 10 = valF 0 (a :: t) by omega, show (10 * valF 0 (a :: t) + (b.toNat - 48)) % 10 = b.toNat - 48 by omega, ih, eb]
theorem numP_eq (l : List UInt8) : numP l = numR l := by
 unfold numP numR
 by_cases h0 : l = []
 ·subst h0; rfl
 have hl : 1 ≤ l.length := by cases l with | nil => exact absurd rfl h0 | cons _ _ => simp
 have e1 : parseUintB 32 l = parseUintM 4294967295 0 l := by unfold parseUintB; rw [if_neg h0]
 rw [e1]
 by_cases h6 : 6 < l.length
 ·rw [if_pos (.inr (.inl h6))]
  cases parseUintM 4294967295 0 l with
  | ok v => simp [h6]
  | _ => rfl
 cases hd : l.all isDg with
 | false =>
  rw [if_pos (.inr (.inr (.inr rfl)))]
  cases hp : parseUintM 4294967295 0 l with
  | ok v => rw [parse_dig hp] at hd; cases hd
  | _ => rfl
 | true =>
  rw [parse_ok (k := 0) hd (by decide) (by omega)]
  simp only
  by_cases hz : 1 < l.length ∧ l.headD 0 = 48
  ·have k1 : 6 < l.length ∨ decDigits (valF 0 l) ≠ l := by
    right; intro e
    rcases Nat.eq_zero_or_pos (valF 0 l) with hv | hv
    ·rw [hv] at e
     have h1 : (decDigits 0).length = 1 := by rw [decDigits, dif_pos (by decide)]; rfl
     rw [e] at h1; omega
    ·have := (dec_head _ hv).1
     rw [e] at this; exact this hz.2
   have k2 : l.length < 1 ∨ 6 < l.length ∨ (1 < l.length ∧ l.headD 0 = 48) ∨ true = false := .inr (.inr (.inl hz))
   rw [if_pos k1, if_pos k2]
  ·have k1 : ¬ (6 < l.length ∨ decDigits (valF 0 l) ≠ l) := by
    intro h
    rcases h with h | h
    ·exact h6 h
    ·exact h (dec_of _ l rfl hd hl fun h1 h2 => hz ⟨h1, h2⟩)
   have k2 : ¬ (l.length < 1 ∨ 6 < l.length ∨ (1 < l.length ∧ l.headD 0 = 48) ∨ true = false) := by
    intro h
    rcases h with h | h | h | h
    ·omega
    ·exact h6 h
    ·exact hz h
    ·cases h
   rw [if_neg k1, if_neg k2]
theorem numR_dec {v : Nat} (h : v < 1000000) : numR (decDigits v) = some v := by
 have hl := dec_len h
 unfold numR
 rw [if_neg, dec_val]
 intro hc
 rcases hc with hc | hc | hc | hc
 ·omega
 ·omega
 ·rcases Nat.eq_zero_or_pos v with hv | hv
  ·subst hv
   have h1 : (decDigits 0).length = 1 := by rw [decDigits, dif_pos (by decide)]; rfl
   omega
  ·exact (dec_head v hv).1 hc.2
 ·rw [dec_dig] at hc; cases hc
theorem dec_numR {l : List UInt8} {v : Nat} (h : numR l = some v) : decDigits v = l ∧ v < 1000000 := by
 unfold numR at h
 split at h
 ·cases h
 ·rename_i hc
  simp only [Option.some.injEq] at h
  subst h
  have hd : l.all isDg = true := by
   cases e : l.all isDg with
   | true => rfl
   | false => exact absurd (.inr (.inr (.inr e))) hc
  have h1 : ¬ l.length < 1 := fun h => hc (.inl h)
  have h6 : ¬ 6 < l.length := fun h => hc (.inr (.inl h))
  refine ⟨dec_of _ l rfl hd (by omega) fun h2 h3 => hc (.inr (.inr (.inl ⟨h2, h3⟩))), ?_⟩
  have := valF_lt (k := 0) hd (show 0 < 10 ^ 0 by decide)
  have h7 : 10 ^ (0 + l.length) ≤ 10 ^ 6 := Nat.pow_le_pow_right (by decide) (by omega)
  have e6 : (10 : Nat) ^ 6 = 1000000 := by decide
  omega
end Go.Bk
set_option linter.unusedVariables false
namespace Go.Bk
def adl (a b : Nat) : List UInt8 → Nat × Nat
 | [] => (a, b)
 | c :: l => adl ((a + c.toNat) % 65521) ((b + (a + c.toNat) % 65521) % 65521) l
theorem adl_app : ∀ (u v : List UInt8) (a b : Nat), adl a b (u ++ v) = adl (adl a b u).1 (adl a b u).2 v
 | [], v, a, b => rfl
 | c :: u, v, a, b => adl_app u v _ _
theorem adl_lt : ∀ (u : List UInt8) {a b : Nat}, a < 65521 → b < 65521 → (adl a b u).1 < 65521 ∧ (adl a b u).2 < 65521
 | [], a, b, ha, hb => ⟨ha, hb⟩
 | c :: u, a, b, ha, hb => adl_lt u (Nat.mod_lt _ (by decide)) (Nat.mod_lt _ (by decide))
def hx (d : Nat) : UInt8 := if d < 10 then UInt8.ofNat (48 + d) else UInt8.ofNat (87 + d)
def hex4 (n : Nat) : List UInt8 := [hx (n / 4096 % 16), hx (n / 256 % 16), hx (n / 16 % 16), hx (n % 16)]
def chk (s : List UInt8) : List UInt8 := hex4 (adl 1 0 s).2 ++ hex4 (adl 1 0 s).1
theorem hex4_len (n : Nat) : (hex4 n).length = 4 := rfl
theorem chk_len (s : List UInt8) : (chk s).length = 8 := rfl
def jT (b : UInt8) : Bool := (decide (48 ≤ b.toNat) && decide (b.toNat ≤ 57)) || (decide (97 ≤ b.toNat) && decide (b.toNat ≤ 102))
theorem hx_isHx {d : Nat} (hd : d < 16) : jT (hx d) = true := by
 unfold jT hx
 split <;> simp only [UInt8.toNat_ofNat'] <;> simp <;> omega
theorem chk_isHx (s : List UInt8) : (chk s).all jT = true := by
 unfold chk hex4
 simp only [List.cons_append, List.nil_append, List.all_cons, List.all_nil, Bool.and_true, Bool.and_eq_true]
 refine ⟨?_, ?_, ?_, ?_, ?_, ?_, ?_, ?_⟩ <;> exact hx_isHx (Nat.mod_lt _ (by decide))
end Go.Bk
set_option linter.unusedVariables false
namespace Go.Bk
open Go.Lib
def wd (k : Int) : List UInt8 := if k = 1 then [105, 110] else if k = 2 then [111, 117, 116] else if k = 3 then [109, 97, 107, 101] else [98, 97, 99, 107]
def lnT (w : List UInt8) (l : List Int) : List UInt8 := w ++ (l.map fun n => 32 :: itoa n).flatten
def rcN (r : Rc) : List Int := r.g :: r.ps.flatMap fun p => [p.t, p.n]
def enN (e : En) : List Int := if e.k = 4 then [e.d, e.t] else [e.d, e.t, e.n]
def rcT (r : Rc) : List UInt8 := lnT [114] (rcN r)
def enT (e : En) : List UInt8 := lnT (wd e.k) (enN e)
def linesT (b : Bo) : List (List UInt8) := b.rs.map rcT ++ b.es.map enT
def nlT (ls : List (List UInt8)) : List UInt8 := (ls.map (· ++ [10])).flatten
def kw (b : Bo) : List UInt8 := nlT (linesT b)
def tailT (s : List UInt8) : List UInt8 := [99, 104, 101, 99, 107, 32] ++ chk s ++ [10]
def fileT (b : Bo) : List UInt8 := kw b ++ tailT (kw b)
theorem tailT_len (s : List UInt8) : (tailT s).length = 15 := rfl
def jr : List (List UInt8) → Option (List Nat)
 | [] => some []
 | w :: ws => match numR w, jr ws with
  | some v, some l => some (v :: l)
  | _, _ => none
def jf (w : List UInt8) : Int := if w = wd 1 then 1 else if w = wd 2 then 2 else if w = wd 3 then 3 else if w = wd 4 then 4 else 0
def pairs : List Nat → List Pt
 | a :: b :: l => ⟨a, b⟩ :: pairs l
 | _ => []
def rdW (b : Bo) (w : List UInt8) (n : List Nat) : Option Bo :=
 if w = [114] then (if n.length % 2 = 0 ∨ b.es ≠ [] then none else some ⟨b.rs ++ [⟨(n.headD 0 : Nat), pairs n.tail⟩], b.es⟩)
 else if jf w = 0 then none
 else if (jf w = 4 ∧ n.length ≠ 2) ∨ (jf w ≠ 4 ∧ n.length ≠ 3) then none
 else some ⟨b.rs, b.es ++ [⟨(n.getD 0 0 : Nat), jf w, (n.getD 1 0 : Nat), if jf w = 4 then 0 else (n.getD 2 0 : Nat)⟩]⟩
def rdL (b : Bo) (s : List UInt8) : Option Bo := match jr (cutAt 32 s).tail with
 | none => none
 | some n => rdW b ((cutAt 32 s).headD []) n
def je : Bo → List (List UInt8) → Option Bo
 | b, [] => some b
 | b, l :: ls => match rdL b l with
  | none => none
  | some b' => je b' ls
def bo0 : Bo := ⟨[], []⟩
def jY (t : List UInt8) : Bool := decide (t.take 6 = [99, 104, 101, 99, 107, 32]) && decide (t.drop 14 = [10]) && ((t.drop 6).take 8).all jT
def endR (b : Bo) (body sum : List UInt8) : Bo × Int := if chk body ≠ sum then (bo0, 14) else if bkE b ≠ 0 then (bo0, bkE b) else (b, 0)
def loadR (s : List UInt8) : Bo × Int :=
 if 4000 < s.length then (bo0, 7) else if s.length < 15 then (bo0, 8)
 else if jY (s.drop (s.length - 15)) = false then (bo0, 8)
 else match je bo0 (cutAt 10 (s.take (s.length - 15))).dropLast with
  | none => (bo0, 8)
  | some b => if (cutAt 10 (s.take (s.length - 15))).getLastD [] ≠ [] then (bo0, 8) else endR b (s.take (s.length - 15)) (((s.drop (s.length - 15)).drop 6).take 8)
/-! ### What is printed is read back -/
theorem lnT_join (w : List UInt8) : ∀ l : List Int, lnT w l = kC 32 (w :: l.map itoa) := by
 intro l
 induction l generalizing w with
 | nil => simp [lnT, kC]
 | cons n l ih =>
  simp only [List.map_cons, kC]
  rw [← ih (itoa n)]
  simp [lnT]
theorem itoa_of {n : Int} (h : 0 ≤ n) : itoa n = decDigits n.toNat := by unfold itoa; rw [if_neg (by omega)]
theorem dig_no {c : UInt8} (hc : isDg c = false) (v : Nat) : c ∉ decDigits v := fun h => by
 have := List.all_eq_true.1 (dec_dig v) c h
 rw [hc] at this; cases this
theorem lnT_cut {w : List UInt8} (hw : 32 ∉ w) {l : List Int} (hl : ∀ n ∈ l, 0 ≤ n) : cutAt 32 (lnT w l) = w :: l.map itoa := by
 rw [lnT_join]
 refine cutAt_of (by simp) fun x hx => ?_
 rcases List.mem_cons.1 hx with rfl | hx
 ·exact hw
 ·obtain ⟨n, hn, rfl⟩ := List.mem_map.1 hx
  rw [itoa_of (hl n hn)]; exact dig_no (by decide) _
theorem nums_itoa : ∀ {l : List Int}, (∀ n ∈ l, 0 ≤ n ∧ n < 1000000) → jr (l.map itoa) = some (l.map Int.toNat)
 | [], _ => rfl
 | n :: l, h => by
  have h1 := h n List.mem_cons_self
  simp only [List.map_cons, jr]
  rw [itoa_of h1.1, numR_dec (by omega), nums_itoa fun x hx => h x (List.mem_cons_of_mem _ hx)]
theorem wd_no (k : Int) : (32 : UInt8) ∉ wd k ∧ (10 : UInt8) ∉ wd k := by
 unfold wd
 split
 ·decide
 ·split
  ·decide
  ·split <;> decide
theorem kind_wd {k : Int} (h : 1 ≤ k ∧ k ≤ 4) : jf (wd k) = k ∧ wd k ≠ [114] := by
 have : k = 1 ∨ k = 2 ∨ k = 3 ∨ k = 4 := by omega
 rcases this with rfl | rfl | rfl | rfl <;> decide
structure RcNm (r : Rc) : Prop where
 g : 0 ≤ r.g ∧ r.g < 1000000
 ps : ∀ p ∈ r.ps, (0 ≤ p.t ∧ p.t < 1000000) ∧ 0 ≤ p.n ∧ p.n < 1000000
structure EnNm (e : En) : Prop where
 k : 1 ≤ e.k ∧ e.k ≤ 4
 d : 0 ≤ e.d ∧ e.d < 1000000
 t : 0 ≤ e.t ∧ e.t < 1000000
 n : 0 ≤ e.n ∧ e.n < 1000000
 bk : e.k = 4 → e.n = 0
theorem rcN_in {r : Rc} (h : RcNm r) : ∀ n ∈ rcN r, 0 ≤ n ∧ n < 1000000 := fun n hn => by
 rcases List.mem_cons.1 hn with rfl | hn
 ·exact h.g
 ·obtain ⟨p, hp, hn⟩ := List.mem_flatMap.1 hn
  have := h.ps p hp
  simp only [List.mem_cons, List.not_mem_nil, or_false] at hn
  rcases hn with rfl | rfl
  ·exact this.1
  ·exact this.2
theorem enN_in {e : En} (h : EnNm e) : ∀ n ∈ enN e, 0 ≤ n ∧ n < 1000000 := fun n hn => by
 unfold enN at hn
 split at hn <;> simp only [List.mem_cons, List.not_mem_nil, or_false] at hn
 ·rcases hn with rfl | rfl
  ·exact h.d
  ·exact h.t
 ·rcases hn with rfl | rfl | rfl
  ·exact h.d
  ·exact h.t
  ·exact h.n
theorem pairs_of : ∀ {ps : List Pt}, (∀ p ∈ ps, (0 ≤ p.t ∧ p.t < 1000000) ∧ 0 ≤ p.n ∧ p.n < 1000000) → pairs ((ps.flatMap fun p => [p.t, p.n]).map Int.toNat) = ps ∧ ((ps.flatMap fun p => [p.t, p.n]).map Int.toNat).length % 2 = 0
 | [], _ => ⟨rfl, rfl⟩
 | p :: ps, h => by
  have h1 := h p List.mem_cons_self
  have ih := pairs_of fun q hq => h q (List.mem_cons_of_mem _ hq)
  simp only [List.flatMap_cons, List.map_append, List.map_cons, List.map_nil, List.cons_append, List.nil_append, pairs]
  refine ⟨?_, by simp only [List.length_cons]; omega⟩
  rw [ih.1]
  congr 1
  cases p
  dsimp only at h1
  simp only [Pt.mk.injEq]
  constructor <;> omega
theorem rd_rc {r : Rc} (h : RcNm r) (rs : List Rc) : rdL ⟨rs, []⟩ (rcT r) = some ⟨rs ++ [r], []⟩ := by
 have hi := rcN_in h
 have hp := pairs_of h.ps
 unfold rdL rcT
 rw [lnT_cut (by decide) fun n hn => (hi n hn).1]
 simp only [List.tail_cons, List.headD_cons]
 rw [nums_itoa hi]
 simp only [rdW, rcN, List.map_cons, List.length_cons, List.headD_cons, List.tail_cons]
 rw [if_pos trivial, if_neg (by
  intro hh
  rcases hh with hh | hh
  ·have := hp.2; omega
  ·exact hh rfl), hp.1]
 congr 3
 have := h.g
 cases r
 dsimp only at this
 simp only [List.cons.injEq, Rc.mk.injEq, and_true]
 omega
theorem rd_en {e : En} (h : EnNm e) (rs : List Rc) (es : List En) : rdL ⟨rs, es⟩ (enT e) = some ⟨rs, es ++ [e]⟩ := by
 have hi := enN_in h
 have hk := kind_wd h.k
 have h1 := h.d; have h2 := h.t; have h3 := h.n; have h4 := h.bk; have h5 := h.k
 unfold rdL enT
 rw [lnT_cut (wd_no _).1 fun n hn => (hi n hn).1]
 simp only [List.tail_cons, List.headD_cons]
 rw [nums_itoa hi]
 simp only [rdW]
 rw [if_neg hk.2, hk.1, if_neg (by omega)]
 unfold enN
 obtain ⟨d, k, t, n⟩ := e
 by_cases c : k = 4
 ·subst c
  have := h4 rfl
  simp at this
  subst this
  simp only [if_pos]
  simp
  exact ⟨Int.max_eq_left h1.1, Int.max_eq_left h2.1⟩
 ·simp only [if_neg c]
  simp [c]
  exact ⟨Int.max_eq_left h1.1, Int.max_eq_left h2.1, Int.max_eq_left h3.1⟩
theorem rd_rcs : ∀ {rs : List Rc} (rs0 : List Rc) (ls : List (List UInt8)), (∀ r ∈ rs, RcNm r) → je ⟨rs0, []⟩ (rs.map rcT ++ ls) = je ⟨rs0 ++ rs, []⟩ ls
 | [], rs0, ls, _ => by simp
 | r :: rs, rs0, ls, h => by
  simp only [List.map_cons, List.cons_append, je]
  rw [rd_rc (h r List.mem_cons_self)]
  simp only
  rw [rd_rcs _ _ fun x hx => h x (List.mem_cons_of_mem _ hx), List.append_assoc]; rfl
theorem rd_ens {rs : List Rc} : ∀ {es : List En} (es0 : List En), (∀ e ∈ es, EnNm e) → je ⟨rs, es0⟩ (es.map enT) = some ⟨rs, es0 ++ es⟩
 | [], es0, _ => by simp [je]
 | e :: es, es0, h => by
  simp only [List.map_cons, je]
  rw [rd_en (h e List.mem_cons_self)]
  simp only
  rw [rd_ens _ fun x hx => h x (List.mem_cons_of_mem _ hx), List.append_assoc]; rfl
structure BoNm (b : Bo) : Prop where
 rs : ∀ r ∈ b.rs, RcNm r
 es : ∀ e ∈ b.es, EnNm e
theorem rd_book {b : Bo} (h : BoNm b) : je bo0 (linesT b) = some b := by
 unfold linesT bo0
 rw [rd_rcs [] _ h.rs, List.nil_append, rd_ens [] h.es]; rfl
theorem lnT_nl {w : List UInt8} (hw : 10 ∉ w) {l : List Int} (hl : ∀ n ∈ l, 0 ≤ n) : 10 ∉ lnT w l := fun h => by
 rcases List.mem_append.1 h with h | h
 ·exact hw h
 ·obtain ⟨x, hx, h⟩ := List.mem_flatten.1 h
  obtain ⟨n, hn, rfl⟩ := List.mem_map.1 hx
  rcases List.mem_cons.1 h with h | h
  ·cases h
  ·rw [itoa_of (hl n hn)] at h; exact dig_no (by decide) _ h
theorem lines_nl {b : Bo} (h : BoNm b) : ∀ l ∈ linesT b, 10 ∉ l := fun l hl => by
 rcases List.mem_append.1 hl with hl | hl
 ·obtain ⟨r, hr, rfl⟩ := List.mem_map.1 hl
  exact lnT_nl (by decide) fun n hn => (rcN_in (h.rs r hr) n hn).1
 ·obtain ⟨e, he, rfl⟩ := List.mem_map.1 hl
  exact lnT_nl (wd_no _).2 fun n hn => (enN_in (h.es e he) n hn).1
theorem cut_nl : ∀ {ls : List (List UInt8)}, (∀ l ∈ ls, 10 ∉ l) → cutAt 10 (nlT ls) = ls ++ [[]]
 | [], _ => rfl
 | l :: ls, h => by
  have e : nlT (l :: ls) = l ++ 10 :: nlT ls := by simp [nlT]
  rw [e, jk _ (h l List.mem_cons_self), cut_nl fun x hx => h x (List.mem_cons_of_mem _ hx)]; rfl
theorem nl_cut {s : List UInt8} (h : (cutAt 10 s).getLastD [] = []) : nlT (cutAt 10 s).dropLast = s := by
 have hf := cutAt_free 10 s
 have hj := cutAt_join 10 s
 obtain ⟨x, xs, hx⟩ := List.exists_cons_of_ne_nil (ja 10 s)
 rw [hx] at h hj ⊢
 clear hx hf
 induction xs generalizing x s with
 | nil => simp [List.getLastD] at h; subst h; simp only [kC] at hj; subst hj; rfl
 | cons y ys ih =>
  simp only [kC] at hj
  have h2 : (y :: ys).getLastD [] = [] := by simpa [List.getLastD] using h
  have := ih y rfl h2
  simp only [List.dropLast_cons_cons]
  simp only [nlT, List.map_cons, List.flatten_cons] at this ⊢
  rw [this, ← hj]; simp
theorem tailOk_tail (s : List UInt8) : jY (tailT s) = true := by
 have := chk_isHx s
 unfold jY
 simp only [Bool.and_eq_true, decide_eq_true_eq]
 exact ⟨⟨rfl, rfl⟩, this⟩
theorem take_tail (s u : List UInt8) (h : u.length = 15) : (s ++ u).take ((s ++ u).length - 15) = s ∧ (s ++ u).drop ((s ++ u).length - 15) = u := by
 rw [List.length_append, h, Nat.add_sub_cancel]
 exact ⟨List.take_left, List.drop_left⟩
theorem load_file {b : Bo} (h : BoNm b) (hb : bkE b = 0) (hl : (fileT b).length ≤ 4000) : loadR (fileT b) = (b, 0) := by
 have ht := take_tail (kw b) (tailT (kw b)) (tailT_len _)
 have h15 : 15 ≤ (fileT b).length := by unfold fileT; rw [List.length_append, tailT_len]; omega
 unfold loadR
 rw [if_neg (by omega), if_neg (by omega)]
 unfold fileT
 rw [ht.1, ht.2, if_neg (by rw [tailOk_tail]; simp)]
 have hc := cut_nl (lines_nl h)
 unfold kw at hc ⊢
 rw [hc, List.dropLast_concat, rd_book h]
 simp only
 rw [if_neg (by rw [List.getLastD_concat]; simp)]
 unfold endR
 rw [if_neg, if_neg (by rw [hb]; simp)]
 exact fun hn => hn rfl
end Go.Bk
set_option linter.unusedSectionVars false
set_option linter.unusedSimpArgs false
set_option linter.unusedVariables false
namespace Go.Lw
open Go.RowKit
section
variable {α β : Type} [DecidableEq α] (f : α → β)
theorem mget_no {a : α} {z : β} : ∀ {M : MM α β}, (∀ e ∈ M, e.1 ≠ a) → qW a z M = z
 | [], _ => rfl
 | e :: M, h => by
  have : ¬ a = e.1 := fun he => h e (by simp) he.symm
  simp only [qW, this, if_false]
  exact mget_no fun e he => h e (List.mem_cons_of_mem _ he)
theorem mdel_eq {a : α} : ∀ {M : MM α β}, (M.map (·.1)).Nodup → mdel a M = M.filter fun e => !decide (e.1 = a)
 | [], _ => rfl
 | e :: M, h => by
  simp only [List.map_cons, List.nodup_cons] at h
  by_cases c : a = e.1
  ·have : ∀ e' ∈ M, (!decide (e'.1 = a)) = true := fun e' he => by
    have : e'.1 ≠ a := fun hc => h.1 (by rw [← c, ← hc]; exact List.mem_map_of_mem he)
    simp [this]
   simp only [mdel, c, if_true, List.filter_cons, decide_true, Bool.not_true, Bool.false_eq_true, if_false]
   rw [← c]
   exact (List.filter_eq_self.2 this).symm
  ·have c' : ¬ e.1 = a := fun h => c h.symm
   simp [mdel, c, c', mdel_eq h.2]
end
def left {α β : Type} (g : α × β × Nat → Bool) (M : MM α β) (seen : Array Nat) : MM α β := M.filter fun e => g e || !seen.contains e.2.2
theorem inj_of {γ δ : Type} (h : γ → δ) : ∀ {l : List γ} {x y : γ}, (l.map h).Nodup → x ∈ l → y ∈ l → h x = h y → x = y
 | b :: l, x, y, hn, hx, hy, e => by
  simp only [List.map_cons, List.nodup_cons] at hn
  rcases List.mem_cons.1 hx with hx' | hx' <;> rcases List.mem_cons.1 hy with hy' | hy'
  ·rw [hx', hy']
  ·exact absurd (by rw [← hx', e]; exact List.mem_map_of_mem hy') hn.1
  ·exact absurd (by rw [← hy', ← e]; exact List.mem_map_of_mem hx') hn.1
  ·exact inj_of h hn.2 hx' hy' e
theorem filter_lt {γ : Type} {p q : γ → Bool} : ∀ {l : List γ} {x : γ}, (∀ y ∈ l, p y = true → q y = true) → x ∈ l → q x = true → p x = false → (l.filter p).length < (l.filter q).length
 | b :: l, x, h, hx, hq, hp => by
  have mono : ∀ l : List γ, (∀ y ∈ l, p y = true → q y = true) → (l.filter p).length ≤ (l.filter q).length := by
   intro l
   induction l with
   | nil => intro _; simp
   | cons b l ih =>
    intro h
    have := ih fun y hy => h y (List.mem_cons_of_mem _ hy)
    by_cases c : p b = true
    ·have d := h b (by simp) c
     simp [List.filter_cons, c, d, this]
    ·simp only [List.filter_cons, c, if_false, Bool.false_eq_true]
     split
     ·simp only [List.length_cons]; omega
     ·exact this
  rcases List.mem_cons.1 hx with rfl | hx
  ·have := mono l fun y hy => h y (List.mem_cons_of_mem _ hy)
   simp only [List.filter_cons, hp, hq, if_true, if_false, Bool.false_eq_true, List.length_cons]; omega
  ·have ih := filter_lt (fun y hy => h y (List.mem_cons_of_mem _ hy)) hx hq hp
   by_cases c : p b = true
   ·have d := h b (by simp) c
    simp only [List.filter_cons, c, d, if_true, List.length_cons]; omega
   ·simp only [List.filter_cons, c, if_false, Bool.false_eq_true]
    split
    ·simp only [List.length_cons]; omega
    ·exact ih
theorem unseen_lt {α β : Type} {M : MM α β} {seen : Array Nat} {e : α × β × Nat} (he : e ∈ M) (hs : e.2.2 ∉ seen) :
  (M.filter fun x => !(seen.push e.2.2).contains x.2.2).length < (M.filter fun x => !seen.contains x.2.2).length := by
 refine filter_lt (x := e) (fun y _ h => ?_) he (by simpa using hs) (by simp)
 simp at h ⊢
 exact h.1
theorem mhas_iff {α β : Type} [DecidableEq α] (a : α) : ∀ (M : MM α β), jL a M = true ↔ ∃ e ∈ M, e.1 = a
 | [] => by simp [jL]
 | e :: M => by
  by_cases c : a = e.1
  ·simp [jL, c]
  ·have c' : ¬ e.1 = a := fun h => c h.symm
   simp [jL, c, c', mhas_iff a M]
section
variable {α β : Type} [DecidableEq α] {P : Program} {kt et : TypeId} {ek : α → Value} {ev' : β → Value} {M : MM α β} {b c : Nat}
theorem fk_isSome (a : α) : ∀ (M : MM α β) (i : Nat), (fk a M i).isSome = jL a M
 | [], _ => rfl
 | e :: M, i => by
  simp only [fk, jL]
  by_cases c : a = e.1
  ·simp [c]
  ·simp only [c, if_false]; exact fk_isSome a M (i + 1)
variable {cx : Cx} {n : Nat} {ks : List (Nat × Value)} {O O' R R' : List Own} {V : View} {ops : Array Oper} {Qn : Act → World → Prop} {t : Tr} {i d : Nat} {T : TypeId} {pos : String} {after : Array Edge} {gd : Option (Nat × Bool)} {x y z : Operand}
end
end Go.Lw
set_option linter.unusedVariables false
set_option linter.unusedSimpArgs false
namespace Go.Lw
open Go.RowKit
section
variable {α β : Type} [DecidableEq α]
theorem mhas_no {a : α} {M : MM α β} (h : ¬ jL a M = true) : fk a M 0 = none := by
 have := fk_isSome a M 0
 cases c : fk a M 0 with
 | none => rfl
 | some p => rw [c] at this; exact absurd this.symm h
theorem mhas_yes {a : α} {M : MM α β} (h : jL a M = true) : ∃ j v, fk a M 0 = some (j, v) := by
 have := fk_isSome a M 0
 rw [h] at this
 obtain ⟨p, hp⟩ := Option.isSome_iff_exists.1 this
 exact ⟨p.1, p.2, hp⟩
theorem fk_at {a : α} : ∀ {M : MM α β} {i j : Nat} {v : β}, fk a M i = some (j, v) → i ≤ j ∧ ∃ e, M[j - i]? = some e ∧ e.1 = a
 | [], _, _, _, h => by cases h
 | e :: M, i, j, v, h => by
  simp only [fk] at h
  split at h
  ·rename_i c
   cases h
   exact ⟨Nat.le_refl _, e, by simp, c.symm⟩
  ·obtain ⟨h1, e', h2, h3⟩ := fk_at h
   refine ⟨by omega, e', ?_, h3⟩
   rw [show j - i = (j - (i + 1)) + 1 by omega]
   simpa using h2
variable {P : Program} {kt et : TypeId} {ek : α → Value} {ev' : β → Value} {M : MM α β} {b c : Nat}
variable {cx : Cx} {n : Nat} {ks : List (Nat × Value)} {O O' R R' : List Own} {V : View} {ops : Array Oper} {Qn : Act → World → Prop} {t : Tr} {i d : Nat} {T : TypeId} {pos : String} {after : Array Edge} {gd : Option (Nat × Bool)} {x y z : Operand}
end
end Go.Lw

set_option linter.unusedVariables false
namespace Go.Lw
open Go.RowKit
section
variable {cx : Cx} {n : Nat} {ks : List (Nat × Value)} {O : List Own} {V : View} {P : Program} {ops : Array Oper} {Qn : Act → World → Prop} {t : Tr} {i d : Nat} {T : TypeId} {pos : String} {after : Array Edge} {gd : Option (Nat × Bool)} {x y : Operand}
theorem AtT.idxZ {X E : TypeId} {len cap s j : Nat} {k : IntKind} {b : Nat} {ag : Bool} (ho : ops[i]? = some ⟨some d, .indexAddr X x y, T, pos, after, gd⟩) (hg : Gd ks ops gd) (hX : P.underlying X = some (.slice E)) (hE : tkB P E = some (ag, s))
  (hx : ev ks x = some (.slice (some ⟨b, 0, none⟩) len cap)) (hy : ev ks y = some (.int k (j : Int))) (h1 : j < len) (hn : d < n)
  (next : AtT cx n ((d, .pointer (some ⟨b, j * s, none⟩)) :: ks) O V P ops Qn t) : AtT cx n ks O V P ops Qn (.q i t) :=
 AtT.idxO ho hg hX hE hx hy (Int.natCast_nonneg j) (Int.ofNat_lt.2 h1) hn (by
  have e : 0 + (j : Int).toNat * s = j * s := by simp
  rw [e]; exact next)
end
end Go.Lw
set_option linter.unusedVariables false
namespace Go.Lw
open Go.RowKit
section
variable {cx : Cx} {n : Nat} {ks : List (Nat × Value)} {O : List Own} {V : View} {P : Program} {ops : Array Oper} {Qn : Act → World → Prop} {t : Tr} {i d : Nat} {T : TypeId} {pos : String} {after : Array Edge} {gd : Option (Nat × Bool)} {x y : Operand} {p q : Int} {X Z : TypeId}
theorem AtT.idxQ {X E : TypeId} {len s : Nat} {k : IntKind} {j : Int} {r : Addr} {ag : Bool} (ho : ops[i]? = some ⟨some d, .indexAddr X x y, T, pos, after, gd⟩) (hg : Gd ks ops gd) (hX : P.underlying X = some (.array len E)) (hE : tkB P E = some (ag, s))
  (hx : ev ks x = some (.pointer (some r))) (hy : ev ks y = some (.int k j)) (h0 : 0 ≤ j) (h1 : j < len) (hn : d < n)
  (next : AtT cx n ((d, .pointer (some (r.add (j.toNat * s)))) :: ks) O V P ops Qn t) : AtT cx n ks O V P ops Qn (.q i t) :=
 .q ho hg rfl hn (fun a w hk hm => by
  simp only [execOp, hk.ev hx, hk.ev hy]
  simp [Instr.indexAt, asIntOf, run_underlying hX, run_sizeOf hE, h0, h1, Instr.sureAddr]) next
theorem AtT.andN {A B : Nat} (ho : ops[i]? = some ⟨some d, .binOp .and X x y Z, T, pos, after, gd⟩) (hg : Gd ks ops gd) (hx : ev ks x = some (.int .i64 p)) (hy : ev ks y = some (.int .i64 q)) (hp : p = (A : Int)) (hq : q = (B : Int)) (hA : A < 9223372036854775808) (hB : B < 9223372036854775808) (hn : d < n)
  (next : AtT cx n ((d, .int .i64 ((A &&& B : Nat) : Int)) :: ks) O V P ops Qn t) : AtT cx n ks O V P ops Qn (.q i t) :=
 .q ho hg rfl hn (fun a w hk _ => by
  subst hp hq
  have hr : Op.intBits .and .i64 (A : Int) (B : Int) = (pure (.int .i64 ((A &&& B : Nat) : Int)) : Sem Value) := by
   show (pure (Value.int .i64 (IntKind.i64.wrap ((BitVec.ofInt 64 (A : Int) &&& BitVec.ofInt 64 (B : Int)).toNat : Int))) : Sem Value) = _
   rw [BitVec.toNat_and, ofInt_u64 A (by omega), ofInt_u64 B (by omega), Go.Lib.wrap_i64_small _ (Nat.lt_of_le_of_lt Nat.and_le_left hA)]
  simp [execOp, hk.ev hx, hk.ev hy, eqGuard_and, binOp_and, hr]) next
end
end Go.Lw
set_option linter.unusedVariables false
namespace Go.Lw
open Go.RowKit
section
variable {cx : Cx} {O R : List Own} {V : View} {w : World}
theorem Mem.blkRow {b cap n : Nat} {e : TypeId} {s : Nat} {cs : Array Value} {xs : List Value} (h : Mem cx (.blk b (.cells cs e (0, 0)) :: O) V w) (hx : xs.length = n * s) (hs : cs.size = cap * s) (ht : cs.toList.take (n * s) = xs) (hn : n ≤ cap) (hc : cap ≤ maxLen) :
  Mem cx (.row (.slice (some ⟨b, 0, none⟩) n cap) e s n xs :: O) V w := by
 obtain ⟨fp, ⟨f, g, rfl, ⟨rfl, hb, hh⟩, hl⟩, h2, h3⟩ := h.own
 exact ⟨h.below, h.le0, h.fresh, h.view, [b] ++ g, ⟨[b], g, rfl, ⟨rfl, hx, .inr ⟨b, cap, cs, rfl, hb, hh, hn, hc, hs, ht⟩⟩, hl⟩, h2, h3⟩
end
section
variable {cx : Cx} {n : Nat} {ks : List (Nat × Value)} {O R : List Own} {V : View} {w : World} {K : Act → World → Prop}
theorem At.blkRow {b m cap : Nat} {e : TypeId} {s : Nat} {xs rest : List Value} (hp : zP (.blk b (LC (xs ++ rest) e)) O R) (hl : (xs ++ rest).length = cap * s) (hx : xs.length = m * s) (h1 : m ≤ cap) (h2 : cap ≤ maxLen)
  (h : At cx n ks (.row (.slice (some ⟨b, 0, none⟩) m cap) e s m xs :: R) V K) : At cx n ks O V K := fun a w hk hmm =>
 h a w hk ((hmm.pick hp).blkRow hx (by simpa using hl) (by rw [← hx]; exact List.take_left) h1 h2)
end
end Go.Lw
namespace Go.Lw
def FncM (P : Program) (cx : Cx) (f : FuncId) (args : List Value) (O : List Own) (V : View) (R : Value → List Own → View → Prop) : Prop :=
 ∀ w, Mem cx O V w → Calls P f args.toArray w fun e w' => ∃ v O' V', e = .returned v ∧ Mem cx O' V' w' ∧ R v O' V'
theorem Mem.ds {cx : Cx} {O : List Own} {V : View} {w : World} (h : Mem cx O V w) (ds : List Deferred) : Mem { cx with ds := ds } O V w := ⟨h.below, h.le0, h.fresh, h.view, h.own⟩
theorem Mem.ds' {cx : Cx} {O : List Own} {V : View} {w : World} {ds : List Deferred} (h : Mem { cx with ds := ds } O V w) : Mem cx O V w := ⟨h.below, h.le0, h.fresh, h.view, h.own⟩
abbrev PostM (cx : Cx) (R : Value → List Own → View → Prop) : Ending → World → Prop := fun e w' => ∃ v O' V', e = .returned v ∧ Mem cx O' V' w' ∧ R v O' V'
theorem fncM_of {P : Program} {cx : Cx} {f : FuncId} {fn : Func} {c : Code} {args : List Value} {O : List Own} {V : View} {R : Value → List Own → View → Prop} {n : Nat} (hf : P.funcs[f]? = some fn) (hb : fn.body = some c) (hn : fn.ntmps = n) (hl : args.length ≤ n)
  (h : At { cx with ds := [] } n (frame args 0) O V (c.wpIn (FW none) 0 P (bodyPost P fn (PostM cx R)))) : FncM P cx f args O V R := fun w hm => by
 refine (calls_FW (ro := none) (n := 0)).1 (callsIn_of_wp hf hb trivial (h _ w ⟨rfl, ?_, fun i v hi => ?_⟩ (hm.ds [])) rfl)
 ·simp [hn]; omega
 ·have := (ku args 0 i v hi).2
  simp only [Nat.sub_zero] at this
  have hlt := (List.getElem?_eq_some_iff.1 this).1
  rw [Array.getElem?_append_left (by simpa using hlt)]
  simpa using this
section
variable {cx : Cx} {n : Nat} {ks : List (Nat × Value)} {O O' R : List Own} {V : View} {P : Program} {fn : Func}
theorem At.retM0 {R : Value → List Own → View → Prop} {e : Exit} (he : e = .normal ∨ e = .ret) (hr : fn.results = #[]) (h : R (.tuple #[]) O V) : At { cx with ds := [] } n ks O V (bodyPost P fn (PostM cx R) e) := fun a w hk hm => by
 rcases he with rfl | rfl <;> exact ⟨hk.defers, _, results_none hr _ _ _, _, O, V, rfl, hm.ds', h⟩
theorem At.kr {R : Value → List Own → View → Prop} {r : ResultVar} {v : Value} (hr : fn.results = #[r]) (h1 : Res P ks O V r v) (h : R v O V) : At { cx with ds := [] } n ks O V (bodyPost P fn (PostM cx R) .ret) := fun a w hk hm =>
 ⟨hk.defers, v, by
  rcases h1.spec hk hm with ⟨t, rfl, e⟩ | ⟨p, T, q, rfl, e, l⟩ <;> simp [results, hr, asAddr, *], _, O, V, rfl, hm.ds', h⟩
end
section
variable {cx : Cx} {n : Nat} {ks : List (Nat × Value)} {O O' : List Own} {V : View} {P : Program} {ops : Array Oper} {Qn : Act → World → Prop} {t : Tr} {i d : Nat} {T : TypeId} {pos : String} {after : Array Edge} {gd : Option (Nat × Bool)}
theorem AtT.jb {f : FuncId} {args : List Operand} {ts : Array TypeId} {vs : List Value} {R : Value → List Own → View → Prop} (ho : ops[i]? = some ⟨some d, .call ⟨.value (.func f), args.toArray, ts⟩, T, pos, after, gd⟩) (hg : Gd ks ops gd) (ha : evs ks args = some vs) (hf : zM P f) (hn : d < n)
  (hp : O.Perm O') (hc : FncM P cx f vs O' V R) (next : ∀ v O2 V2, R v O2 V2 → AtT cx n ((d, v) :: ks) O2 V2 P ops Qn t) : AtT cx n ks O V P ops Qn (.n true i t) :=
 .x ho hg fun a w hk hm => by
  have e : args.toArray.map a.eval = vs.toArray := by rw [← evs_map hk args vs ha]; simp
  have e2 : a.eval (.func f) = .func (.func f) #[] #[] := rfl
  simp only [opW, execOp, resolve, e, e2, Deferred.ofValue, Sem.run_bind, Sem.run_pure, Result.andThen_ok, invoke, Array.empty_append, Array.append_empty]
  rw [hf vs.toArray w]
  refine (hc w (hm.perm hp)).mono fun e w' ⟨v, O2, V2, h1, h2, h3⟩ => ?_
  subst h1
  exact ⟨_, O2, V2, hk.put hn v, h2, fun h => (by cases h), next v O2 V2 h3⟩
end
end Go.Lw
namespace Go.Lw
theorem pt_all : ∀ O : List Own, Pt O O
 | [] => .nil
 | x :: O => .cons .here (pt_all O)
theorem pt_skip {l : List Own} {y : Own} {O : List Own} (h : Pt l O) : Pt l (y :: O) := by
 induction h generalizing y with
 | nil => exact .nil
 | cons hx _ ih => exact .cons (.there hx) ih
theorem Pt.zV {l' l : List Own} (h : Pt l' l := by repeat (first | exact Pt.nil | exact pt_all _ | refine Pt.cons (by repeat (first | exact zP.here | apply zP.there)) ?_ | refine pt_skip ?_)) : Pt l' l := h
end Go.Lw
set_option linter.unusedVariables false
set_option linter.unusedSimpArgs false
namespace Go.Lw
open Go.RowKit
section
variable {α β : Type} [DecidableEq α]
def mput (a : α) (v : β) (M : MM α β) (c : Nat) : MM α β × Nat := if jL a M = true then (mmod a v M, c) else (M ++ [(a, v, c)], c + 1)
variable {P : Program} {kt et : TypeId} {ek : α → Value} {ev' : β → Value} {M : MM α β} {b c : Nat}
variable {cx : Cx} {n : Nat} {ks : List (Nat × Value)} {O O' R R' : List Own} {V : View} {ops : Array Oper} {Qn : Act → World → Prop} {t : Tr} {i d : Nat} {T : TypeId} {pos : String} {after : Array Edge} {gd : Option (Nat × Bool)} {x y z : Operand}
theorem AtT.mapSet {X : TypeId} (ho : ops[i]? = some ⟨none, .mapUpdate X x y z, T, pos, after, gd⟩) (hg : Gd ks ops gd) (K : KeyL P kt ek) (a : α) (vb : β) (hX : P.underlying X = some (.map kt et)) (hx : ev ks x = some (.map (some b))) (hy : ev ks y = some (ek a)) (hz : ev ks z = some (ev' vb)) (hp : Upd (.blk b (qV ek ev' M c)) (.blk b (qV ek ev' (mput a vb M c).1 (mput a vb M c).2)) O O')
  (next : AtT cx n ks O' V P ops Qn t) : AtT cx n ks O V P ops Qn (.n true i t) := by
 by_cases h : jL a M = true
 ·obtain ⟨j, v0, hj⟩ := mhas_yes h
  have e : mput a vb M c = (mmod a vb M, c) := by unfold mput; rw [if_pos h]
  rw [e] at hp
  refine AtT.mapOld (c := c) ho hg K a vb hX hx hy hz hj (fun e he => ?_) hp next
  obtain ⟨_, e', h2, h3⟩ := fk_at hj
  rw [Nat.sub_zero, he] at h2
  cases h2; exact h3
 ·have e : mput a vb M c = (M ++ [(a, vb, c)], c + 1) := by unfold mput; rw [if_neg h]
  rw [e] at hp
  exact AtT.mapNew ho hg K a vb hX hx hy hz (mhas_no h) hp next
theorem AtT.clearMap {X : TypeId} {ts : Array TypeId} (ho : ops[i]? = some ⟨none, .call ⟨.builtin .clear, #[x], ts⟩, T, pos, after, gd⟩) (hg : Gd ks ops gd) (ek : α → Value) (ev' : β → Value) (hts : ts[0]? = some X) (hX : P.underlying X = some (.map kt et)) (hx : ev ks x = some (.map (some b))) (hp : Upd (.blk b (qV ek ev' M c)) (.blk b (qV ek ev' [] c)) O O')
  (next : AtT cx n ks O' V P ops Qn t) : AtT cx n ks O V P ops Qn (.n true i t) :=
 .x ho hg fun a' w hk hm => by
  obtain ⟨R, p1, p2⟩ := hp.perm
  have hm1 := hm.perm p1
  have e0 : (#[x] : Array Operand).map a'.eval = #[.map (some b)] := by simp [hk.ev hx]
  have e1 : (#[Value.map (some b)] : Array Value)[0]? = some (.map (some b)) := rfl
  have hgm := run_getMap (P := P) hm1.blk
  have hsm := run_setMap (P := P) (Obj.map #[] c) hm1.blk
  simp only [opW, execOp, resolve, e0, Sem.run_bind, Sem.run_pure, Result.andThen_ok, invoke, builtin, Builtin.clear_, hts, e1, run_underlying hX, hgm, hsm]
  exact ⟨ks, O', V, hk, Mem.perm (O := .blk b (qV ek ev' [] c) :: R) hm1.put p2.symm, fun h => (by cases h), next⟩
theorem AtT.lenMap {X : TypeId} (ho : ops[i]? = some ⟨some d, .call ⟨.builtin .len, #[x], #[X]⟩, T, pos, after, gd⟩) (hg : Gd ks ops gd) (hX : P.underlying X = some (.map kt et)) (hx : ev ks x = some (.map (some b))) (hp : zP (.blk b (qV ek ev' M c)) O R) (hn : d < n)
  (next : AtT cx n ((d, .int .i64 M.length) :: ks) O V P ops Qn t) : AtT cx n ks O V P ops Qn (.q i t) :=
 .q ho hg rfl hn (fun a w hk hm => by
  have hm1 := hm.pick hp
  have hXX : P.underlying X = some (.map (P.mapKeyOf X) (P.mapElemOf X)) := by simp [Program.mapKeyOf, Program.mapElemOf, hX]
  have := run_len_map (P := P) (w := w) X T b _ c hXX hm1.blk
  simp [execOp, resolve, invoke, builtin, hk.ev hx, this, goInt]) next
end
section
variable {α β : Type} [DecidableEq α]
structure MOk (M : MM α β) (c : Nat) : Prop where
 keys : (M.map (·.1)).Nodup
 borns : (M.map (·.2.2)).Nodup
 lt : ∀ e ∈ M, e.2.2 < c
theorem MOk.nil (c : Nat) : MOk ([] : MM α β) c := ⟨List.nodup_nil, List.nodup_nil, fun e he => by cases he⟩
theorem mmod_keys (a : α) (v : β) : ∀ M : MM α β, (mmod a v M).map (·.1) = M.map (·.1)
 | [] => rfl
 | e :: M => by
  simp only [mmod]
  split
  ·rename_i h; simp [h]
  ·simp [mmod_keys a v M]
theorem mmod_borns (a : α) (v : β) : ∀ M : MM α β, (mmod a v M).map (·.2.2) = M.map (·.2.2)
 | [] => rfl
 | e :: M => by
  simp only [mmod]
  split
  ·rfl
  ·simp [mmod_borns a v M]
theorem mmod_get (a s : α) (v z : β) : ∀ {M : MM α β}, jL a M = true → qW s z (mmod a v M) = if s = a then v else qW s z M
 | [], h => by cases h
 | e :: M, h => by
  simp only [mmod]
  by_cases c : a = e.1
  ·rw [if_pos c]
   simp only [qW]
   by_cases d : s = a
   ·rw [if_pos d, if_pos d]
   ·rw [if_neg d, if_neg d, if_neg (fun h => d (h.trans c.symm))]
  ·rw [if_neg c]
   simp only [jL, if_neg c] at h
   simp only [qW]
   by_cases d : s = e.1
   ·rw [if_pos d, if_pos d, if_neg (fun h => c (h.symm.trans d))]
   ·rw [if_neg d, if_neg d, mmod_get a s v z h]
theorem mhas_keys (a : α) (M : MM α β) : jL a M = true ↔ a ∈ M.map (·.1) := by
 rw [mhas_iff, List.mem_map]
theorem mget_app {a s : α} {v z : β} {c : Nat} : ∀ {M : MM α β}, jL a M ≠ true → qW s z (M ++ [(a, v, c)]) = if s = a then v else qW s z M
 | [], _ => by simp [qW]
 | e :: M, h => by
  have h1 : ¬ a = e.1 := fun hc => h (by simp [jL, hc])
  have h2 : jL a M ≠ true := fun hc => h (by simp [jL, h1, hc])
  simp only [List.cons_append, qW]
  by_cases d : s = e.1
  ·rw [if_pos d, if_pos d, if_neg (fun hc => h1 (hc.symm.trans d))]
  ·rw [if_neg d, if_neg d, mget_app h2]
theorem mput_get (a s : α) (v z : β) (M : MM α β) (c : Nat) : qW s z (mput a v M c).1 = if s = a then v else qW s z M := by
 unfold mput
 split
 ·rename_i h; exact mmod_get a s v z h
 ·rename_i h; exact mget_app h
theorem mput_has (a s : α) (v : β) (M : MM α β) (c : Nat) : jL s (mput a v M c).1 = true ↔ (s = a ∨ jL s M = true) := by
 unfold mput
 split
 ·rename_i h
  rw [mhas_keys, mmod_keys, ← mhas_keys]
  constructor
  ·exact .inr
  ·rintro (rfl | h')
   ·exact h
   ·exact h'
 ·rw [mhas_keys, mhas_keys, List.map_append]
  simp [or_comm]
theorem mput_ok {a : α} {v : β} {M : MM α β} {c : Nat} (h : MOk M c) : MOk (mput a v M c).1 (mput a v M c).2 := by
 unfold mput
 split
 ·refine ⟨by rw [mmod_keys]; exact h.keys, by rw [mmod_borns]; exact h.borns, fun e he => ?_⟩
  have : e.2.2 ∈ (mmod a v M).map (·.2.2) := List.mem_map_of_mem he
  rw [mmod_borns] at this
  obtain ⟨e', h1, h2⟩ := List.mem_map.1 this
  rw [← h2]; exact h.lt e' h1
 ·rename_i hn
  refine ⟨?_, ?_, fun e he => ?_⟩
  ·rw [List.map_append, List.nodup_append]
   refine ⟨h.keys, by simp, fun x hx y hy e => hn ?_⟩
   simp at hy
   rw [mhas_keys, ← hy, ← e]; exact hx
  ·rw [List.map_append, List.nodup_append]
   refine ⟨h.borns, by simp, fun x hx y hy e => ?_⟩
   simp at hy
   obtain ⟨e', h1, h2⟩ := List.mem_map.1 hx
   have := h.lt e' h1
   omega
  ·rcases List.mem_append.1 he with he | he
   ·have := h.lt e he; omega
   ·simp at he; subst he; exact Nat.lt_succ_self c
theorem mdel_sub (a : α) : ∀ M : MM α β, (mdel a M).Sublist M
 | [] => List.Sublist.slnil
 | e :: M => by
  simp only [mdel]
  split
  ·exact List.sublist_cons_self _ _
  ·exact (mdel_sub a M).cons_cons _
theorem mdel_ok {a : α} {M : MM α β} {c : Nat} (h : MOk M c) : MOk (mdel a M) c :=
 ⟨h.keys.sublist ((mdel_sub a M).map _), h.borns.sublist ((mdel_sub a M).map _), fun e he => h.lt e ((mdel_sub a M).subset he)⟩
theorem mdel_has {a s : α} {M : MM α β} (h : (M.map (·.1)).Nodup) : jL s (mdel a M) = true ↔ (s ≠ a ∧ jL s M = true) := by
 rw [mhas_iff, mhas_iff, mdel_eq h]
 constructor
 ·rintro ⟨e, he, rfl⟩
  simp only [List.mem_filter, Bool.not_eq_true', decide_eq_false_iff_not] at he
  exact ⟨he.2, e, he.1, rfl⟩
 ·rintro ⟨hs, e, he, rfl⟩
  exact ⟨e, by simp only [List.mem_filter, Bool.not_eq_true', decide_eq_false_iff_not]; exact ⟨he, hs⟩, rfl⟩
theorem mget_none {a : α} {z : β} {M : MM α β} (h : jL a M ≠ true) : qW a z M = z :=
 mget_no fun e he hc => h ((mhas_iff a M).2 ⟨e, he, hc⟩)
theorem mdel_get {a s : α} {z : β} : ∀ {M : MM α β}, (M.map (·.1)).Nodup → qW s z (mdel a M) = if s = a then z else qW s z M
 | [], _ => by simp [mdel, qW]
 | e :: M, h => by
  simp only [List.map_cons, List.nodup_cons] at h
  simp only [mdel]
  by_cases c : a = e.1
  ·rw [if_pos c]
   by_cases d : s = a
   ·rw [if_pos d]
    exact mget_none fun hc => h.1 (by rw [mhas_keys] at hc; rw [← c, ← d]; exact hc)
   ·rw [if_neg d]; simp only [qW]; rw [if_neg (fun hc => d (hc.trans c.symm))]
  ·rw [if_neg c]
   simp only [qW]
   by_cases d : s = e.1
   ·rw [if_pos d, if_pos d, if_neg (fun hc => c (hc.symm.trans d))]
   ·rw [if_neg d, if_neg d, mdel_get h.2]
end
end Go.Lw
namespace Go.Lw
theorem At.retM2 {cx : Cx} {n : Nat} {ks : List (Nat × Value)} {O : List Own} {V : View} {P : Program} {fn : Func} {R : Value → List Own → View → Prop} {r s : ResultVar} {v u : Value} (hr : fn.results = #[r, s]) (h1 : Res P ks O V r v) (h2 : Res P ks O V s u) (h : R (.tuple #[v, u]) O V) : At { cx with ds := [] } n ks O V (bodyPost P fn (PostM cx R) .ret) := fun a w hk hm =>
 ⟨hk.defers, .tuple #[v, u], by
  rcases h1.spec hk hm with ⟨t, rfl, e⟩ | ⟨p, T, q, rfl, e, l⟩ <;> rcases h2.spec hk hm with ⟨t', rfl, e'⟩ | ⟨p', T', q', rfl, e', l'⟩ <;> simp [results, hr, asAddr, *], _, O, V, rfl, hm.ds', h⟩
end Go.Lw
set_option linter.unusedVariables false
namespace Go.Lw
open Go.Instr Go.RowKit
abbrev sT (l : List UInt8) : Value := .string ⟨l.toArray⟩
abbrev byE (u : UInt8) : List Value := [.int .u8 (u.toNat : Int)]
abbrev stL (l : List UInt8) : List Value := [sT l]
theorem mk_bt (s : ByteArray) : (⟨(bt s).toArray⟩ : ByteArray) = s := bt_ext rfl
theorem sT_inj {a b : List UInt8} : (⟨a.toArray⟩ : ByteArray) = ⟨b.toArray⟩ ↔ a = b := ⟨fun h => congrArg bt h, fun h => by rw [h]⟩
theorem sT_app (a b : List UInt8) : (⟨a.toArray⟩ : ByteArray) ++ ⟨b.toArray⟩ = ⟨(a ++ b).toArray⟩ := bt_ext (by unfold bt; simp)
theorem sT_ext (l : List UInt8) (i j : Nat) : (⟨l.toArray⟩ : ByteArray).extract i j = ⟨((l.take j).drop i).toArray⟩ := bt_ext (by
 unfold bt
 simp only [ByteArray.data_extract, Array.toList_extract, List.extract_eq_take_drop]
 rw [List.drop_take])
section
variable {cx : Cx} {n : Nat} {ks : List (Nat × Value)} {O R : List Own} {V : View} {P : Program} {ops : Array Oper} {Qn : Act → World → Prop} {t : Tr} {i d : Nat} {x y : Operand} {T : TypeId} {pos : String} {after : Array Edge} {gd : Option (Nat × Bool)} {X Y : TypeId} {wr : Bool}
theorem AtT.ixT {l : List UInt8} {k : IntKind} {j : Int} (ho : ops[i]? = some ⟨some d, .index X x y, T, pos, after, gd⟩) (hg : Gd ks ops gd) (hX : P.underlying X = some .string) (hx : ev ks x = some (sT l)) (hy : ev ks y = some (.int k j)) (h0 : 0 ≤ j) (h1 : j < l.length) (hn : d < n)
  (next : AtT cx n ((d, .int .u8 ((l.getD j.toNat 0).toNat : Int)) :: ks) O V P ops Qn t) : AtT cx n ks O V P ops Qn (.q i t) :=
 AtT.ixS ho hg hX hx hy h0 h1 hn next
theorem AtT.qR {l : List UInt8} (ho : ops[i]? = some ⟨some d, .call ⟨.builtin .len, #[x], #[X]⟩, T, pos, after, gd⟩) (hg : Gd ks ops gd) (hX : P.underlying X = some .string) (hx : ev ks x = some (sT l)) (hn : d < n)
  (next : AtT cx n ((d, .int .i64 l.length) :: ks) O V P ops Qn t) : AtT cx n ks O V P ops Qn (.q i t) :=
 AtT.lenStr ho hg hX hx hn next
theorem AtT.eqT {a b : List UInt8} (ho : ops[i]? = some ⟨some d, .binOp .eql X x y Y, T, pos, after, gd⟩) (hg : Gd ks ops gd) (hx : ev ks x = some (sT a)) (hy : ev ks y = some (sT b)) (hn : d < n)
  (next : AtT cx n ((d, .bool (decide (a = b))) :: ks) O V P ops Qn t) : AtT cx n ks O V P ops Qn (.q i t) :=
 AtT.eqStr ho hg hx hy hn (by rw [show decide ((⟨a.toArray⟩ : ByteArray) = ⟨b.toArray⟩) = decide (a = b) from decide_eq_decide.2 sT_inj]; exact next)
theorem AtT.neT {a b : List UInt8} (ho : ops[i]? = some ⟨some d, .binOp .neq X x y Y, T, pos, after, gd⟩) (hg : Gd ks ops gd) (hx : ev ks x = some (sT a)) (hy : ev ks y = some (sT b)) (hn : d < n)
  (next : AtT cx n ((d, .bool (decide (a ≠ b))) :: ks) O V P ops Qn t) : AtT cx n ks O V P ops Qn (.q i t) :=
 AtT.neStr ho hg hx hy hn (by rw [show decide ((⟨a.toArray⟩ : ByteArray) ≠ ⟨b.toArray⟩) = decide (a ≠ b) from decide_eq_decide.2 (not_congr sT_inj)]; exact next)
theorem AtT.catT {a b : List UInt8} (ho : ops[i]? = some ⟨some d, .binOp .add X x y Y, T, pos, after, gd⟩) (hg : Gd ks ops gd) (hx : ev ks x = some (sT a)) (hy : ev ks y = some (sT b)) (hl : (a.length : Int) + b.length ≤ 9223372036854775807) (hn : d < n)
  (next : AtT cx n ((d, sT (a ++ b)) :: ks) O V P ops Qn t) : AtT cx n ks O V P ops Qn (.q i t) :=
 AtT.catS ho hg hx hy hl hn (by rw [sT_app]; exact next)
theorem AtT.subT {l : List UInt8} {k k2 : IntKind} {lo hi : Int} {lo' hi' : Operand} (ho : ops[i]? = some ⟨some d, .slice X x (some lo') (some hi') none, T, pos, after, gd⟩) (hg : Gd ks ops gd) (hX : P.underlying X = some .string) (hx : ev ks x = some (sT l)) (hlo : ev ks lo' = some (.int k lo)) (hhi : ev ks hi' = some (.int k2 hi)) (h0 : 0 ≤ lo) (h1 : lo ≤ hi) (h2 : hi ≤ l.length) (hn : d < n)
  (next : AtT cx n ((d, sT ((l.take hi.toNat).drop lo.toNat)) :: ks) O V P ops Qn t) : AtT cx n ks O V P ops Qn (.q i t) :=
 AtT.subB ho hg hX hx hlo hhi h0 h1 h2 hn (by rw [sT_ext]; exact next)
theorem AtT.subLT {l : List UInt8} {k : IntKind} {lo : Int} {lo' : Operand} (ho : ops[i]? = some ⟨some d, .slice X x (some lo') none none, T, pos, after, gd⟩) (hg : Gd ks ops gd) (hX : P.underlying X = some .string) (hx : ev ks x = some (sT l)) (hlo : ev ks lo' = some (.int k lo)) (h0 : 0 ≤ lo) (h1 : lo ≤ l.length) (hn : d < n)
  (next : AtT cx n ((d, sT (l.drop lo.toNat)) :: ks) O V P ops Qn t) : AtT cx n ks O V P ops Qn (.q i t) :=
 AtT.subL ho hg hX hx hlo h0 h1 hn (by rw [sT_ext, show (⟨l.toArray⟩ : ByteArray).size = l.length from rfl, List.take_length]; exact next)
theorem AtT.subHT {l : List UInt8} {k : IntKind} {hi : Int} {hi' : Operand} (ho : ops[i]? = some ⟨some d, .slice X x none (some hi') none, T, pos, after, gd⟩) (hg : Gd ks ops gd) (hX : P.underlying X = some .string) (hx : ev ks x = some (sT l)) (hhi : ev ks hi' = some (.int k hi)) (h0 : 0 ≤ hi) (h1 : hi ≤ l.length) (hn : d < n)
  (next : AtT cx n ((d, sT (l.take hi.toNat)) :: ks) O V P ops Qn t) : AtT cx n ks O V P ops Qn (.q i t) :=
 AtT.subH ho hg hX hx hhi h0 h1 hn (by rw [sT_ext, List.drop_zero]; exact next)
theorem AtT.bytesT {l : List UInt8} {E : TypeId} (ho : ops[i]? = some ⟨some d, .convert Y X x, T, pos, after, gd⟩) (hg : Gd ks ops gd) (hY : P.underlying Y = some .string) (hX : P.underlying X = some (.slice E)) (hE : P.underlying E = some (.int .u8)) (hx : ev ks x = some (sT l)) (hl : l.length ≤ 4611686018427387904) (hn : d < n)
  (next : ∀ a c V', Le V V' → Sl V' byE 1 (.slice a l.length c) l → AtT cx n ((d, .slice a l.length c) :: ks) O V' P ops Qn t) : AtT cx n ks O V P ops Qn (.n wr i t) :=
 .x ho hg fun a w hk hm => by
  have hr := run_bytes_of_string (P := P) w Y X E ⟨l.toArray⟩ hY hX hE
  simp only [opW, execOp, hk.ev hx, hr, Sem.run_bind, Result.andThen_ok, Sem.run_pure]
  have hm1 : Mem cx O V w.drew := hm.ext (Below.refl _ _).drew
  obtain ⟨V', h1, h2, h3⟩ := hm1.allocV (.cells (bytesRow ⟨l.toArray⟩ (grownCap w l.length 0 E)) E ((bytesRow ⟨l.toArray⟩ (grownCap w l.length 0 E)).size, (bytesRow ⟨l.toArray⟩ (grownCap w l.length 0 E)).size + 1))
  refine ⟨_, O, V', hk.put hn _, h3, fun _ u hu => hu.less hm.le0 h1, next _ _ V' h1 ⟨_, _, rfl, grownCap_ge _ _ _ _, grownCap_le_maxLen _ _ _ _ (by show l.length ≤ maxLen; unfold maxLen; omega), fun _ => rfl, fun p hp i x hi => ?_⟩⟩
  cases hp
  intro j u hj
  have hi' : i < (⟨l.toArray⟩ : ByteArray).data.size := (List.getElem?_eq_some_iff.1 hi).1
  have hj0 : j = 0 := by
   cases j with
   | zero => rfl
   | succ j => simp at hj
  subst hj0
  simp only [List.getElem?_cons_zero, Option.some.injEq] at hj
  subst hj
  have hb := bytesRow_at ⟨l.toArray⟩ (grownCap w l.length 0 E) i hi'
  have hx : (⟨l.toArray⟩ : ByteArray).data[i] = x := (List.getElem?_eq_some_iff.1 hi).2
  rw [hx] at hb
  have h2' : V' w.heap.size = _ := h2
  simp only [Nat.mul_one, Addr.add_lit, Nat.zero_add, Nat.add_zero, jO, h2']
  exact hb
end
end Go.Lw
set_option linter.unusedVariables false
namespace Go.Proofs.YtpoignmclfdgpaaGreatDoor
open Go.Lw Go.Gl Go.Bk Go.RowKit Go.Shelf
theorem fnc_of {f : FuncId} {args : List Value} {V : View} {v : Value} (h : ∀ w, Le V (hp w) → Calls Tryz.prog f args.toArray w fun e w' => e = .returned v ∧ Below w.heap.size w w') : Fnc Tryz.prog f args V fun r _ => r = v := fun w hw =>
 (h w hw).mono fun e w' ⟨h1, h2⟩ => ⟨v, V, h1, h2, Le.refl _, hw.trans (Below.le h2), fun k o hk => .inl hk, rfl⟩
theorem fnc_ofP {f : FuncId} {args : List Value} {V : View} {R : Value → Prop} (h : ∀ w, Le V (hp w) → Calls Tryz.prog f args.toArray w fun e w' => (∃ v, e = .returned v ∧ R v) ∧ Below w.heap.size w w') : Fnc Tryz.prog f args V fun r _ => R r := fun w hw =>
 (h w hw).mono fun e w' ⟨⟨v, h1, h3⟩, h2⟩ => ⟨v, V, h1, h2, Le.refl _, hw.trans (Below.le h2), fun k o hk => .inl hk, h3⟩
theorem fnc_new {f : FuncId} {args : List Value} {V : View} {o : Obj} {R : Value → View → Prop} {v : World → Value} (h : ∀ w, Le V (hp w) → Calls Tryz.prog f args.toArray w fun e w' => e = .returned (v w) ∧ w' = w.alloc o) (hR : ∀ w V', V' w.heap.size = some o → R (v w) V') : Fnc Tryz.prog f args V R := fun w hw =>
 (h w hw).mono fun e w' ⟨h1, h2⟩ => by
  subst h2
  have hb : Below w.heap.size w (w.alloc o) := (Below.refl _ _).alloc (Nat.le_refl _) o
  refine ⟨v w, fun k => if k = w.heap.size then some o else V k, h1, hb, fun k x hk => ?_, fun k x hk => ?_, fun k x hk => ?_, hR w _ (if_pos rfl)⟩
  ·have : k ≠ w.heap.size := fun e => by have := hw.lt hk; omega
   show (if k = w.heap.size then some o else V k) = some x
   rw [if_neg this]; exact hk
  ·dsimp only at hk
   by_cases c : k = w.heap.size
   ·rw [if_pos c] at hk
    cases hk
    subst c
    exact heap_alloc_new w o
   ·rw [if_neg c] at hk
    exact Below.le hb k x (hw k x hk)
  ·dsimp only at hk
   by_cases c : k = w.heap.size
   ·exact .inr (by omega)
   ·rw [if_neg c] at hk; exact .inl hk
structure GvV (V : View) : Prop where
 pow : ∃ t d, V 0 = some (.cells (Lib.pow10Tab.map fun z => Value.int .u64 z).toArray t d)
 bru : ∃ t d, V 7 = some (.cells (Lib.deBruijn64tab.map fun z : Nat => Value.int .u8 z).toArray t d)
 syn : ∃ te pe, jO V ⟨4, 0, none⟩ = some (.iface te pe)
 rng : ∃ te pe, jO V ⟨5, 0, none⟩ = some (.iface te pe)
theorem GvV.le {V V' : View} (h : GvV V) (hl : Le V V') : GvV V' := by
 obtain ⟨⟨a, b, h1⟩, ⟨c, d, h2⟩, ⟨e, f, h3⟩, ⟨g, i, h4⟩⟩ := h
 exact ⟨⟨a, b, hl _ _ h1⟩, ⟨c, d, hl _ _ h2⟩, ⟨e, f, vcell_le hl h3⟩, ⟨g, i, vcell_le hl h4⟩⟩
theorem pow_tab {V : View} {w : World} (h : GvV V) (hw : Le V (hp w)) : Lib.TabIs Tryz.prog w "internal/strconv.uint64pow10" .u64 Lib.pow10Tab := by
 obtain ⟨t, d, h1⟩ := h.pow
 have h2 : w.heap[0]? = _ := hw _ _ h1
 have h3 : Tryz.prog.globalNamed "internal/strconv.uint64pow10" = some 0 := by kernel_rfl
 unfold Lib.TabIs World.var?
 rw [h3]
 simp only [Option.bind_some, h2]
theorem fmt10_f (n : Int) (h0 : -9223372036854775808 ≤ n) (h1 : n ≤ 9223372036854775807) (V : View) (hg : GvV V) : Fnc Tryz.prog 101 [iv n, iv 10] V fun r _ => r = sT (Lib.itoa n) :=
 fnc_of fun w hw => (Any.strconv_FormatInt_10 lay_fmtInt n h0 h1 w (pow_tab hg hw)).mono fun e w' ⟨h1, k, os, h2⟩ => ⟨h1, h2 ▸ Lib.below_grow _ _ (Nat.le_refl _) k os⟩
theorem hasPrefix_f (s p : List UInt8) (V : View) : Fnc Tryz.prog 78 [sT s, sT p] V fun r _ => r = .bool (p.isPrefixOf s) :=
 fnc_of fun w hw => (Any.strings_HasPrefix lay_hasPrefix ⟨s.toArray⟩ ⟨p.toArray⟩ w).mono fun e w' ⟨h1, h2⟩ => ⟨h1, h2 ▸ Below.refl _ _⟩
theorem trimSuffix_f (s p : List UInt8) (hs : s.length ≤ 9223372036854775807) (V : View) : Fnc Tryz.prog 81 [sT s, sT p] V fun r _ => r = sT (Lib.trimSuffix s p) :=
 fnc_of fun w hw => (Any.strings_TrimSuffix lay_trimSuffix ⟨s.toArray⟩ ⟨p.toArray⟩ w hs).mono fun e w' ⟨h1, h2⟩ => ⟨h1, h2 ▸ Below.refl _ _⟩
theorem trim_f (s : List UInt8) (hs : s.length ≤ 9223372036854775807) (V : View) : Fnc Tryz.prog 79 [sT s, sT [48, 49, 50, 51, 52, 53, 54, 55, 56, 57, 97, 98, 99, 100, 101, 102]] V fun r _ => r = sT (Lib.trimS s [48, 49, 50, 51, 52, 53, 54, 55, 56, 57, 97, 98, 99, 100, 101, 102]) :=
 fnc_of fun w hw => Any.strings_Trim_laid lay_trim (by kernel_rfl) ⟨s.toArray⟩ ⟨#[48, 49, 50, 51, 52, 53, 54, 55, 56, 57, 97, 98, 99, 100, 101, 102]⟩ w hs (by decide) (ascii_of_all (by decide))
theorem repeat_f (s : List UInt8) (c : Nat) (hc : s.length * c ≤ 140737488355328) (h : c ≤ 9223372036854775807) (V : View) : Fnc Tryz.prog 120 [sT s, iv c] V fun r _ => r = sT (Lib.repeatL s c) :=
 fnc_of fun w hw => Any.strings_Repeat lay_repeat bstr_ren_ext ⟨s.toArray⟩ c w h hc
def PuR (s : List UInt8) (r : Value) : Prop := ∃ (u : Nat) (x : Value), r = .tuple #[.int .u64 u, x] ∧ u < 4294967296 ∧ ((Lib.parseUintB 32 s = .ok u ∧ x = .nilIface) ∨ ((∀ v, Lib.parseUintB 32 s ≠ .ok v) ∧ ∃ t p, x = .iface t p))
theorem parse32_f (s : List UInt8) (hs : s.length ≤ 281474976710656) (V : View) (hg : GvV V) : Fnc Tryz.prog 130 [sT s, iv 10, iv 32] V fun r _ => PuR s r := by
 refine fnc_ofP fun w hw => ?_
 have hle : ∀ u, Lib.parseUintB 32 s = .ok u → u < 4294967296 := fun u h => by
  have := Lib.parseUintB_le h
  have e : (2 : Nat) ^ 32 - 1 = 4294967295 := by decide
  omega
 have cell : ∀ {p : Addr} {v : Value}, jO V p = some v → w.cell? p = some v := fun h => by
  have := vcell_le hw h
  rwa [vcell_hp] at this
 cases h : Lib.parseUintB 32 s with
 | ok u =>
  refine (Any.strconv_ParseUint_10_at32_ok lay_parseUint ⟨s.toArray⟩ (by show s.length ≤ _; omega) u h w).mono fun e w' ⟨h1, h2⟩ => ⟨⟨_, h1, u, _, rfl, hle u h, .inl ⟨h, rfl⟩⟩, ?_⟩
  rcases h2 with rfl | rfl
  ·exact Below.refl _ _
  ·exact Joins.below_bytesWorld _ _ _ _ (Nat.le_refl _)
 | range =>
  obtain ⟨te, pe, hc⟩ := hg.rng
  exact (Any.strconv_ParseUint_10_at32_range lay_parseUint ⟨s.toArray⟩ hs h _ w (cell hc) (.inr ⟨te, pe, rfl⟩)).mono fun e w' ⟨N, h1, _, _, h2⟩ => ⟨⟨_, h1, 4294967295, _, rfl, by decide, .inr ⟨fun v hv => (by rw [h] at hv; cases hv), _, _, rfl⟩⟩, h2⟩
 | _ =>
  obtain ⟨te, pe, hc⟩ := hg.syn
  exact (Any.strconv_ParseUint_10_at32_syntax lay_parseUint ⟨s.toArray⟩ hs h _ w (cell hc) (.inr ⟨te, pe, rfl⟩)).mono fun e w' ⟨N, h1, _, _, h2⟩ => ⟨⟨_, h1, 0, _, rfl, by decide, .inr ⟨fun v hv => (by rw [h] at hv; cases hv), _, _, rfl⟩⟩, h2⟩
theorem byte_no {c : UInt8} : ∀ {s : List UInt8}, c ∉ s → Lib.indexByte s c = -1
 | [], _ => rfl
 | b :: s, h => by
  have h1 : b ≠ c := fun e => h (by rw [e]; exact List.mem_cons_self)
  have h2 := byte_no (s := s) fun hm => h (List.mem_cons_of_mem _ hm)
  simp [Lib.indexByte, h1, h2]
theorem byte_app {c : UInt8} (v : List UInt8) : ∀ {u : List UInt8}, c ∉ u → Lib.indexByte (u ++ c :: v) c = u.length
 | [], _ => by simp [Lib.indexByte]
 | b :: u, h => by
  have h1 : b ≠ c := fun e => h (by rw [e]; exact List.mem_cons_self)
  have h2 := byte_app v (u := u) fun hm => h (List.mem_cons_of_mem _ hm)
  have h3 : ¬ ((u.length : Int) = -1) := by omega
  simp [Lib.indexByte, h1, h2, h3]
theorem byte_ix (c : UInt8) (s : List UInt8) : Lib.indexByte s c = Lib.index s [c] := by
 rcases first_of c s with h | ⟨u, v, rfl, h⟩
 ·rw [byte_no h, index_no h]
 ·rw [byte_app v h, index_app h]
theorem genSplit_f (s : List UInt8) (c : UInt8) (sv : Nat) (hsv : sv ≤ 1) (hs : s.length < 4294967281) (V : View) : Fnc Tryz.prog 102 [sT s, sT [c], iv sv, iv (-1)] V fun r V' => Sl V' stL 1 r (Lib.splitK [c] sv (Lib.count s [c]) s) := by
 have hc0 : Lib.countB ⟨s.toArray⟩ ⟨#[c]⟩ = Lib.count s [c] := rfl
 have hlen : (Lib.splitB ⟨#[c]⟩ sv (Lib.count s [c]) ⟨s.toArray⟩).length = Lib.count s [c] + 1 := Lib.splitB_all ⟨#[c]⟩ (Nat.le_refl 1) sv _ ⟨s.toArray⟩ rfl
 have hd := Lib.splitB_data ⟨#[c]⟩ sv (Lib.count s [c]) ⟨s.toArray⟩
 have hle : Lib.count s [c] ≤ s.length := by
  have h := Lib.countB_le ⟨#[c]⟩ (Nat.le_refl 1) s.length ⟨s.toArray⟩ (Nat.le_refl _)
  exact h
 have hK : (Lib.splitK [c] sv (Lib.count s [c]) s).length = Lib.count s [c] + 1 := by
  have := congrArg List.length hd
  rw [List.length_map, hlen] at this
  exact this.symm
 refine fnc_new (o := .cells (Lib.cellsOf (Lib.splitB ⟨#[c]⟩ sv (Lib.count s [c]) ⟨s.toArray⟩) (Lib.count s [c] + 1)) 9) (v := fun w => .slice (some ⟨w.heap.size, 0, none⟩) (Lib.count s [c] + 1) (Lib.count s [c] + 1)) (fun w hw => ?_) (fun w V' hV => ?_)
 ·refine (Any.strings_genSplit_core lay_genSplit (by kernel_rfl) ⟨s.toArray⟩ ⟨#[c]⟩ sv (-1) (Lib.count s [c] + 1) w hs (Nat.le_refl 1) hsv (fun x cc hx => ?_) ?_ (by decide) (by decide) ?_).mono fun e w' ⟨h1, h2⟩ => ?_
  ·exact (Any.strings_Index_one { lay_genSplit with } x c _).mono fun e w' ⟨h1, h2⟩ => ⟨by rw [h1, byte_ix], h2⟩
  ·exact (Any.strings_Count_one { lay_genSplit with } ⟨s.toArray⟩ c w).mono fun e w' ⟨h1, h2⟩ => ⟨by rw [h1, hc0, Lib.count_one]; rfl, h2⟩
  ·rw [if_pos (by decide), hc0]
   show ((Lib.count s [c] + 1 : Nat) : Int) = min ((Lib.count s [c] : Int) + 1) ((s.length : Int) + 1)
   omega
  ·rw [Nat.add_sub_cancel, hlen] at h1
   rw [Nat.add_sub_cancel] at h2
   exact ⟨h1, h2⟩
 ·refine ⟨_, _, by rw [hK], by rw [hK]; exact Nat.le_refl _, by unfold maxLen; omega, fun _ => rfl, fun p hp i x hi => ?_⟩
  cases hp
  rw [← hd, List.getElem?_map] at hi
  obtain ⟨b, hb, rfl⟩ := Option.map_eq_some_iff.1 hi
  intro j u hj
  have hj0 : j = 0 := by
   cases j with
   | zero => rfl
   | succ j => simp at hj
  subst hj0
  simp only [List.getElem?_cons_zero, Option.some.injEq] at hj
  subst hj
  simp only [Nat.mul_one, Addr.add_lit, Nat.zero_add, Nat.add_zero, jO, hV]
  rw [← hlen, Lib.cellsOf_full]
  simp only [Option.isSome_none, Bool.false_eq_true, if_false, List.getElem?_toArray, List.getElem?_map, hb, Option.map_some]
end Go.Proofs.YtpoignmclfdgpaaGreatDoor
set_option linter.unusedVariables false
set_option maxRecDepth 100000
namespace Go.Proofs.YtpoignmclfdgpaaGreatDoor
open Go.Lw Go.Gl Go.Bk Go.RowKit Go.ChangeShapes Go.WideShapes Go.ChangeAt Go.Joins Go.Deep
theorem own : ownKnob Tryz.prog.godebug = none := by kernel_rfl
def seatLaid : List (String × DataW Unit) := [("math/bits.deBruijn32tab", Rows.laid_math_bits_deBruijn32tab), ("math/bits.deBruijn64tab", Rows.laid_math_bits_deBruijn64tab), ("internal/strconv.uint64pow10", Rows.laid_internal_strconv_uint64pow10), ("unicode/utf8.acceptRanges", Rows.laid_unicode_utf8_acceptRanges), ("strconv.ErrRange", Rows.laid_strconv_ErrRange), ("strconv.ErrSyntax", Rows.laid_strconv_ErrSyntax), ("unicode/utf8.first", Rows.laid_unicode_utf8_first)]
theorem seat_plain (w : World) : laidMetH Tryz.prog seatLaid w = laidMet Tryz.prog seatLaid w := MakeChecks.laidMetH_plain _ _ _ (by kernel_rfl)
theorem seat_laid (os : Os) (args : Array Value) : laidMetH Tryz.prog seatLaid ((World.laidAll Tryz.prog os seatLaid).forCall (fun _ _ => 0) ⟨#[], args, []⟩).memory := by
 rw [seat_plain]
 exact laidMet_laidAll _ (by kernel_rfl) (by kernel_rfl)
theorem laidOut : laidOutB Tryz.prog = true := by kernel_rfl
theorem lcells22 : Tryz.prog.cellsOf 22 = 1 := by kernel_rfl
theorem lcells24 : Tryz.prog.cellsOf 24 = 1 := by kernel_rfl
theorem lcells26 : Tryz.prog.cellsOf 26 = 2 := by kernel_rfl
theorem lcells36 : Tryz.prog.cellsOf 36 = 4 := by kernel_rfl
theorem lcells66 : Tryz.prog.cellsOf 66 = 1 := by kernel_rfl
theorem lcells69 : Tryz.prog.cellsOf 69 = 2 := by kernel_rfl
theorem lcells80 : Tryz.prog.cellsOf 80 = 2 := by kernel_rfl
theorem lcells2 : Tryz.prog.cellsOf 2 = 1 := by kernel_rfl
theorem lcells3 : Tryz.prog.cellsOf 3 = 1 := by kernel_rfl
theorem pow_lits : (Rows.laid_internal_strconv_uint64pow10 : DataW Unit) = .agg (Lib.pow10Tab.map fun z => .lit (.int .u64 z)) := rfl
theorem bru_lits : (Rows.laid_math_bits_deBruijn64tab : DataW Unit) = .agg ((Lib.deBruijn64tab.map fun z : Nat => (z : Int)).map fun z => .lit (.int .u8 z)) := rfl
theorem gv_of {W : World} (h : laidMetH Tryz.prog seatLaid W) : GvV (hp W) := by
 rw [seat_plain] at h
 obtain ⟨ps, hL, _, _⟩ := h
 refine ⟨?_, ?_, ?_, ?_⟩
 ·obtain ⟨g, t, cs, fuel, p, e1, e2, e3, e4⟩ := laidVars_at hL (n := "internal/strconv.uint64pow10") (d := Rows.laid_internal_strconv_uint64pow10) (by repeat (first | exact List.Mem.head _ | apply List.Mem.tail))
  obtain rfl : 0 = g := Option.some.inj ((show Tryz.prog.globalNamed "internal/strconv.uint64pow10" = some 0 by kernel_rfl).symm.trans e1)
  obtain rfl : 198 = t := Option.some.inj ((show (Tryz.prog.globals[0]?).map (·.type) = some 198 by kernel_rfl).symm.trans e2)
  obtain ⟨t, d, hc⟩ := var_cells e1 e3
  rw [pow_lits] at e4
  have hz := tab_of (n := 20) Tryz.underlying198 Tryz.underlying174 (by kernel_rfl) (by kernel_rfl) (by decide) e4
  exact ⟨t, d, by rw [← hz]; exact hc⟩
 ·obtain ⟨g, t, cs, fuel, p, e1, e2, e3, e4⟩ := laidVars_at hL (n := "math/bits.deBruijn64tab") (d := Rows.laid_math_bits_deBruijn64tab) (by repeat (first | exact List.Mem.head _ | apply List.Mem.tail))
  obtain rfl : 7 = g := Option.some.inj ((show Tryz.prog.globalNamed "math/bits.deBruijn64tab" = some 7 by kernel_rfl).symm.trans e1)
  obtain rfl : 218 = t := Option.some.inj ((show (Tryz.prog.globals[7]?).map (·.type) = some 218 by kernel_rfl).symm.trans e2)
  obtain ⟨t, d, hc⟩ := var_cells e1 e3
  rw [bru_lits] at e4
  have hz := tab_of (n := 64) Tryz.underlying218 Tryz.underlying5 (by kernel_rfl) (by kernel_rfl) (by decide) e4
  rw [List.map_map] at hz
  have hz' : cs.toList = Lib.deBruijn64tab.map fun z : Nat => Value.int .u8 z := hz
  exact ⟨t, d, by rw [← hz']; exact hc⟩
 ·obtain ⟨g, t, cs, fuel, p, e1, e2, e3, e4⟩ := laidVars_at hL (n := "strconv.ErrSyntax") (d := Rows.laid_strconv_ErrSyntax) (by repeat (first | exact List.Mem.head _ | apply List.Mem.tail))
  obtain rfl : 4 = g := Option.some.inj ((show Tryz.prog.globalNamed "strconv.ErrSyntax" = some 4 by kernel_rfl).symm.trans e1)
  obtain rfl : 116 = t := Option.some.inj ((show (Tryz.prog.globals[4]?).map (·.type) = some 116 by kernel_rfl).symm.trans e2)
  obtain ⟨t, d, hc⟩ := var_cells e1 e3
  obtain ⟨_, u, v, hcs, _, _⟩ := iface_of_trod Tryz.underlying116 e4
  refine ⟨u, v, ?_⟩
  have hc' : hp W 4 = some (.cells cs t d) := hc
  simp only [jO, hc']
  rw [← Array.getElem?_toList, hcs]; rfl
 ·obtain ⟨g, t, cs, fuel, p, e1, e2, e3, e4⟩ := laidVars_at hL (n := "strconv.ErrRange") (d := Rows.laid_strconv_ErrRange) (by repeat (first | exact List.Mem.head _ | apply List.Mem.tail))
  obtain rfl : 5 = g := Option.some.inj ((show Tryz.prog.globalNamed "strconv.ErrRange" = some 5 by kernel_rfl).symm.trans e1)
  obtain rfl : 116 = t := Option.some.inj ((show (Tryz.prog.globals[5]?).map (·.type) = some 116 by kernel_rfl).symm.trans e2)
  obtain ⟨t, d, hc⟩ := var_cells e1 e3
  obtain ⟨_, u, v, hcs, _, _⟩ := iface_of_trod Tryz.underlying116 e4
  refine ⟨u, v, ?_⟩
  have hc' : hp W 5 = some (.cells cs t d) := hc
  simp only [jO, hc']
  rw [← Array.getElem?_toList, hcs]; rfl
section
variable {H : Type} {enc : TypeId × Value → H} {W : World} {base b0 : Nat} {spare : Nat → Bool} {held : Bool} {v : Value} {d : DataW H} {p : List MemPlace} {r : Reach}
theorem part_cells {fuel : Nat} {c0 c1 : Value} {x : DataW H × List MemPlace} (h : DataW.trod enc Tryz.prog W base spare held fuel 69 [c0, c1] = some x) : ∃ q : Pt, [c0, c1] = pte q := by
 obtain ⟨y0, y1, n, _, _, h0, h1⟩ := trod_struct2 Tryz.underlying69 h
 dsimp only at h0 h1
 have h0' : DataW.trod enc Tryz.prog W base spare held n 3 [c0] = some y0 := by rw [lcells3] at h0; exact h0
 have h1' : DataW.trod enc Tryz.prog W base spare held n 2 [c1] = some y1 := by rw [lcells2] at h1; exact h1
 obtain ⟨x0, k0, _⟩ := el_int (k := .i64) Tryz.underlying3 h0'
 obtain ⟨x1, k1, _⟩ := el_int (k := .i64) Tryz.underlying2 h1'
 refine ⟨⟨x0, x1⟩, ?_⟩
 simp only [List.cons.injEq, and_true] at k0 k1
 rw [k0, k1]
theorem rec_cells {fuel : Nat} {c0 c1 : Value} {x : DataW H × List MemPlace} (h : DataW.trod enc Tryz.prog W base spare held fuel 80 [c0, c1] = some x) : ∃ q : RcQ, [c0, c1] = rce q ∧ Sl (hp W) pte 2 (.slice q.2.1 q.1.ps.length q.2.2) q.1.ps := by
 obtain ⟨y0, y1, n, _, _, h0, h1⟩ := trod_struct2 Tryz.underlying80 h
 dsimp only at h0 h1
 have h0' : DataW.trod enc Tryz.prog W base spare held n 3 [c0] = some y0 := by rw [lcells3] at h0; exact h0
 have h1' : DataW.trod enc Tryz.prog W base spare held n 66 [c1] = some y1 := by rw [lcells66] at h1; exact h1
 obtain ⟨x0, k0, _⟩ := el_int (k := .i64) Tryz.underlying3 h0'
 obtain ⟨ps, a, cap, k1, hs⟩ := sl_of (en := pte) (s := 2) Tryz.underlying66 lcells69 (fun _ cs _ h hl => by match cs, hl with | [c0, c1], _ => exact part_cells h) h1'
 refine ⟨(⟨x0, ps⟩, a, cap), ?_, hs⟩
 simp only [List.cons.injEq, and_true] at k0
 rw [k0, k1]
theorem entry_cells {fuel : Nat} {c0 c1 c2 c3 : Value} {x : DataW H × List MemPlace} (h : DataW.trod enc Tryz.prog W base spare held fuel 36 [c0, c1, c2, c3] = some x) : ∃ q : En, [c0, c1, c2, c3] = ene q := by
 obtain ⟨xs, n, _, _, _, hlen, hf⟩ := DataW.trod_struct Tryz.underlying36 h
 obtain ⟨y0, h0⟩ : ∃ y0, DataW.trod enc Tryz.prog W base spare held n 3 [c0] = some y0 := by
  have hy : DataW.trod enc Tryz.prog W base spare held n 3 (List.take (Tryz.prog.cellsOf 3) (List.drop 0 [c0, c1, c2, c3])) = xs[0]? := hf 0 _ rfl
  rw [List.getElem?_eq_getElem (show 0 < xs.length by rw [hlen]; decide), lcells3] at hy
  exact ⟨_, hy⟩
 obtain ⟨y1, h1⟩ : ∃ y0, DataW.trod enc Tryz.prog W base spare held n 3 [c1] = some y0 := by
  have hy : DataW.trod enc Tryz.prog W base spare held n 3 (List.take (Tryz.prog.cellsOf 3) (List.drop 1 [c0, c1, c2, c3])) = xs[1]? := hf 1 _ rfl
  rw [List.getElem?_eq_getElem (show 1 < xs.length by rw [hlen]; decide), lcells3] at hy
  exact ⟨_, hy⟩
 obtain ⟨y2, h2⟩ : ∃ y0, DataW.trod enc Tryz.prog W base spare held n 3 [c2] = some y0 := by
  have hy : DataW.trod enc Tryz.prog W base spare held n 3 (List.take (Tryz.prog.cellsOf 3) (List.drop 2 [c0, c1, c2, c3])) = xs[2]? := hf 2 _ rfl
  rw [List.getElem?_eq_getElem (show 2 < xs.length by rw [hlen]; decide), lcells3] at hy
  exact ⟨_, hy⟩
 obtain ⟨y3, h3⟩ : ∃ y0, DataW.trod enc Tryz.prog W base spare held n 2 [c3] = some y0 := by
  have hy : DataW.trod enc Tryz.prog W base spare held n 2 (List.take (Tryz.prog.cellsOf 2) (List.drop 3 [c0, c1, c2, c3])) = xs[3]? := hf 3 _ rfl
  rw [List.getElem?_eq_getElem (show 3 < xs.length by rw [hlen]; decide), lcells2] at hy
  exact ⟨_, hy⟩
 obtain ⟨x0, k0, _⟩ := el_int (k := .i64) Tryz.underlying3 h0
 obtain ⟨x1, k1, _⟩ := el_int (k := .i64) Tryz.underlying3 h1
 obtain ⟨x2, k2, _⟩ := el_int (k := .i64) Tryz.underlying3 h2
 obtain ⟨x3, k3, _⟩ := el_int (k := .i64) Tryz.underlying2 h3
 refine ⟨⟨x0, x1, x2, x3⟩, ?_⟩
 simp only [List.cons.injEq, and_true] at k0 k1 k2 k3
 rw [k0, k1, k2, k3]
theorem recs_trod {fuel : Nat} {x : DataW H × List MemPlace} (h : DataW.trod enc Tryz.prog W base spare held fuel 22 [v] = some x) : ∃ rs : List Rc, RsV (hp W) v rs := by
 obtain ⟨qs, a, cap, h1, h2, h3⟩ := sl_ofP (en := rce) (s := 2) Tryz.underlying22 lcells80 (fun _ cs _ h hl => by match cs, hl with | [c0, c1], _ => exact rec_cells h) h
 exact ⟨_, qs, a, cap, rfl, h1, h2, h3⟩
theorem open_book (hv : Value.okWide Tryz.prog W r b0 26 v) (h : DataW.Trod enc Tryz.prog W base spare held 26 v d p) : ∃ b : Bo, BoV (hp W) v b := by
 obtain ⟨cs, rfl, hsz⟩ := okWide_struct Tryz.underlying26 hv
 rw [lcells26] at hsz
 obtain ⟨fuel, h⟩ := h
 obtain ⟨l⟩ := cs
 match l, hsz with
 | [c0, c1], _ =>
  obtain ⟨y0, y1, n, _, _, h0, h1⟩ := trod_struct2 Tryz.underlying26 h
  dsimp only at h0 h1
  have h0' : DataW.trod enc Tryz.prog W base spare held n 22 [c0] = some y0 := by rw [lcells22] at h0; exact h0
  have h1' : DataW.trod enc Tryz.prog W base spare held n 24 [c1] = some y1 := by rw [lcells24] at h1; exact h1
  obtain ⟨rs, hr⟩ := recs_trod h0'
  obtain ⟨es, a, cap, e0, hs⟩ := sl_of (en := ene) (s := 4) Tryz.underlying24 lcells36 (fun _ cs _ h hl => by match cs, hl with | [c0, c1, c2, c3], _ => exact entry_cells h) h1'
  subst e0
  exact ⟨⟨rs, es⟩, _, a, cap, rfl, hr, hs⟩
theorem open_text (hv : Value.okWide Tryz.prog W r b0 9 v) (h : DataW.Trod enc Tryz.prog W base spare held 9 v d p) : ∃ s : List UInt8, v = sT s ∧ s.length ≤ 9223372036854775807 := by
 obtain ⟨s, rfl, _, _, hl⟩ := Go.ChangeMaps.open_string Tryz.underlying9 hv h
 refine ⟨bt s, by unfold sT; rw [mk_bt], ?_⟩
 have e : (bt s).length = s.size := Array.length_toList
 rw [e]; exact hl
end
end Go.Proofs.YtpoignmclfdgpaaGreatDoor
set_option linter.unusedVariables false
namespace Go.Proofs.YtpoignmclfdgpaaGreatDoor
open Go.Lw Go.Gl Go.Bk Go.RowKit Go.Shelf Go.Sort
theorem zero_row (w : World) (T : TypeId) (nd : Nat) (hs : nd ≤ 24) : Holds (fun (b : UInt8) => Value.int .u8 (b.toNat : Int)) (w.alloc (.cells Lib.zeros24 T)) w.heap.size 0 (Array.replicate nd (0 : UInt8)) := fun j hj => by
 have hj' : j < nd := by simpa using hj
 refine ⟨?_, World.frozen?_alloc_new _ _ _ _⟩
 rw [World.cell?_alloc_new, Lib.zeros24_at _ (by omega), getElem!_pos _ j hj]
 simp
theorem fin_zero (w : World) (o : Obj) (dk : Array UInt8) (k : Nat) : ∃ os, (putRow (fun (b : UInt8) => Value.int .u8 (b.toNat : Int)) (w.alloc o) w.heap.size 0 dk).drewN k = grow (w.drewN k) os := by
 rw [alloc_eq_grow]
 obtain ⟨os', _, e⟩ := putRow_grow_new (fun (b : UInt8) => Value.int .u8 (b.toNat : Int)) w #[o] w.heap.size 0 dk (Nat.le_refl _)
 exact ⟨os', by rw [e]; rfl⟩
theorem tz_t183 : Tryz.prog.underlying 183 = some (TypeDesc.array 24 5) := Tryz.underlying183
set_option maxHeartbeats 6400000 in
set_option maxRecDepth 100000 in
theorem fmtU_go (u : Nat) (hu : u < 4294967296) (w : World) (htab : Lib.TabIs Tryz.prog w "internal/strconv.uint64pow10" .u64 Lib.pow10Tab) :
  Calls Tryz.prog 150 #[.int .u64 u, .int .i64 10] w fun e w' => e = .returned (.string ⟨(Lib.decDigits u).toArray⟩) ∧ ∃ k os, w' = grow (w.drewN k) os := by
 have mixed := lay_fmtInt.mixed
 have t174 := Tryz.underlying174; have a174 := Tryz.isAgg174; have z174 := Tryz.sizeOf174; have v174 := Tryz.zeroValue174
 have t3 := Tryz.underlying3; have a3 := Tryz.isAgg3; have z3 := Tryz.sizeOf3; have v3 := Tryz.zeroValue3
 have t9 := Tryz.underlying9; have a9 := Tryz.isAgg9; have z9 := Tryz.sizeOf9; have v9 := Tryz.zeroValue9
 have t4 := Tryz.underlying4; have a4 := Tryz.isAgg4; have z4 := Tryz.sizeOf4; have v4 := Tryz.zeroValue4
 have t183 := Tryz.underlying183; have a183 := Tryz.isAgg183; have z183 := Tryz.sizeOf183; have v183 := Tryz.zeroValue183
 have t74 := Tryz.underlying74; have a74 := Tryz.isAgg74; have z74 := Tryz.sizeOf74; have v74 := Tryz.zeroValue74
 have t5 := Tryz.underlying5; have a5 := Tryz.isAgg5; have z5 := Tryz.sizeOf5; have v5 := Tryz.zeroValue5
 have e138 : ∀ args w, (callFunc 138 args).run Tryz.prog w = .ok (.enter 138 args) w := enters_of Tryz.func138 (by kernel_rfl) rfl
 have e139 : ∀ args w, (callFunc 139 args).run Tryz.prog w = .ok (.enter 139 args) w := enters_of Tryz.func139 (by kernel_rfl) rfl
 have e140 : ∀ args w, (callFunc 140 args).run Tryz.prog w = .ok (.enter 140 args) w := enters_of Tryz.func140 (by kernel_rfl) rfl
 by_cases hs : u < 100
 ·go_enter Tryz.func150, Tryz.ntmps150
  go_wp2_with (go_at_fn 138; refine (Any.internal_strconv_small { lay_fmtInt with } u hs _).mono ?_; rintro e w' ⟨rfl, rfl⟩)
  go_ret
  exact ⟨rfl, 0, #[], by simp [World.drewN_zero]⟩
 ·have hu1 : 1 ≤ u := by omega
  have hu64 : u < 18446744073709551616 := by omega
  have hnd20 : Lib.nDigits u ≤ 20 := by have := Lib.numDigits_eq u hu1 hu64; split at this <;> omega
  have hb3 : Lib.nDigits u ≤ 24 := by omega
  have hal : Tryz.prog.arrayLen 183 = 24 := by simp [Program.arrayLen, tz_t183]
  have hsl : ∀ W, (Instr.sliceAt 183 (.pointer (some ⟨w.heap.size, 0, none⟩)) none (some (.int .i64 (Lib.nDigits u : Int))) none).run Tryz.prog W = .ok (.slice (some ⟨w.heap.size, 0, none⟩) (Lib.nDigits u) 24) W := fun W => by
   rw [run_sliceAt_array_h W 183 ⟨w.heap.size, 0, none⟩ (by simp [Program.arrayLen, Program.elem, tz_t183]) .i64 (Lib.nDigits u : Int) (by omega) (by rw [hal]; omega)]
   go_simp
  have hH0 := zero_row w 183 (Lib.nDigits u) (by omega)
  have hfmt := Any.internal_strconv_formatBase10 (P := Tryz.prog) (ρ := kE) { lay_fmtInt with } w.heap.size 0 24 u (Array.replicate (Lib.nDigits u) 0) (w.alloc (.cells Lib.zeros24 183)) hH0 (by rw [Array.size_replicate]; exact Lib.lt_pow_nDigits u) hu64 (by rw [Array.size_replicate]; omega)
  rw [Array.size_replicate] at hfmt
  have HH0 := Lib.hid hH0
  clear hH0 hal
  go_enter Tryz.func150, Tryz.ntmps150
  go_wp2_with (first
   | (go_at_fn 139; refine (Any.internal_strconv_numDigits (P := Tryz.prog) (ρ := kE) { lay_fmtInt with } u hu1 hu64 _ (Lib.tabIs_alloc htab _)).mono ?_; rintro e w' ⟨rfl, rfl⟩))
  go_at_fn 140
  refine hfmt.mono ?_
  rintro e w' ⟨rfl, k, v', dk, rfl, hF⟩
  have hcv : (convert 74 9 (.slice (some ⟨w.heap.size, 0, none⟩) (Lib.nDigits u) 24)).run Tryz.prog ((putRow (fun (b : UInt8) => Value.int .u8 (b.toNat : Int)) (w.alloc (.cells Lib.zeros24 183)) w.heap.size 0 dk).drewN k) = .ok (.string ⟨(Lib.decDigits u).toArray⟩) ((putRow (fun (b : UInt8) => Value.int .u8 (b.toNat : Int)) (w.alloc (.cells Lib.zeros24 183)) w.heap.size 0 dk).drewN k) := by
   have h := run_convert_bytes_back (P := Tryz.prog) ((putRow (fun (b : UInt8) => Value.int .u8 (b.toNat : Int)) (w.alloc (.cells Lib.zeros24 183)) w.heap.size 0 dk).drewN k) 74 9 5 ⟨w.heap.size, 0, none⟩ 24 (Lib.decDigits u) Tryz.underlying74 Tryz.underlying5 Tryz.underlying9 (fun j hj => by
    rw [Lib.row_is_numeral hF j hj, Lib.add_plain, World.cell?_drewN]
    exact cell?_putRow (fun (b : UInt8) => Value.int .u8 (b.toNat : Int)) _ w.heap.size 0 _ dk HH0.out (by rw [hF.size, Array.size_replicate]) j (by rw [hF.size]; rw [Lib.decDigits_length] at hj; exact hj))
   rw [Lib.decDigits_length] at h
   exact h
  go_wp2
  go_ret
  obtain ⟨os, eo⟩ := fin_zero w (.cells Lib.zeros24 183) dk k
  exact ⟨rfl, k, os, eo⟩
end Go.Proofs.YtpoignmclfdgpaaGreatDoor
set_option linter.unusedVariables false
namespace Go.Lw
open Go.Instr Go.RowKit
section
variable {cx : Cx} {n : Nat} {ks : List (Nat × Value)} {O R : List Own} {V : View} {P : Program} {ops : Array Oper} {Qn : Act → World → Prop} {t : Tr} {i d : Nat} {x y : Operand} {T : TypeId} {pos : String} {after : Array Edge} {gd : Option (Nat × Bool)} {X Y Z : TypeId} {wr : Bool} {p q : Int} {v : Value}
theorem wrap_u64_small (n : Nat) (h : n < 18446744073709551616) : IntKind.u64.wrap (n : Int) = (n : Int) := by rw [IntKind.wrap_u64]; omega
theorem AtT.andU {A B : Nat} (ho : ops[i]? = some ⟨some d, .binOp .and X x y Z, T, pos, after, gd⟩) (hg : Gd ks ops gd) (hx : ev ks x = some (.int .u64 p)) (hy : ev ks y = some (.int .u64 q)) (hp : p = (A : Int)) (hq : q = (B : Int)) (hA : A < 18446744073709551616) (hB : B < 18446744073709551616) (hn : d < n)
  (next : AtT cx n ((d, .int .u64 ((A &&& B : Nat) : Int)) :: ks) O V P ops Qn t) : AtT cx n ks O V P ops Qn (.q i t) :=
 .q ho hg rfl hn (fun a w hk _ => by
  subst hp hq
  have hr : Op.intBits .and .u64 (A : Int) (B : Int) = (pure (.int .u64 ((A &&& B : Nat) : Int)) : Sem Value) := by
   show (pure (Value.int .u64 (IntKind.u64.wrap ((BitVec.ofInt 64 (A : Int) &&& BitVec.ofInt 64 (B : Int)).toNat : Int))) : Sem Value) = _
   rw [BitVec.toNat_and, ofInt_u64 A (by omega), ofInt_u64 B (by omega), wrap_u64_small _ (Nat.lt_of_le_of_lt Nat.and_le_left hA)]
  simp [execOp, hk.ev hx, hk.ev hy, eqGuard_and, binOp_and, hr]) next
theorem AtT.shrW {A N : Nat} {k : IntKind} (ho : ops[i]? = some ⟨some d, .binOp .shr X x y Z, T, pos, after, gd⟩) (hg : Gd ks ops gd) (hx : ev ks x = some (.int .u64 p)) (hy : ev ks y = some (.int k q)) (hp : p = (A : Int)) (hq : q = (N : Int)) (hN : N ≤ 61) (hn : d < n)
  (next : AtT cx n ((d, .int .u64 ((A / 2 ^ N : Nat) : Int)) :: ks) O V P ops Qn t) : AtT cx n ks O V P ops Qn (.q i t) :=
 .q ho hg rfl hn (fun a w hk _ => by
  subst hp hq
  have hr : Op.shift .shr .u64 (A : Int) k (N : Int) = (pure (.int .u64 ((A / 2 ^ N : Nat) : Int)) : Sem Value) := by
   unfold Op.shift
   rw [if_neg (by omega)]
   have e : min ((N : Int).toNat) IntKind.u64.bits = N := by show min ((N : Int).toNat) 64 = N; omega
   have e2 : (A : Int).fdiv (2 ^ N) = ((A / 2 ^ N : Nat) : Int) := by
    rw [Int.fdiv_eq_ediv_of_nonneg _ (Int.le_of_lt (Int.pow_pos (by decide))), Int.natCast_ediv, Int.natCast_pow]; rfl
   simp only [e, e2]
  simp only [execOp, hk.ev hx, hk.ev hy, eqGuard_shr, binOp_shr, hr, Sem.run_bind, Sem.run_pure, Result.andThen_ok]) next
theorem AtT.slVL {u l : Value} {lo' : Operand} (ho : ops[i]? = some ⟨some d, .slice X x (some lo') none none, T, pos, after, gd⟩) (hg : Gd ks ops gd) (hx : ev ks x = some v) (hl : ev ks lo' = some l) (hr : ∀ w, (Instr.sliceAt X v (some l) none none).run P w = .ok u w) (hn : d < n)
  (next : AtT cx n ((d, u) :: ks) O V P ops Qn t) : AtT cx n ks O V P ops Qn (.q i t) :=
 .q ho hg rfl hn (fun a w hk hm => by simp only [execOp, hk.ev hx, hk.ev hl, Option.map_none, Option.map_some, Sem.run_bind, hr, Result.andThen_ok, Sem.run_pure]) next
theorem sliceAt_arr {w : World} {b len : Nat} {E : TypeId} {k : IntKind} {l : Int} (hX : P.underlying X = some (.array len E)) (hE : tkB P E = some (false, 1)) (h0 : 0 < l) (h1 : l < len) : (Instr.sliceAt X (.pointer (some ⟨b, 0, none⟩)) (some (.int k l)) none none).run P w = .ok (.slice (some ⟨b, l.toNat, none⟩) (len - l.toNat) (len - l.toNat)) w := by
 have ha : P.arrayLen X = len := by simp [Program.arrayLen, hX]
 have he : P.elem X = E := by simp [Program.elem, hX]
 rw [run_sliceAt_array_l w X ⟨b, 0, none⟩ (by rw [ha, he]; exact hX) k l (by omega) (by rw [ha]; omega), he, ha, run_sizeOf hE]
 have hl : ¬ len = l.toNat := by omega
 simp only [Result.andThen_ok, slicedAt, if_neg hl]
 simp only [Nat.mul_one, Addr.add_lit, Nat.zero_add]
theorem AtT.strB {l : List UInt8} {E E' : TypeId} {b off c : Nat} {cs : List Value} {fr : Nat × Nat} (ho : ops[i]? = some ⟨some d, .convert Y X x, T, pos, after, gd⟩) (hg : Gd ks ops gd) (hY : P.underlying Y = some (.slice E)) (hE : P.underlying E = some (.int .u8)) (hX : P.underlying X = some .string) (hx : ev ks x = some (.slice (some ⟨b, off, none⟩) l.length c)) (hp : zP (.blk b (LC cs E' fr)) O R) (hc : ∀ j (hj : j < l.length), cs[off + j]? = some (.int .u8 (l[j].toNat : Int))) (hn : d < n)
  (next : AtT cx n ((d, sT l) :: ks) O V P ops Qn t) : AtT cx n ks O V P ops Qn (.n wr i t) :=
 .x ho hg fun a w hk hm => by
  have hb := (hm.pick hp).blk
  have hr := run_convert_bytes_back (P := P) w Y X E ⟨b, off, none⟩ c l hY hE hX (fun j hj => by rw [Addr.add_lit, cell_blk hb]; exact hc j hj)
  simp only [opW, execOp, hk.ev hx, hr, Sem.run_bind, Result.andThen_ok, Sem.run_pure]
  exact ⟨_, O, V, hk.put hn _, hm, fun _ u hu => hu, next⟩
end
end Go.Lw
set_option linter.unusedVariables false
namespace Go.Proofs.YtpoignmclfdgpaaGreatDoor
open Go.Lw Go.Gl Go.Bk Go.RowKit
abbrev uv (n : Int) : Value := .int .u64 n
theorem pow2_f (V : View) : Fnc Tryz.prog 157 [iv 16] V fun r _ => r = .bool true := by
 refine ql Tryz.func157 rfl Tryz.ntmps157 (Nat.le_of_ble_eq_true rfl) ?_
 intro w0 hw0
 refine At.nrm ?_
 refine At.zi (.q 0 .done) ?_
 refine AtT.zg ?_
 refine AtT.done ?_
 refine At.nrm ?_
 refine At.zi (.q 0 (.q 1 (.q 2 (.q 3 (.q 4 (.q 5 .done)))))) ?_
 refine AtT.zf ?_
 refine AtT.zf ?_
 first | refine AtT.ji ?_ | refine AtT.jh ?_
 refine AtT.andN (A := 16) (B := 15) rfl ⟨⟩ rfl rfl (by decide) (by decide) (by decide) (by decide) (by decide) ?_
 refine AtT.qF ?_
 refine AtT.zg ?_
 refine AtT.done ?_
 refine At.nrm ?_
 exact At.qh rfl (.tmp rfl) (by rw [show decide (((16 &&& 15 : Nat) : Int) = 0) = true from by decide])
theorem tz64_f (V : View) (hg : GvV V) : Fnc Tryz.prog 173 [uv 16] V fun r _ => r = iv 4 := by
 obtain ⟨t7, d7, h7⟩ := hg.bru
 have hc : jO V (Addr.add ⟨7, 0, none⟩ ((15 : Int).toNat * 1)) = some (.int .u8 4) := by
  rw [Addr.add_lit]; simp only [jO, h7]; rfl
 refine ql Tryz.func173 rfl Tryz.ntmps173 (Nat.le_of_ble_eq_true rfl) ?_
 intro w0 hw0
 refine At.nrm ?_
 refine At.zi (.q 0 .done) ?_
 refine AtT.zg ?_
 refine AtT.done ?_
 refine At.nrm ?_
 refine At.zi (.q 0 (.q 1 .done)) ?_
 refine AtT.zf ?_
 refine AtT.qF ?_
 refine AtT.zS (d := 4) rfl ((by decide)) ?_
 refine AtT.done ?_
 refine At.nrm ?_
 all_goals refine At.zX rfl rfl ?_
 refine At.nrm ?_
 refine At.zi (.q 0 (.q 1 (.q 2 (.q 3 (.q 4 (.q 5 (.q 6 (.q 7 (.q 8 (.q 9 .done)))))))))) ?_
 refine AtT.zf ?_
 refine AtT.zf ?_
 first | refine AtT.kneg ?_ | refine AtT.knegW ?_
 refine AtT.andU (A := 16) (B := 18446744073709551600) rfl ⟨⟩ rfl rfl (by decide) (by decide +kernel) (by decide) (by decide) (by decide) ?_
 first | refine AtT.kmul ?_ | refine AtT.kmulW ?_
 refine AtT.shrW (A := 4573923408821661840) (N := 58) rfl ⟨⟩ rfl rfl (by decide +kernel) (by decide) (by decide) (by decide) ?_
 refine AtT.idxQ rfl trivial Tryz.underlying218 tk5 rfl rfl (by decide) (by decide) (by decide) ?_
 refine AtT.zo tk5 (v := .int .u8 4) ?_ (hc := hc)
 refine AtT.kconv un5 Tryz.underlying3 ?_
 refine AtT.zg ?_
 refine AtT.done ?_
 refine At.nrm ?_
 exact At.qh rfl (.tmp rfl) rfl
theorem tz_f (V : View) (hg : GvV V) : Fnc Tryz.prog 158 [uv 16] V fun r _ => r = iv 4 := by
 refine ql Tryz.func158 rfl Tryz.ntmps158 (Nat.le_of_ble_eq_true rfl) ?_
 intro w0 hw0
 refine At.nrm ?_
 refine At.zi (.q 0 .done) ?_
 refine AtT.zg ?_
 refine AtT.done ?_
 refine At.nrm ?_
 refine At.zX rfl rfl ?_
 refine At.nrm ?_
 refine At.zi (.q 0 (.n false 1 (.q 2 .done))) ?_
 refine AtT.zf ?_
 refine AtT.zG rfl rfl ok173 (tz64_f V hg) ?_
 rintro _ rfl
 refine AtT.zg ?_
 refine AtT.done ?_
 refine At.nrm ?_
 exact At.qh rfl (.tmp rfl) rfl
def lowH : Nat → Nat → List UInt8
 | 0, _ => []
 | k + 1, u => hx (u / 16 ^ k % 16) :: lowH k u
theorem lowH_len : ∀ k u, (lowH k u).length = k
 | 0, _ => rfl
 | k + 1, u => by rw [lowH, List.length_cons, lowH_len k u]
def cellH (k u : Nat) : List Value := List.replicate (65 - k) (.int .u8 0) ++ (lowH k u).map fun c => .int .u8 (c.toNat : Int)
theorem cellH_len (k u : Nat) (hk : k ≤ 65) : (cellH k u).length = 65 := by simp [cellH, lowH_len]; omega
theorem cellH_set (k u : Nat) (hk : k < 65) : (cellH k u).set (64 - k) (.int .u8 ((hx (u / 16 ^ k % 16)).toNat : Int)) = cellH (k + 1) u := by
 unfold cellH
 rw [show 65 - k = 64 - k + 1 by omega, show 65 - (k + 1) = 64 - k by omega, List.replicate_succ', List.append_assoc, List.set_append_right _ _ (by simp), List.length_replicate, Nat.sub_self]
 rfl
theorem cellH_at (k u : Nat) (hk : k ≤ 65) (j : Nat) (hj : j < (lowH k u).length) : (cellH k u)[65 - k + j]? = some (.int .u8 ((lowH k u)[j].toNat : Int)) := by
 unfold cellH
 rw [List.getElem?_append_right (by rw [List.length_replicate]; omega), List.length_replicate, Nat.add_sub_cancel_left, List.getElem?_map, List.getElem?_eq_getElem hj]; rfl
theorem dig_at (d : Nat) (hd : d < 16) : ([48, 49, 50, 51, 52, 53, 54, 55, 56, 57, 97, 98, 99, 100, 101, 102, 103, 104, 105, 106, 107, 108, 109, 110, 111, 112, 113, 114, 115, 116, 117, 118, 119, 120, 121, 122] : List UInt8).getD d 0 = hx d := by
 revert d; decide
theorem z199 : qx Tryz.prog 199 = some (.agg (List.replicate 65 (Value.int .u8 0)).toArray) := by kernel_rfl
theorem bits_f (u : Nat) (hu : u < 65536) (V : View) (hg : GvV V) : Fnc Tryz.prog 141 [.slice none 0 0, uv u, iv 16, .bool false, .bool false] V fun r _ => ∃ k, k ≤ 3 ∧ u < 16 ^ (k + 1) ∧ r = .tuple #[.slice none 0 0, sT (lowH (k + 1) u)] := by
 refine ql Tryz.func141 rfl Tryz.ntmps141 (Nat.le_of_ble_eq_true rfl) ?_
 intro w0 hw0
 refine At.nrm ?_
 refine At.zi (.q 0 (.q 1 .done)) ?_
 refine AtT.zg ?_
 refine AtT.zg ?_
 refine AtT.done ?_
 refine At.nrm ?_
 refine At.zi (.q 0 (.q 1 (.q 2 (.q 3 (.q 4 (.q 5 (.q 6 (.q 7 (.q 8 (.q 9 .done)))))))))) ?_
 refine AtT.zf ?_
 refine AtT.qp ?_
 refine AtT.zS (d := 20) rfl ((by decide)) ?_
 refine AtT.zf ?_
 all_goals (first | refine AtT.kL 21 ?_ | refine AtT.zw (d := 21) rfl (fun hg21 => ?_) (fun hg21 => ?_) | refine AtT.zu (d := 21) rfl (fun hg21 => ?_) (fun hg21 => ?_))
 all_goals first|refine AtT.zh ?_|refine AtT.ze ?_|(refine AtT.zf ?_)
 all_goals first|refine AtT.zh ?_|refine AtT.ze ?_|(refine AtT.qF ?_)
 all_goals (refine AtT.zS (d := 23) rfl ((by decide)) ?_)
 all_goals (refine AtT.zx ?_)
 all_goals (refine AtT.zf ?_)
 all_goals (first | refine AtT.kL 25 ?_ | refine AtT.zw (d := 25) rfl (fun hg25 => ?_) (fun hg25 => ?_) | refine AtT.zu (d := 25) rfl (fun hg25 => ?_) (fun hg25 => ?_))
 all_goals first|refine AtT.zh ?_|refine AtT.ze ?_|(refine AtT.zf ?_)
 all_goals first|refine AtT.zh ?_|refine AtT.ze ?_|(refine AtT.qI ?_)
 all_goals (refine AtT.zS (d := 27) rfl ((by decide)) ?_)
 all_goals (refine AtT.zx ?_)
 all_goals refine AtT.done ?_
 all_goals (refine At.nrm ?_)
 all_goals refine At.zX rfl rfl ?_
 refine At.nrm ?_
 refine At.zi (.n false 0 .done) ?_
 refine AtT.zT z199 ?_
 intro b12
 refine AtT.done ?_
 refine At.nrm ?_
 refine At.zi (.q 0 .done) ?_
 refine AtT.zg ?_
 refine AtT.done ?_
 refine At.nrm ?_
 refine At.zi (.q 0 .done) ?_
 refine AtT.zf ?_
 refine AtT.done ?_
 refine At.nrm ?_
 refine At.zX rfl rfl ?_
 refine At.nrm ?_
 refine At.zi (.q 0 (.n false 1 .done)) ?_
 refine AtT.zf ?_
 refine AtT.zG rfl rfl ok157 (pow2_f V) ?_
 rintro _ rfl
 refine AtT.done ?_
 refine At.nrm ?_
 refine At.zU rfl rfl ?_
 refine At.nrm ?_
 refine At.zi (.q 0 (.q 1 (.n false 2 (.q 3 (.q 4 .done))))) ?_
 refine AtT.zf ?_
 refine AtT.kconv un3 Tryz.underlying179 ?_
 refine AtT.zG rfl rfl ok158 (tz_f V hg) ?_
 rintro _ rfl
 refine AtT.kconv un3 Tryz.underlying179 ?_
 refine AtT.zg ?_
 refine AtT.done ?_
 refine At.nrm ?_
 refine At.zi (.q 0 (.q 1 (.q 2 .done))) ?_
 refine AtT.zf ?_
 refine AtT.kconv un3 Tryz.underlying174 ?_
 refine AtT.zg ?_
 refine AtT.done ?_
 refine At.nrm ?_
 refine At.zi (.q 0 (.q 1 (.q 2 (.q 3 .done)))) ?_
 refine AtT.zf ?_
 refine AtT.kconv un3 Tryz.underlying179 ?_
 first | refine AtT.ji ?_ | refine AtT.jh ?_
 refine AtT.zg ?_
 refine AtT.done ?_
 refine At.nrm ?_
 refine At.lp (ι := Nat) (KS := fun k => [(0, .slice none 0 0), (3, .bool false), (4, .bool false), (10, .slice none 0 0), (12, .pointer (some ⟨b12, 0, none⟩)), (13, iv (65 - k)), (1, uv (u / 16 ^ k : Nat)), (14, uv 4), (15, uv 16), (16, uv 15)])
  (OS := fun k => [.blk b12 (LC (cellH k u) 199)])
  (VS := fun k V' => V' = V ∧ k ≤ 3) (μ := fun k => u / 16 ^ k) 0 ?_ ?_ ?_ ?_
 ·exact ⟨rfl, rfl, rfl, rfl, rfl, rfl, (by show some (uv (u : Int)) = some (uv ((u / 16 ^ 0 : Nat) : Int)); rw [Nat.pow_zero, Nat.div_one]), rfl, rfl, rfl, trivial⟩
 ·exact Pt.zI
 ·exact ⟨rfl, Nat.zero_le _⟩
 rintro k V' ks' O' ⟨rfl, hk3⟩ hk hO hl
 subst hk hO
 have hlt : u / 16 ^ k < 65536 := Nat.lt_of_le_of_lt (Nat.div_le_self _ _) hu
 have hstep : u / 16 ^ (k + 1) = u / 16 ^ k / 16 := by rw [Nat.pow_succ, Nat.div_div_eq_div_mul]
 have hl1 := cellH_len k u (by omega)
 have hset := cellH_set k u (by omega)
 refine At.nrm ?_
 refine At.zi (.q 0 (.q 1 (.q 2 .done))) ?_
 refine AtT.zf ?_
 refine AtT.zf ?_
 refine AtT.kgeq ?_
 refine AtT.done ?_
 refine At.nrm ?_
 refine At.qb rfl (fun hp => ?_) (fun hp => ?_)
 ·have hk2 : k < 3 := by
   apply Classical.byContradiction
   intro hc
   obtain rfl : k = 3 := by omega
   have h16 : (16 : Nat) ^ 3 = 4096 := by decide
   rw [h16] at hp
   omega
  have hd : u / 16 ^ k &&& 15 = u / 16 ^ k % 16 := Nat.and_two_pow_sub_one_eq_mod (u / 16 ^ k) 4
  refine At.nrm ?_
  refine At.zi (.q 0 (.q 1 (.q 2 .done))) ?_
  refine AtT.zf ?_
  first | refine AtT.ji ?_ | refine AtT.jh ?_
  refine AtT.zg ?_
  refine AtT.done ?_
  refine At.nrm ?_
  refine At.zi (.q 0 (.q 1 (.q 2 (.q 3 (.q 4 (.q 5 (.n true 6 .done))))))) ?_
  refine AtT.zf ?_
  refine AtT.zf ?_
  refine AtT.zf ?_
  refine AtT.andU (A := u / 16 ^ k) (B := 15) rfl ⟨⟩ rfl rfl rfl rfl (by omega) (by decide) (by decide) ?_
  rw [hd]
  refine AtT.ixT rfl trivial Tryz.underlying9 rfl rfl (by omega) (by show _ < ((36 : Nat) : Int); omega) (by decide) ?_
  rw [show ((u / 16 ^ k % 16 : Nat) : Int).toNat = u / 16 ^ k % 16 from rfl, dig_at _ (Nat.mod_lt _ (by decide))]
  refine AtT.kidxA Tryz.underlying199 tk5 ?_
  refine AtT.jK rfl trivial rfl rfl tk5 rfl rfl (by repeat first|exact Upd.here|apply Upd.there) (qU (l' := cellH (k + 1) u) (by omega) (by rw [show 0 + (65 - (k : Int) - 1).toNat * 1 = 64 - k by omega]; exact hset)) ?_
  refine AtT.done ?_
  refine At.nrm ?_
  refine At.zi (.q 0 (.q 1 (.q 2 (.q 3 .done)))) ?_
  refine AtT.zf ?_
  refine AtT.zf ?_
  refine AtT.shrW (A := u / 16 ^ k) (N := 4) rfl ⟨⟩ rfl rfl rfl rfl (by decide) (by decide) ?_
  refine AtT.zg ?_
  refine AtT.done ?_
  refine At.nrm ?_
  refine At.round (k + 1) ?_ ?_ ?_ ?_
  ·show u / 16 ^ (k + 1) < u / 16 ^ k; rw [hstep]; omega
  ·exact ⟨rfl, by omega⟩
  ·refine ⟨rfl, rfl, rfl, rfl, rfl, ivs (by omega), ?_, rfl, rfl, rfl, trivial⟩
   rw [hstep]; rfl
  ·exact Pt.zI
 refine At.nrm ?_
 refine At.zi (.q 0 (.q 1 (.q 2 .done))) ?_
 refine AtT.zf ?_
 first | refine AtT.ji ?_ | refine AtT.jh ?_
 refine AtT.zg ?_
 refine AtT.done ?_
 refine At.nrm ?_
 have hd : u / 16 ^ k % 16 = u / 16 ^ k := Nat.mod_eq_of_lt (by omega)
 rw [hd] at hset
 have hu2 : u < 16 ^ (k + 1) := by
  have := Nat.div_lt_iff_lt_mul (x := u) (y := 16) (Nat.pow_pos (n := k) (show 0 < 16 by decide))
  rw [Nat.pow_succ, Nat.mul_comm]; exact this.1 (by omega)
 refine At.zi (.q 0 (.q 1 (.q 2 (.q 3 (.n true 4 .done))))) ?_
 refine AtT.zf ?_
 refine AtT.zf ?_
 refine AtT.ixT rfl trivial Tryz.underlying9 rfl rfl (by omega) (by show _ < ((36 : Nat) : Int); omega) (by decide) ?_
 rw [show ((u / 16 ^ k : Nat) : Int).toNat = u / 16 ^ k from rfl, dig_at _ (by omega)]
 refine AtT.kidxA Tryz.underlying199 tk5 ?_
 refine AtT.jK rfl trivial rfl rfl tk5 rfl rfl (by repeat first|exact Upd.here|apply Upd.there) (qU (l' := cellH (k + 1) u) (by omega) (by rw [show 0 + (65 - (k : Int) - 1).toNat * 1 = 64 - k by omega]; exact hset)) ?_
 refine AtT.done ?_
 refine At.nrm ?_
 refine At.zi (.q 0 .done) ?_
 refine AtT.zf ?_
 refine AtT.done ?_
 refine At.nrm ?_
 refine At.zX rfl rfl ?_
 refine At.nrm ?_
 refine At.zi (.q 0 .done) ?_
 refine AtT.zf ?_
 refine AtT.done ?_
 refine At.nrm ?_
 refine At.zX rfl rfl ?_
 refine At.nrm ?_
 have hlen := lowH_len (k + 1) u
 have hsl : ∀ w, (Instr.sliceAt 199 (.pointer (some ⟨b12, 0, none⟩)) (some (.int .i64 (65 - (k : Int) - 1))) none none).run Tryz.prog w = .ok (.slice (some ⟨b12, 64 - k, none⟩) (lowH (k + 1) u).length (k + 1)) w := fun w => by
  rw [sliceAt_arr Tryz.underlying199 tk5 (by omega) (by omega), hlen, show (65 - (k : Int) - 1).toNat = 64 - k by omega, show 65 - (64 - k) = k + 1 by omega]
 refine At.zi (.q 0 (.q 1 (.n false 2 (.q 3 .done)))) ?_
 refine AtT.zf ?_
 refine AtT.slVL rfl trivial rfl rfl hsl (by decide) ?_
 refine AtT.strB rfl trivial Tryz.underlying74 Tryz.underlying5 Tryz.underlying9 rfl zP.zI (fun j hj => by have := cellH_at (k + 1) u (by omega) j hj; rw [show 65 - (k + 1) + j = 64 - k + j by omega] at this; exact this) (by decide) ?_
 refine AtT.zg ?_
 refine AtT.done ?_
 refine At.nrm ?_
 exact At.qN rfl (.tmp rfl) (.tmp rfl) ⟨k, hk3, hu2, rfl⟩
end Go.Proofs.YtpoignmclfdgpaaGreatDoor
set_option linter.unusedVariables false
namespace Go.Proofs.YtpoignmclfdgpaaGreatDoor
open Go.Lw Go.Gl Go.Bk Go.RowKit
theorem pad_hex {k u : Nat} (hk : k ≤ 3) (h : u < 16 ^ (k + 1)) : Lib.repeatL [48] (3 - k) ++ lowH (k + 1) u = hex4 u := by
 have h0 : hx 0 = 48 := rfl
 have : k = 0 ∨ k = 1 ∨ k = 2 ∨ k = 3 := by omega
 rcases this with rfl | rfl | rfl | rfl
 ·have e1 : u / 4096 % 16 = 0 := by omega
  have e2 : u / 256 % 16 = 0 := by omega
  have e3 : u / 16 % 16 = 0 := by omega
  simp [Lib.repeatL, lowH, hex4, e1, e2, e3, h0]
 ·have e1 : u / 4096 % 16 = 0 := by omega
  have e2 : u / 256 % 16 = 0 := by omega
  simp [Lib.repeatL, lowH, hex4, e1, e2, h0]
 ·have e1 : u / 4096 % 16 = 0 := by omega
  simp [Lib.repeatL, lowH, hex4, e1, h0]
 ·simp [Lib.repeatL, lowH, hex4]
theorem fmtI_f (u : Nat) (hu : u < 65536) (V : View) (hg : GvV V) : Fnc Tryz.prog 122 [iv u, iv 16] V fun r _ => ∃ k, k ≤ 3 ∧ u < 16 ^ (k + 1) ∧ r = sT (lowH (k + 1) u) := by
 refine ql Tryz.func122 rfl Tryz.ntmps122 (Nat.le_of_ble_eq_true rfl) ?_
 intro w0 hw0
 refine At.nrm ?_
 refine At.zi (.q 0 .done) ?_
 refine AtT.zg ?_
 refine AtT.done ?_
 refine At.nrm ?_
 refine At.zi (.q 0 (.q 1 .done)) ?_
 refine AtT.zf ?_
 refine AtT.qF ?_
 refine AtT.zS (d := 11) rfl ((by decide)) ?_
 refine AtT.done ?_
 refine At.nrm ?_
 all_goals refine At.zX rfl rfl ?_
 refine At.nrm ?_
 refine At.zi (.q 0 (.q 1 (.q 2 (.q 3 (.q 4 (.n false 5 (.q 6 (.q 7 (.q 8 (.q 9 (.q 10 .done))))))))))) ?_
 refine AtT.zf ?_
 refine AtT.kconv un2 Tryz.underlying174 ?_
 rw [wrap_u64_small u (by omega)]
 refine AtT.zf ?_
 refine AtT.zf ?_
 refine AtT.qp ?_
 refine AtT.zS (d := 49) rfl ((by omega)) ?_
 refine AtT.zG rfl rfl ok141 (bits_f u hu V hg) ?_
 rintro _ ⟨k, hk, hk2, rfl⟩
 refine AtT.zf ?_
 refine AtT.zt ?_
 refine AtT.zt ?_
 refine AtT.zg ?_
 refine AtT.zg ?_
 refine AtT.done ?_
 refine At.nrm ?_
 refine At.zi (.q 0 (.q 1 .done)) ?_
 refine AtT.zf ?_
 refine AtT.zg ?_
 refine AtT.done ?_
 refine At.nrm ?_
 exact At.qh rfl (.tmp rfl) ⟨k, hk, hk2, rfl⟩
theorem fmt16_f (u : Nat) (hu : u < 65536) (V : View) (hg : GvV V) : Fnc Tryz.prog 101 [iv u, iv 16] V fun r _ => ∃ k, k ≤ 3 ∧ u < 16 ^ (k + 1) ∧ r = sT (lowH (k + 1) u) := by
 refine ql Tryz.func101 rfl Tryz.ntmps101 (Nat.le_of_ble_eq_true rfl) ?_
 intro w0 hw0
 refine At.nrm ?_
 refine At.zi (.q 0 .done) ?_
 refine AtT.zg ?_
 refine AtT.done ?_
 refine At.nrm ?_
 refine At.zi (.q 0 (.q 1 (.n false 2 (.q 3 .done)))) ?_
 refine AtT.zf ?_
 refine AtT.zf ?_
 refine AtT.zG rfl rfl ok122 (fmtI_f u hu V hg) ?_
 rintro _ ⟨k, hk, hk2, rfl⟩
 refine AtT.zg ?_
 refine AtT.done ?_
 refine At.nrm ?_
 exact At.qh rfl (.tmp rfl) ⟨k, hk, hk2, rfl⟩
theorem digits_f (u : Nat) (hu : u < 65536) (V : View) (hg : GvV V) : Fnc Tryz.prog 95 [iv u] V fun r _ => r = sT (hex4 u) := by
 refine ql Tryz.func95 rfl Tryz.ntmps95 (Nat.le_of_ble_eq_true rfl) ?_
 intro w0 hw0
 refine At.nrm ?_
 refine At.zi (.q 0 .done) ?_
 refine AtT.zg ?_
 refine AtT.done ?_
 refine At.nrm ?_
 refine At.zi (.q 0 (.n false 1 (.q 2 .done))) ?_
 refine AtT.zf ?_
 refine AtT.zG rfl rfl ok101 (fmt16_f u hu V hg) ?_
 rintro _ ⟨k, hk, hk2, rfl⟩
 refine AtT.zg ?_
 refine AtT.done ?_
 refine At.nrm ?_
 have hlen := lowH_len (k + 1) u
 refine At.zi (.q 0 (.q 1 (.q 2 (.n false 3 (.q 4 (.q 5 (.q 6 .done))))))) ?_
 refine AtT.zf ?_
 refine AtT.qR rfl trivial Tryz.underlying9 rfl (by decide) ?_
 first | refine AtT.ji ?_ | refine AtT.jh ?_
 rw [show (4 : Int) - ((lowH (k + 1) u).length : Int) = ((3 - k : Nat) : Int) by omega]
 refine AtT.zG rfl rfl ok120 (repeat_f [48] (3 - k) (by simp; omega) (by omega) V) ?_
 rintro _ rfl
 refine AtT.zf ?_
 refine AtT.catT rfl trivial rfl rfl (by rw [hlen]; simp [Lib.repeatL_length]; omega) (by decide) ?_
 refine AtT.zg ?_
 refine AtT.done ?_
 refine At.nrm ?_
 exact At.qh rfl (.tmp rfl) (by rw [pad_hex hk hk2])
theorem adT_step {s : List UInt8} {i : Nat} {c : UInt8} (h : s[i]? = some c) : adl 1 0 (s.take (i + 1)) = (((adl 1 0 (s.take i)).1 + c.toNat) % 65521, ((adl 1 0 (s.take i)).2 + ((adl 1 0 (s.take i)).1 + c.toNat) % 65521) % 65521) := by
 rw [List.take_add_one, h]
 show adl 1 0 (s.take i ++ [c]) = _
 rw [adl_app]; rfl
theorem check_f (s : List UInt8) (hs : s.length ≤ 1000000) (V : View) (hg : GvV V) : Fnc Tryz.prog 72 [sT s] V fun r _ => r = sT (chk s) := by
 refine ql Tryz.func72 rfl Tryz.ntmps72 (Nat.le_of_ble_eq_true rfl) ?_
 intro w0 hw0
 refine At.nrm ?_
 refine At.zi (.q 0 .done) ?_
 refine AtT.zg ?_
 refine AtT.done ?_
 refine At.nrm ?_
 refine At.zi (.q 0 (.q 1 .done)) ?_
 refine AtT.zg ?_
 refine AtT.zg ?_
 refine AtT.done ?_
 refine At.nrm ?_
 refine At.zi (.q 0 (.n false 1 (.q 2 (.q 3 .done)))) ?_
 refine AtT.zf ?_
 refine AtT.bytesT rfl trivial Tryz.underlying9 Tryz.underlying74 Tryz.underlying5 rfl (by omega) (by decide) ?_
 intro a8 c8 V8 hV8 hs8
 have g8 : Le V V8 := by first | exact hV8 | exact Le.trans (by assumption) hV8
 first | refine AtT.zR Tryz.underlying74 ?_ | refine AtT.zQ Tryz.underlying74 ?_
 refine AtT.zf ?_
 refine AtT.done ?_
 refine At.nrm ?_
 refine At.lp (ι := Nat) (KS := fun i => [(3, iv (adl 1 0 (s.take i)).1), (4, iv (adl 1 0 (s.take i)).2), (8, .slice a8 s.length c8), (9, iv s.length), (10, iv i)])
  (OS := fun i => [])
  (VS := fun i V' => Le V8 V' ∧ i ≤ s.length) (μ := fun i => s.length - i) 0 ?_ ?_ ?_ ?_
 ·exact ⟨rfl, rfl, rfl, rfl, rfl, trivial⟩
 ·exact Pt.zI
 ·exact ⟨Le.refl _, Nat.zero_le _⟩
 rintro i V' ks' O' ⟨hV, hi⟩ hk hO hl
 subst hk hO
 have hs1 := hs8.le hV
 have hgV := (hg.le hV8).le hV
 have hab := adl_lt (s.take i) (show 1 < 65521 by decide) (show 0 < 65521 by decide)
 refine At.nrm ?_
 refine At.zi (.q 0 .done) ?_
 refine AtT.qp ?_
 refine AtT.done ?_
 refine At.nrm ?_
 refine At.qb rfl (fun hp => ?_) (fun hp => ?_)
 ·refine At.nrm ?_
  refine At.zi (.q 0 (.q 1 (.q 2 .done))) ?_
  refine AtT.qm Tryz.underlying74 tk5 ?_
  intro p12 e12 he12 hc12
  first | refine AtT.zm tk5 ?_ | refine AtT.zo tk5 ?_
  have hst := adT_step (i := i) (by simpa using he12)
  refine AtT.zg ?_
  refine AtT.done ?_
  refine At.nrm ?_
  have hc := e12.toNat_lt
  refine At.zi (.q 0 (.q 1 (.q 2 (.q 3 (.q 4 (.q 5 .done)))))) ?_
  refine AtT.zf ?_
  refine AtT.zf ?_
  refine AtT.kconv un5 Tryz.underlying3 ?_
  rw [Go.Lib.wrap_i64_small _ (by omega)]
  first | refine AtT.qG ?_ | refine AtT.qd ?_
  refine AtT.krem ?_
  rw [show (((adl 1 0 (s.take i)).1 : Int) + (e12.toNat : Int)).tmod 65521 = ((((adl 1 0 (s.take i)).1 + e12.toNat) % 65521 : Nat) : Int) from rfl]
  refine AtT.zg ?_
  refine AtT.done ?_
  refine At.nrm ?_
  refine At.zi (.q 0 (.q 1 (.q 2 (.q 3 (.q 4 .done))))) ?_
  refine AtT.zf ?_
  refine AtT.zf ?_
  first | refine AtT.qG ?_ | refine AtT.qd ?_
  refine AtT.krem ?_
  rw [show (((adl 1 0 (s.take i)).2 : Int) + (((adl 1 0 (s.take i)).1 + e12.toNat) % 65521 : Nat)).tmod 65521 = ((((adl 1 0 (s.take i)).2 + ((adl 1 0 (s.take i)).1 + e12.toNat) % 65521) % 65521 : Nat) : Int) from rfl]
  refine AtT.zg ?_
  refine AtT.done ?_
  refine At.nrm ?_
  refine At.zi (.q 0 (.q 1 .done)) ?_
  first | refine AtT.qG ?_ | refine AtT.qd ?_
  refine AtT.zf ?_
  refine AtT.done ?_
  refine At.nrm ?_
  refine At.round (i + 1) ?_ ?_ ?_ ?_
  ·show s.length - (i + 1) < s.length - i; omega
  ·exact ⟨hV, by omega⟩
  ·refine ⟨?_, ?_, rfl, rfl, ivs (by omega), trivial⟩
   ·rw [hst]; rfl
   ·rw [hst]; rfl
  ·exact Pt.zI
 obtain rfl : i = s.length := by omega
 rw [List.take_length] at hab ⊢
 refine At.nrm ?_
 refine At.zi (.q 0 (.n false 1 (.q 2 (.n false 3 (.q 4 (.q 5 .done)))))) ?_
 refine AtT.zf ?_
 refine AtT.zG rfl rfl ok95 (digits_f (adl 1 0 s).2 (by omega) V' hgV) ?_
 rintro _ rfl
 refine AtT.zf ?_
 refine AtT.zG rfl rfl ok95 (digits_f (adl 1 0 s).1 (by omega) V' hgV) ?_
 rintro _ rfl
 refine AtT.catT rfl trivial rfl rfl (by rw [hex4_len, hex4_len]; decide) (by decide) ?_
 refine AtT.zg ?_
 refine AtT.done ?_
 refine At.nrm ?_
 exact At.qh rfl (.tmp rfl) rfl
theorem pcheck_f (s : List UInt8) (hs : s.length ≤ 1000000) (V : View) (hg : GvV V) : Fnc Tryz.prog 35 [sT s] V fun r _ => r = .tuple #[sT (if 4000 < s.length then [] else chk s), iv (if 4000 < s.length then 7 else 0)] := by
 refine ql Tryz.func35 rfl Tryz.ntmps35 (Nat.le_of_ble_eq_true rfl) ?_
 intro w0 hw0
 refine At.nrm ?_
 refine At.zi (.q 0 (.q 1 .done)) ?_
 refine AtT.zg ?_
 refine AtT.zg ?_
 refine AtT.done ?_
 refine At.nrm ?_
 by_cases h : 4000 < s.length
 ·refine At.zi (.q 0 (.q 1 (.q 2 .done))) ?_
  refine AtT.zf ?_
  refine AtT.qR rfl trivial Tryz.underlying9 rfl (by decide) ?_
  refine AtT.qI ?_
  refine AtT.qa (d := 6) rfl ((by omega)) ?_
  refine AtT.done ?_
  refine At.nrm ?_
  all_goals refine At.zU rfl rfl ?_
  refine At.nrm ?_
  refine At.zi (.q 0 (.q 1 .done)) ?_
  refine AtT.zg ?_
  refine AtT.zg ?_
  refine AtT.done ?_
  refine At.nrm ?_
  exact At.qN rfl (.tmp rfl) (.tmp rfl) (by rw [if_pos h, if_pos h])
 refine At.zi (.q 0 (.q 1 (.q 2 .done))) ?_
 refine AtT.zf ?_
 refine AtT.qR rfl trivial Tryz.underlying9 rfl (by decide) ?_
 refine AtT.qI ?_
 refine AtT.zS (d := 6) rfl ((by omega)) ?_
 refine AtT.done ?_
 refine At.nrm ?_
 all_goals refine At.zX rfl rfl ?_
 refine At.nrm ?_
 refine At.zi (.q 0 (.n false 1 (.q 2 (.q 3 .done)))) ?_
 refine AtT.zf ?_
 refine AtT.zG rfl rfl ok72 (check_f s hs V hg) ?_
 rintro _ rfl
 refine AtT.zg ?_
 refine AtT.zg ?_
 refine AtT.done ?_
 refine At.nrm ?_
 exact At.qN rfl (.tmp rfl) (.tmp rfl) (by rw [if_neg h, if_neg h])
end Go.Proofs.YtpoignmclfdgpaaGreatDoor
set_option linter.unusedVariables false
namespace Go.Proofs.YtpoignmclfdgpaaGreatDoor
open Go.Lw Go.Gl Go.Bk Go.RowKit
theorem dig_sub (d : Nat) (hd : d < 16) : (([48, 49, 50, 51, 52, 53, 54, 55, 56, 57, 97, 98, 99, 100, 101, 102] : List UInt8).take (d + 1)).drop d = [hx d] := by
 revert d; decide
theorem lowH_4 (u : Nat) : lowH 4 u = hex4 u := by
 simp [lowH, hex4]
theorem hex_f (u : Nat) (hu : u < 65536) (V : View) : Fnc Tryz.prog 96 [iv u] V fun r _ => r = sT (hex4 u) := by
 refine ql Tryz.func96 rfl Tryz.ntmps96 (Nat.le_of_ble_eq_true rfl) ?_
 intro w0 hw0
 refine At.nrm ?_
 refine At.zi (.q 0 .done) ?_
 refine AtT.zg ?_
 refine AtT.done ?_
 refine At.nrm ?_
 refine At.zi (.q 0 .done) ?_
 refine AtT.zg ?_
 refine AtT.done ?_
 refine At.nrm ?_
 refine At.zi (.q 0 .done) ?_
 refine AtT.zg ?_
 refine AtT.done ?_
 refine At.nrm ?_
 refine At.lp (ι := Nat) (KS := fun k => [(0, iv (u / 16 ^ k : Nat)), (3, sT (lowH k u)), (4, iv k)])
  (OS := fun k => [])
  (VS := fun k V' => V' = V ∧ k ≤ 4) (μ := fun k => 4 - k) 0 ?_ ?_ ?_ ?_
 ·exact ⟨by show some (iv (u : Int)) = some (iv ((u / 16 ^ 0 : Nat) : Int)); rw [Nat.pow_zero, Nat.div_one], rfl, rfl, trivial⟩
 ·exact Pt.zI
 ·exact ⟨rfl, Nat.zero_le _⟩
 rintro k V' ks' O' ⟨rfl, hk4⟩ hk hO hl
 subst hk hO
 have hlt : u / 16 ^ k < 65536 := Nat.lt_of_le_of_lt (Nat.div_le_self _ _) hu
 have hstep : u / 16 ^ (k + 1) = u / 16 ^ k / 16 := by rw [Nat.pow_succ, Nat.div_div_eq_div_mul]
 have hlen := lowH_len k u
 have hm : u / 16 ^ k % 16 < 16 := Nat.mod_lt _ (by decide)
 refine At.nrm ?_
 refine At.zi (.q 0 (.q 1 .done)) ?_
 refine AtT.zf ?_
 refine AtT.qp ?_
 refine AtT.done ?_
 refine At.nrm ?_
 refine At.qb rfl (fun hp => ?_) (fun hp => ?_)
 ·refine At.nrm ?_
  refine At.zi (.q 0 (.q 1 (.q 2 .done))) ?_
  refine AtT.zf ?_
  refine AtT.krem ?_
  rw [show ((u / 16 ^ k : Nat) : Int).tmod 16 = ((u / 16 ^ k % 16 : Nat) : Int) from rfl]
  refine AtT.zg ?_
  refine AtT.done ?_
  refine At.nrm ?_
  refine At.zi (.q 0 (.q 1 (.q 2 (.q 3 (.q 4 (.q 5 (.q 6 .done))))))) ?_
  refine AtT.zf ?_
  refine AtT.zf ?_
  first | refine AtT.qG ?_ | refine AtT.qd ?_
  refine AtT.subT rfl trivial Tryz.underlying9 rfl rfl rfl (by omega) (by omega) (by show _ ≤ ((16 : Nat) : Int); omega) (by decide) ?_
  rw [show (((u / 16 ^ k % 16 : Nat) : Int) + 1).toNat = u / 16 ^ k % 16 + 1 by omega, show ((u / 16 ^ k % 16 : Nat) : Int).toNat = u / 16 ^ k % 16 from rfl, dig_sub _ hm]
  refine AtT.zf ?_
  refine AtT.catT rfl trivial rfl rfl (by rw [hlen]; show ((1 : Nat) : Int) + _ ≤ _; omega) (by decide) ?_
  refine AtT.zg ?_
  refine AtT.done ?_
  refine At.nrm ?_
  refine At.zi (.q 0 (.q 1 (.q 2 .done))) ?_
  refine AtT.zf ?_
  refine AtT.kquo ?_ (hf := by rw [show ((u / 16 ^ k : Nat) : Int).tdiv 16 = ((u / 16 ^ k / 16 : Nat) : Int) from rfl]; have hq : u / 16 ^ k / 16 < 65536 := Nat.lt_of_le_of_lt (Nat.div_le_self _ _) hlt; revert hq; generalize u / 16 ^ k / 16 = z; intro hq; unfold Fit; omega)
  rw [show ((u / 16 ^ k : Nat) : Int).tdiv 16 = ((u / 16 ^ k / 16 : Nat) : Int) from rfl]
  refine AtT.zg ?_
  refine AtT.done ?_
  refine At.nrm ?_
  refine At.zi (.q 0 (.q 1 (.q 2 .done))) ?_
  refine AtT.zf ?_
  first | refine AtT.qG ?_ | refine AtT.qd ?_
  refine AtT.zg ?_
  refine AtT.done ?_
  refine At.nrm ?_
  refine At.round (k + 1) ?_ ?_ ?_ ?_
  ·show 4 - (k + 1) < 4 - k; omega
  ·exact ⟨rfl, by omega⟩
  ·refine ⟨?_, rfl, ivs (by omega), trivial⟩
   rw [hstep]; rfl
  ·exact Pt.zI
 obtain rfl : k = 4 := by omega
 refine At.nrm ?_
 refine At.zi (.q 0 (.q 1 .done)) ?_
 refine AtT.zf ?_
 refine AtT.zg ?_
 refine AtT.done ?_
 refine At.nrm ?_
 exact At.qh rfl (.tmp rfl) (by rw [lowH_4])
theorem rcheckOf_f (s : List UInt8) (hs : s.length ≤ 1000000) (V : View) : Fnc Tryz.prog 73 [sT s] V fun r _ => r = sT (chk s) := by
 refine ql Tryz.func73 rfl Tryz.ntmps73 (Nat.le_of_ble_eq_true rfl) ?_
 intro w0 hw0
 refine At.nrm ?_
 refine At.zi (.q 0 .done) ?_
 refine AtT.zg ?_
 refine AtT.done ?_
 refine At.nrm ?_
 refine At.zi (.q 0 (.q 1 .done)) ?_
 refine AtT.zg ?_
 refine AtT.zg ?_
 refine AtT.done ?_
 refine At.nrm ?_
 refine At.zi (.q 0 .done) ?_
 refine AtT.zg ?_
 refine AtT.done ?_
 refine At.nrm ?_
 refine At.lp (ι := Nat) (KS := fun i => [(0, sT s), (3, iv (adl 1 0 (s.take i)).1), (4, iv (adl 1 0 (s.take i)).2), (5, iv i)])
  (OS := fun i => [])
  (VS := fun i V' => V' = V ∧ i ≤ s.length) (μ := fun i => s.length - i) 0 ?_ ?_ ?_ ?_
 ·exact ⟨rfl, rfl, rfl, rfl, trivial⟩
 ·exact Pt.zI
 ·exact ⟨rfl, Nat.zero_le _⟩
 rintro i V' ks' O' ⟨rfl, hi⟩ hk hO hl
 subst hk hO
 have hab := adl_lt (s.take i) (show 1 < 65521 by decide) (show 0 < 65521 by decide)
 refine At.nrm ?_
 refine At.zi (.q 0 (.q 1 (.q 2 (.q 3 .done)))) ?_
 refine AtT.zf ?_
 refine AtT.zf ?_
 refine AtT.qR rfl trivial Tryz.underlying9 rfl (by decide) ?_
 refine AtT.qp ?_
 refine AtT.done ?_
 refine At.nrm ?_
 refine At.qb rfl (fun hp => ?_) (fun hp => ?_)
 ·obtain ⟨c, hc⟩ : ∃ c, s[i]? = some c := ⟨_, List.getElem?_eq_getElem (by omega)⟩
  have hst := adT_step hc
  have hcl := c.toNat_lt
  have hgd : s.getD (i : Int).toNat 0 = c := by
   rw [List.getD_eq_getElem?_getD, show (i : Int).toNat = i from rfl, hc]; rfl
  refine At.nrm ?_
  refine At.zi (.q 0 (.q 1 (.q 2 (.q 3 (.q 4 (.q 5 (.q 6 (.q 7 .done)))))))) ?_
  refine AtT.zf ?_
  refine AtT.zf ?_
  refine AtT.zf ?_
  refine AtT.ixT rfl trivial Tryz.underlying9 rfl rfl (by omega) (by omega) (by decide) ?_
  rw [hgd]
  refine AtT.kconv un5 Tryz.underlying3 ?_
  rw [Go.Lib.wrap_i64_small _ (by omega)]
  first | refine AtT.qG ?_ | refine AtT.qd ?_
  refine AtT.krem ?_
  rw [show (((adl 1 0 (s.take i)).1 : Int) + (c.toNat : Int)).tmod 65521 = ((((adl 1 0 (s.take i)).1 + c.toNat) % 65521 : Nat) : Int) from rfl]
  refine AtT.zg ?_
  refine AtT.done ?_
  refine At.nrm ?_
  refine At.zi (.q 0 (.q 1 (.q 2 (.q 3 (.q 4 .done))))) ?_
  refine AtT.zf ?_
  refine AtT.zf ?_
  first | refine AtT.qG ?_ | refine AtT.qd ?_
  refine AtT.krem ?_
  rw [show (((adl 1 0 (s.take i)).2 : Int) + (((adl 1 0 (s.take i)).1 + c.toNat) % 65521 : Nat)).tmod 65521 = ((((adl 1 0 (s.take i)).2 + ((adl 1 0 (s.take i)).1 + c.toNat) % 65521) % 65521 : Nat) : Int) from rfl]
  refine AtT.zg ?_
  refine AtT.done ?_
  refine At.nrm ?_
  refine At.zi (.q 0 (.q 1 (.q 2 .done))) ?_
  refine AtT.zf ?_
  first | refine AtT.qG ?_ | refine AtT.qd ?_
  refine AtT.zg ?_
  refine AtT.done ?_
  refine At.nrm ?_
  refine At.round (i + 1) ?_ ?_ ?_ ?_
  ·show s.length - (i + 1) < s.length - i; omega
  ·exact ⟨rfl, by omega⟩
  ·refine ⟨rfl, ?_, ?_, ivs (by omega), trivial⟩
   ·rw [hst]; rfl
   ·rw [hst]; rfl
  ·exact Pt.zI
 obtain rfl : i = s.length := by omega
 rw [List.take_length] at hab ⊢
 refine At.nrm ?_
 refine At.zi (.q 0 (.n false 1 (.q 2 (.n false 3 (.q 4 (.q 5 .done)))))) ?_
 refine AtT.zf ?_
 refine AtT.zG rfl rfl ok96 (hex_f (adl 1 0 s).2 (by omega) V') ?_
 rintro _ rfl
 refine AtT.zf ?_
 refine AtT.zG rfl rfl ok96 (hex_f (adl 1 0 s).1 (by omega) V') ?_
 rintro _ rfl
 refine AtT.catT rfl trivial rfl rfl (by rw [hex4_len, hex4_len]; decide) (by decide) ?_
 refine AtT.zg ?_
 refine AtT.done ?_
 refine At.nrm ?_
 exact At.qh rfl (.tmp rfl) rfl
theorem rcheck_f (s : List UInt8) (hs : s.length ≤ 1000000) (V : View) : Fnc Tryz.prog 36 [sT s] V fun r _ => r = .tuple #[sT (if 4000 < s.length then [] else chk s), iv (if 4000 < s.length then 7 else 0)] := by
 refine ql Tryz.func36 rfl Tryz.ntmps36 (Nat.le_of_ble_eq_true rfl) ?_
 intro w0 hw0
 refine At.nrm ?_
 refine At.zi (.q 0 (.q 1 .done)) ?_
 refine AtT.zg ?_
 refine AtT.zg ?_
 refine AtT.done ?_
 refine At.nrm ?_
 by_cases h : 4000 < s.length
 ·refine At.zi (.q 0 (.q 1 (.q 2 .done))) ?_
  refine AtT.zf ?_
  refine AtT.qR rfl trivial Tryz.underlying9 rfl (by decide) ?_
  refine AtT.qI ?_
  refine AtT.qa (d := 6) rfl ((by omega)) ?_
  refine AtT.done ?_
  refine At.nrm ?_
  all_goals refine At.zU rfl rfl ?_
  refine At.nrm ?_
  refine At.zi (.q 0 (.q 1 .done)) ?_
  refine AtT.zg ?_
  refine AtT.zg ?_
  refine AtT.done ?_
  refine At.nrm ?_
  exact At.qN rfl (.tmp rfl) (.tmp rfl) (by rw [if_pos h, if_pos h])
 refine At.zi (.q 0 (.q 1 (.q 2 .done))) ?_
 refine AtT.zf ?_
 refine AtT.qR rfl trivial Tryz.underlying9 rfl (by decide) ?_
 refine AtT.qI ?_
 refine AtT.zS (d := 6) rfl ((by omega)) ?_
 refine AtT.done ?_
 refine At.nrm ?_
 all_goals refine At.zX rfl rfl ?_
 refine At.nrm ?_
 refine At.zi (.q 0 (.n false 1 (.q 2 (.q 3 .done)))) ?_
 refine AtT.zf ?_
 refine AtT.zG rfl rfl ok73 (rcheckOf_f s hs V) ?_
 rintro _ rfl
 refine AtT.zg ?_
 refine AtT.zg ?_
 refine AtT.done ?_
 refine At.nrm ?_
 exact At.qN rfl (.tmp rfl) (.tmp rfl) (by rw [if_neg h, if_neg h])
end Go.Proofs.YtpoignmclfdgpaaGreatDoor
set_option linter.unusedVariables false
namespace Go.Proofs.YtpoignmclfdgpaaGreatDoor
open Go.Lw Go.Gl Go.Bk Go.RowKit
structure Frm where
 w : List UInt8
 k : Int
abbrev fme (f : Frm) : List Value := [sT f.w, iv f.k]
theorem fme_len (f : Frm) : (fme f).length = 2 := rfl
def formsL : List Frm := [⟨[114], 0⟩, ⟨[105, 110], 1⟩, ⟨[111, 117, 116], 2⟩, ⟨[109, 97, 107, 101], 3⟩, ⟨[98, 97, 99, 107], 4⟩]
abbrev frm0 : Frm := ⟨[], 0⟩
theorem forms_f (V : View) : Fnc Tryz.prog 99 [] V fun r V' => Sl V' fme 2 r formsL := by
 refine ql Tryz.func99 rfl Tryz.ntmps99 (Nat.le_of_ble_eq_true rfl) ?_
 intro w0 hw0
 refine At.nrm ?_
 refine At.zi (.q 0 .done) ?_
 refine AtT.zg ?_
 refine AtT.done ?_
 refine At.nrm ?_
 refine At.zi (.q 0 (.q 1 (.q 2 (.q 3 (.q 4 (.n false 5 (.q 6 .done))))))) ?_
 refine AtT.qy (bd140_0_1 _ _) ?_
 refine AtT.qy (bd140_0_1 _ _) ?_
 refine AtT.qy (bd140_0_1 _ _) ?_
 refine AtT.qy (bd140_0_1 _ _) ?_
 refine AtT.qy (bd140_0_1 _ _) ?_
 refine AtT.zN (bs143_5_0_1_2_3_4 _ _ _ _ _ _ _ _ _ _) ?_
 intro q6 V6 hV6 hq6
 have g6 : Le V V6 := by first | exact hV6 | exact Le.trans (by assumption) hV6
 refine AtT.zg ?_
 refine AtT.done ?_
 refine At.nrm ?_
 exact At.qh rfl (.tmp rfl) (Sl.of_cells (l := formsL) fme_len hq6 (Nat.le_refl _) (by unfold maxLen; decide))
theorem line1_f (f : Frm) (n : Int) (q : Addr) (V : View) (hq : Cells V q [iv n]) : Fnc Tryz.prog 100 ([] ++ [.agg #[sT f.w, iv f.k]] ++ [.pointer (some q)]) V fun r _ => r = .bool (decide (f.k = n)) := by
 refine ql Tryz.func100 rfl Tryz.ntmps100 (Nat.le_of_ble_eq_true rfl) ?_
 intro w0 hw0
 refine At.nrm ?_
 refine At.zi (.n false 0 (.q 1 .done)) ?_
 refine AtT.jE ?_
 intro b2
 refine AtT.zg ?_
 refine AtT.done ?_
 refine At.nrm ?_
 refine At.zi (.q 0 (.q 1 (.q 2 (.q 3 (.q 4 .done))))) ?_
 first | refine AtT.zk jG ?_ | with_reducible refine AtT.zl jG ?_ | refine AtT.zn jG ?_
 first | refine AtT.zm tk3 ?_ | refine AtT.zo tk3 ?_
 first | refine AtT.zm tk3 ?_ | refine AtT.zo tk3 ?_
 refine AtT.qF ?_
 refine AtT.zg ?_
 refine AtT.done ?_
 refine At.nrm ?_
 exact At.qh rfl (.tmp rfl) rfl
theorem find_f (g : FuncId) (cap : List Value) (p : Frm → Bool) (V : View) (vl : Value) (l : List Frm) (hs : Sl V fme 2 vl l) (hok : zM Tryz.prog g)
  (hc : ∀ x, x ∈ l → Fnc Tryz.prog g ([] ++ [.agg #[sT x.w, iv x.k]] ++ cap) V (fun v _ => v = .bool (p x))) :
  Fnc Tryz.prog 98 [vl, .func (.func g) #[] cap.toArray] V fun v _ => v = .tuple #[.agg #[sT ((l.find? p).getD frm0).w, iv ((l.find? p).getD frm0).k], .bool (l.find? p).isSome] := by
 have hlen := hs.jA
 refine ql Tryz.func98 rfl Tryz.ntmps98 (Nat.le_of_ble_eq_true rfl) ?_
 intro w0 hw0
 refine At.nrm ?_
 refine At.zi (.n false 0 (.q 1 .done)) ?_
 refine AtT.zT z140 ?_
 intro b4
 refine AtT.zg ?_
 refine AtT.done ?_
 refine At.nrm ?_
 refine At.zi (.q 0 (.q 1 (.q 2 .done))) ?_
 refine AtT.zf ?_
 first | refine AtT.zR Tryz.underlying143 ?_ | refine AtT.zQ Tryz.underlying143 ?_
 refine AtT.zf ?_
 refine AtT.done ?_
 refine At.nrm ?_
 refine At.lp (ι := Nat) (KS := fun k => [(0, vl), (1, .func (.func g) #[] cap.toArray), (4, .pointer (some ⟨b4, 0, none⟩)), (9, vl), (10, iv l.length), (11, iv k)]) (OS := fun _ => [.blk b4 (LC [sT [], iv 0] 140)])
  (VS := fun k V' => V' = V ∧ k ≤ l.length ∧ (l.take k).find? p = none) (μ := fun k => l.length - k) 0 ?_ ?_ ?_ ?_
 ·exact ⟨rfl, rfl, rfl, rfl, rfl, rfl, trivial⟩
 ·exact Pt.zI
 ·exact ⟨rfl, Nat.zero_le _, rfl⟩
 rintro k V' ks' O' ⟨rfl, hkl, hno⟩ hk hO hl
 subst hk hO
 refine At.nrm ?_
 refine At.zi (.q 0 .done) ?_
 refine AtT.qp ?_
 refine AtT.done ?_
 refine At.nrm ?_
 refine At.qb rfl (fun hp => ?_) (fun hp => ?_)
 ·refine At.nrm ?_
  refine At.zi (.q 0 (.q 1 (.n false 2 (.n true 3 .done)))) ?_
  refine AtT.qm Tryz.underlying143 ko ?_
  intro p13 e13 he13 hc13
  first | refine AtT.zF ko ?_ | refine AtT.zJ ko ?_ | refine AtT.zD ko ?_
  refine AtT.zT z140 ?_
  intro b7
  refine AtT.zy ko ?_
  refine AtT.done ?_
  refine At.nrm ?_
  have hee : l[k]? = some e13 := by simpa using he13
  have hnx : l.take (k + 1) = l.take k ++ [e13] := by
   rw [List.take_succ_eq_append_getElem (by omega)]; congr 1; rw [List.getElem?_eq_getElem (by omega)] at hee; simpa using hee
  have hsp : l = l.take k ++ e13 :: l.drop (k + 1) := by
   rw [List.getElem?_eq_getElem (by omega)] at hee
   have : l[k] = e13 := by simpa using hee
   rw [← this, ← List.drop_eq_getElem_cons (by omega), List.take_append_drop]
  refine At.zi (.q 0 (.q 1 (.n false 2 .done))) ?_
  refine AtT.zf ?_
  first | refine AtT.zF ko ?_ | refine AtT.zJ ko ?_ | refine AtT.zD ko ?_
  refine AtT.kcallV rfl rfl rfl hok (hc e13 (List.mem_of_getElem? hee)) ?_
  rintro _ rfl
  refine AtT.done ?_
  refine At.nrm ?_
  refine At.cond rfl (fun hb => ?_) (fun hb => ?_)
  ·have hf : l.find? p = some e13 := by rw [hsp, List.find?_append, hno]; simp [hb]
   refine At.nrm ?_
   refine At.zi (.q 0 (.n true 1 (.q 2 .done))) ?_
   first | refine AtT.zF ko ?_ | refine AtT.zJ ko ?_ | refine AtT.zD ko ?_
   refine AtT.zy ko ?_
   refine AtT.zg ?_
   refine AtT.done ?_
   refine At.nrm ?_
   refine At.qN rfl (.agg rfl ko zP.zI rfl) (.tmp rfl) ?_
   rw [hf]; rfl
  ·refine At.nrm ?_
   refine At.zi (.q 0 (.q 1 .done)) ?_
   first | refine AtT.qG ?_ | refine AtT.qd ?_
   refine AtT.zf ?_
   refine AtT.done ?_
   refine At.nrm ?_
   refine At.round (k + 1) ?_ ?_ ?_ ?_
   ·show l.length - (k + 1) < l.length - k; omega
   ·refine ⟨rfl, by omega, ?_⟩
    rw [hnx, List.find?_append, hno]; simp [hb]
   ·exact ⟨rfl, rfl, rfl, rfl, rfl, ivs (by omega), trivial⟩
   ·exact Pt.zI
 obtain rfl : k = l.length := by omega
 rw [List.take_length] at hno
 refine At.nrm ?_
 refine At.zi (.n false 0 .done) ?_
 refine AtT.zT z140 ?_
 intro b8
 refine AtT.done ?_
 refine At.nrm ?_
 refine At.zi (.q 0 (.n true 1 (.q 2 .done))) ?_
 first | refine AtT.zF ko ?_ | refine AtT.zJ ko ?_ | refine AtT.zD ko ?_
 refine AtT.zy ko ?_
 refine AtT.zg ?_
 refine AtT.done ?_
 refine At.nrm ?_
 refine At.qN rfl (.agg rfl ko zP.zI rfl) (.tmp rfl) ?_
 rw [hno]; rfl
def wd0 (k : Int) : List UInt8 := if k = 0 then [114] else wd k
theorem form_k {k : Int} (h : 0 ≤ k ∧ k ≤ 4) : ((formsL.find? fun f => decide (f.k = k)).getD frm0).w = wd0 k := by
 have : k = 0 ∨ k = 1 ∨ k = 2 ∨ k = 3 ∨ k = 4 := by omega
 rcases this with rfl | rfl | rfl | rfl | rfl <;> decide
theorem wd0_len (k : Int) : (wd0 k).length ≤ 4 := by
 unfold wd0 wd
 split
 ·decide
 ·split
  ·decide
  ·split
   ·decide
   ·split <;> decide
theorem itoa_len {n : Int} (h : 0 ≤ n ∧ n < 1000000) : (Lib.itoa n).length ≤ 6 := by
 rw [itoa_of h.1]; exact (dec_len (by omega)).2
theorem lnT_snoc (w : List UInt8) (l : List Int) (n : Int) : lnT w (l ++ [n]) = lnT w l ++ ([32] ++ Lib.itoa n) := by simp [lnT]
theorem lnT_len (w : List UInt8) : ∀ {l : List Int}, (∀ n ∈ l, 0 ≤ n ∧ n < 1000000) → (lnT w l).length ≤ w.length + 7 * l.length
 | [], _ => by simp [lnT]
 | n :: l, h => by
  have h1 := itoa_len (h n List.mem_cons_self)
  have h2 := lnT_len w (l := l) fun x hx => h x (List.mem_cons_of_mem _ hx)
  simp only [lnT, List.length_append, List.map_cons, List.flatten_cons, List.length_cons] at h2 ⊢
  omega
theorem jq {α : Type} {l : List α} {i : Nat} {x : α} (h : l[i]? = some x) : l.take (i + 1) = l.take i ++ [x] := by
 rw [List.take_add_one, h]; rfl
theorem line_f (k : Int) (hk : 0 ≤ k ∧ k ≤ 4) (l : List Int) (hln : l.length ≤ 10000) (hl : ∀ n ∈ l, 0 ≤ n ∧ n < 1000000) (V : View) (hg : GvV V) (v : Value) (hs : SlI V v l) : Fnc Tryz.prog 75 [iv k, v] V fun r _ => r = sT (lnT (wd0 k) l ++ [10]) := by
 have hlen := hs.jA
 have hw := wd0_len k
 refine ql Tryz.func75 rfl Tryz.ntmps75 (Nat.le_of_ble_eq_true rfl) ?_
 intro w0 hw0
 refine At.nrm ?_
 refine At.zi (.n false 0 (.q 1 .done)) ?_
 refine AtT.jE ?_
 intro b2
 refine AtT.zg ?_
 refine AtT.done ?_
 refine At.nrm ?_
 refine At.giveB (b := b2) zP.zI (fun V2 hV2 hb2 => ?_)
 have g2 : Le V V2 := hV2
 have hcl : Cells V2 ⟨b2, 0, none⟩ [iv k] := jy hb2
 refine At.zi (.n false 0 (.q 1 (.n false 2 (.q 3 (.q 4 (.q 5 (.n false 6 (.n true 7 (.q 8 .done))))))))) ?_
 refine AtT.qg rfl rfl ok99 (forms_f V2) ?_
 intro v11 V11 hV11 hfm
 refine AtT.kfn ?_
 refine AtT.zG rfl rfl ok98 (find_f 100 [.pointer (some ⟨b2, 0, none⟩)] (fun f => decide (f.k = k)) V11 v11 formsL hfm ok100 (fun x _ => line1_f x k ⟨b2, 0, none⟩ V11 (hcl.le hV11))) ?_
 rintro _ rfl
 refine AtT.zf ?_
 refine AtT.zt ?_
 rw [form_k hk]
 refine AtT.zt ?_
 refine AtT.zT z140 ?_
 intro b5
 refine AtT.zy ko ?_
 refine AtT.zg ?_
 refine AtT.done ?_
 refine At.nrm ?_
 refine At.zi (.q 0 (.q 1 (.q 2 .done))) ?_
 first | refine AtT.zk fo140_0 ?_ | with_reducible refine AtT.zl fo140_0 ?_ | refine AtT.zn fo140_0 ?_
 first | refine AtT.zm tk9 ?_ | refine AtT.zo tk9 ?_
 refine AtT.zg ?_
 refine AtT.done ?_
 refine At.nrm ?_
 have hs1 := (hs.le hV2).le hV11
 have hg1 := (hg.le hV2).le hV11
 refine At.zi (.q 0 (.q 1 (.q 2 .done))) ?_
 refine AtT.zf ?_
 first | refine AtT.zR Tryz.underlying28 ?_ | refine AtT.zQ Tryz.underlying28 ?_
 refine AtT.zf ?_
 refine AtT.done ?_
 refine At.nrm ?_
 refine At.lp (ι := Nat) (KS := fun i => [(7, sT (lnT (wd0 k) (l.take i))), (18, v), (19, iv l.length), (20, iv i)]) (OS := fun _ => [])
  (VS := fun i V' => V' = V11 ∧ i ≤ l.length) (μ := fun i => l.length - i) 0 ?_ ?_ ?_ ?_
 ·exact ⟨by show some (sT (wd0 k)) = some (sT (wd0 k ++ [])); rw [List.append_nil], rfl, rfl, rfl, trivial⟩
 ·exact Pt.zI
 ·exact ⟨rfl, Nat.zero_le _⟩
 rintro i V' ks' O' ⟨rfl, hil⟩ hk' hO hl2
 subst hk' hO
 have hbd := lnT_len (wd0 k) (l := l.take i) fun x hx => hl x (List.mem_of_mem_take hx)
 rw [List.length_take_of_le hil] at hbd
 refine At.nrm ?_
 refine At.zi (.q 0 .done) ?_
 refine AtT.qp ?_
 refine AtT.done ?_
 refine At.nrm ?_
 refine At.qb rfl (fun hp => ?_) (fun hp => ?_)
 ·refine At.nrm ?_
  refine At.zi (.q 0 (.q 1 (.q 2 .done))) ?_
  refine AtT.qm Tryz.underlying28 tk2 ?_
  intro p22 e22 he22 hc22
  first | refine AtT.zm tk2 ?_ | refine AtT.zo tk2 ?_
  refine AtT.zg ?_
  refine AtT.done ?_
  refine At.nrm ?_
  have hee : l[i]? = some e22 := by simpa using he22
  have hen := hl e22 (List.mem_of_getElem? hee)
  have hil6 := itoa_len hen
  refine At.zi (.q 0 (.q 1 (.n false 2 (.q 3 (.q 4 (.q 5 .done)))))) ?_
  refine AtT.zf ?_
  refine AtT.zf ?_
  refine AtT.zG rfl rfl ok101 (fmt10_f e22 (by omega) (by omega) V' hg1) ?_
  rintro _ rfl
  refine AtT.catT rfl trivial rfl rfl (by show ((1 : Nat) : Int) + _ ≤ _; omega) (by decide) ?_
  refine AtT.catT rfl trivial rfl rfl (by rw [List.length_append]; show _ + (((1 + (Lib.itoa e22).length : Nat)) : Int) ≤ _; omega) (by decide) ?_
  refine AtT.zg ?_
  refine AtT.done ?_
  refine At.nrm ?_
  refine At.zi (.q 0 (.q 1 .done)) ?_
  first | refine AtT.qG ?_ | refine AtT.qd ?_
  refine AtT.zf ?_
  refine AtT.done ?_
  refine At.nrm ?_
  refine At.round (i + 1) ?_ ?_ ?_ ?_
  ·show l.length - (i + 1) < l.length - i; omega
  ·exact ⟨rfl, by omega⟩
  ·refine ⟨?_, rfl, rfl, ivs (by omega), trivial⟩
   rw [jq hee, lnT_snoc]; rfl
  ·exact Pt.zI
 obtain rfl : i = l.length := by omega
 rw [List.take_length] at hbd ⊢
 refine At.nrm ?_
 refine At.zi (.q 0 (.q 1 (.q 2 .done))) ?_
 refine AtT.zf ?_
 refine AtT.catT rfl trivial rfl rfl (by show _ + ((1 : Nat) : Int) ≤ _; omega) (by decide) ?_
 refine AtT.zg ?_
 refine AtT.done ?_
 refine At.nrm ?_
 exact At.qh rfl (.tmp rfl) rfl
end Go.Proofs.YtpoignmclfdgpaaGreatDoor
set_option linter.unusedVariables false
namespace Go.Lw
open Go.Instr Go.RowKit
theorem byE_len (u : UInt8) : (byE u).length = 1 := rfl
theorem flat_by : ∀ l : List UInt8, flat byE l = Lib.strCells ⟨l.toArray⟩
 | [] => rfl
 | c :: l => by
  have := flat_by l
  show .int .u8 (c.toNat : Int) :: flat byE l = _
  rw [this]; rfl
theorem run_appendS_mine {P : Program} {w : World} {base : Nat} (t u ty e : TypeId) (i : TypeInfo) (ht : P.underlying t = some (.slice e)) (hu : P.underlying u = some .string) (hi : P.info? e = some i) (hz : i.zero = some (.int .u8 0))
  (hsize : i.size = 1) (hby : i.bytes = 1) (v : Value) (n : Nat) (xs : List Value) (hown : w.ownsRow base e 1 v n xs) (s : ByteArray)
  (h63 : n + s.size ≤ maxLen) (hbytes : n + s.size ≤ 140737488355328) (hbase : base ≤ w.heap.size) :
  ∃ b cap w', (Builtin.append_ #[t, u] ty #[v, .string s]).run P w = .ok (.slice b (n + s.size) cap) w' ∧ w'.ownsRow base e 1 (.slice b (n + s.size) cap) (n + s.size) (xs ++ Lib.strCells s) ∧ w.grownBy w' v.ownBlock ∧
   (∀ g, Value.ownBlock (.slice b (n + s.size) cap) = some g → v.ownBlock = some g ∨ w.heap.size ≤ g) := by
 have hl := Lib.strCells_length s
 have h1 := Lib.strCells_oneCell s
 rcases hown.2 with ⟨rfl, rfl⟩ | ⟨g, cp, cur, rfl, hbg, hg, hnc, hcm, hcs, htake⟩
 ·have hown' : w.ownsRow w.heap.size e 1 (.slice none 0 0) 0 xs := ⟨hown.1, .inl ⟨rfl, rfl⟩⟩
  obtain ⟨v', w', hr, ho, hgr, _⟩ := Lib.run_append_own_string (P := P) w w.heap.size t u ty e i ht hu hi hz hsize hby _ 0 xs hown' s h63 hbytes (Nat.le_refl _)
  rcases ho.2 with ⟨rfl, hn0⟩ | ⟨g', cap', cur', rfl, hbg', rest⟩
  ·refine ⟨none, 0, w', by rw [hr, hn0], ⟨ho.1, .inl ⟨by rw [hn0], hn0⟩⟩, hgr, fun g h => by cases h⟩
  ·refine ⟨some ⟨g', 0, none⟩, cap', w', hr, ⟨ho.1, .inr ⟨g', cap', cur', rfl, Nat.le_trans hbase hbg', rest⟩⟩, hgr, fun g h => ?_⟩
   simp only [Value.ownBlock, Option.some.injEq] at h
   subst h; exact .inr hbg'
 ·have hxl : xs.length = n := by have := hown.1; rwa [Nat.mul_one] at this
  rw [Nat.mul_one] at hcs
  by_cases hroom : n + s.size ≤ cp
  ·have hr := Lib.run_append_room_string (P := P) w t u ty e i ht hu hi hsize g n cp cur hg s hroom (by rw [hcs]; exact hroom)
   refine ⟨some ⟨g, 0, none⟩, cp, _, hr, ⟨by rw [List.length_append, hxl, hl, Nat.mul_one], .inr ⟨g, cp, _, rfl, hbg, setRow_heap w g cur _ e _ hg, hroom, hcm, ?_, ?_⟩⟩, ⟨rfl, rfl, rfl, by simp, fun k _ hk => setRow_other w g k _ (fun e => hk (by simp [Value.ownBlock, e]))⟩, fun g' h => .inl h⟩
   ·simp only [List.size_toArray, List.length_append, List.length_take, List.length_drop, Array.length_toList]
    omega
   ·have hlen : (xs ++ Lib.strCells s).length = (n + s.size) * 1 := by rw [List.length_append, hxl, hl, Nat.mul_one]
    rw [Nat.mul_one] at htake
    rw [htake, ← hlen]
    exact List.take_left
  ·have holds : ∀ j u, xs[j]? = some u → w.cell? ((⟨g, 0, none⟩ : Addr).add j) = some u := hown.cells (g := g) rfl
   have hr := Lib.run_append_grow_string (P := P) w t u ty e i (.int .u8 0) ht hu hi hz ⟨g, 0, none⟩ n cp xs (by rw [hsize]; exact hown.1) holds s (by omega) (by simp only [maxLen] at h63; omega) (growslice_fits (by omega) (by rw [hby]; omega))
   refine ⟨some ⟨w.heap.size, 0, none⟩, grownCap w (n + s.size) cp e, _, hr, ⟨by rw [List.length_append, hxl, hl, Nat.mul_one], .inr ⟨w.heap.size, _, _, rfl, hbase, heap_alloc_new w.drew _, grownCap_ge w (n + s.size) cp e, grownCap_le_maxLen w (n + s.size) cp e h63, ?_, ?_⟩⟩,
    ⟨rfl, rfl, rfl, by simp, fun k hk _ => heap_alloc_old w.drew _ hk⟩, fun g' h => ?_⟩
   ·have hge := grownCap_ge w (n + s.size) cp e
    have h0 : (Value.int .u8 0).cells.size = 1 := rfl
    simp only [Array.size_append, List.size_toArray, size_zeroCells, h0, hxl, hl, Nat.mul_one]
    omega
   ·have hlen : (xs ++ Lib.strCells s).length = (n + s.size) * 1 := by rw [List.length_append, hxl, hl, Nat.mul_one]
    simp only [Array.toList_append, List.append_assoc]
    rw [← List.append_assoc, ← hlen]
    exact List.take_left
   ·simp only [Value.ownBlock, Option.some.injEq] at h
    subst h; exact .inr (Nat.le_refl _)
section
variable {cx : Cx} {n : Nat} {ks : List (Nat × Value)} {O R : List Own} {V : View} {P : Program} {ops : Array Oper} {Qn : Act → World → Prop} {t : Tr} {i d : Nat} {x y : Operand} {T : TypeId} {pos : String} {after : Array Edge} {gd : Option (Nat × Bool)} {X Y : TypeId} {v : Value}
theorem AtT.appendS {E : TypeId} {m : Nat} {xs : List Value} {l : List UInt8} (ho : ops[i]? = some ⟨some d, .call ⟨.builtin .append, #[x, y], #[X, Y]⟩, T, pos, after, gd⟩) (hg : Gd ks ops gd) (hX : P.underlying X = some (.slice E)) (hY : P.underlying Y = some .string) (hE : rowB P E = some (.int .u8 0, 1, 1))
  (hx : ev ks x = some v) (hy : ev ks y = some (sT l)) (hp : zP (.row v E 1 m xs) O R) (hb : m + l.length ≤ 140737488355328) (hn : d < n)
  (next : ∀ a cap, AtT cx n ((d, .slice a (m + l.length) cap) :: ks) (.row (.slice a (m + l.length) cap) E 1 (m + l.length) (xs ++ flat byE l) :: R) V P ops Qn t) : AtT cx n ks O V P ops Qn (.n true i t) :=
 .x ho hg fun a w hk hm => by
  have hm1 := hm.pick hp
  obtain ⟨fp, ⟨f, g, _, ⟨_, hrow⟩, _⟩, _, _⟩ := hm1.own
  obtain ⟨ti, hi, hz, hsz, hbz⟩ := rowB_info hE
  obtain ⟨b, cap, w', hr, ho', hg, hfr⟩ := run_appendS_mine (P := P) X Y T E ti hX hY hi hz hsz hbz v m xs hrow ⟨l.toArray⟩ (by show m + l.length ≤ maxLen; unfold maxLen; omega) hb hm.below.size
  rw [← flat_by] at ho'
  simp only [opW, execOp, resolve, invoke, builtin, Sem.run_bind, Sem.run_pure, Result.andThen_ok, List.map_toArray, List.map_cons, List.map_nil, hk.ev hx, hk.ev hy, hr]
  exact ⟨_, _, V, hk.put hn _, hm1.rowSet hg ho' hfr, fun h => (by cases h), next b cap⟩
end
end Go.Lw
set_option linter.unusedVariables false
namespace Go.Proofs.YtpoignmclfdgpaaGreatDoor
open Go.Lw Go.Gl Go.Bk Go.RowKit Go.Shelf
section
variable {cx : Cx} {n : Nat} {ks : List (Nat × Value)} {O R : List Own} {V : View} {ops : Array Oper} {Qn : Act → World → Prop} {t : Tr} {i d : Nat} {T : TypeId} {pos : String} {after : Array Edge} {gd : Option (Nat × Bool)} {x y : Operand} {wr : Bool}
theorem AtT.unsafeSD {X : TypeId} {a0 : Addr} {m c : Nat} (ho : ops[i]? = some ⟨some d, .call ⟨.builtin .unsafeSliceData, #[x], #[X]⟩, T, pos, after, gd⟩) (hg : Gd ks ops gd) (hx : ev ks x = some (.slice (some a0) m c)) (hc : c ≠ 0) (hn : d < n)
  (next : AtT cx n ((d, .pointer (some a0)) :: ks) O V Tryz.prog ops Qn t) : AtT cx n ks O V Tryz.prog ops Qn (.n wr i t) :=
 .x ho hg fun a w hk hm => by
  have e0 : (#[x] : Array Operand).map a.eval = #[.slice (some a0) m c] := by simp [hk.ev hx]
  have hr := Lib.run_unsafeSliceData_row (P := Tryz.prog) (w := w) #[X] T a0 m c hc
  simp only [opW, execOp, resolve, e0, Sem.run_bind, Sem.run_pure, Result.andThen_ok, invoke, builtin, hr]
  exact ⟨_, O, V, hk.put hn _, hm, fun _ u hu => hu, next⟩
theorem AtT.unsafeStr {g : Nat} {l : List UInt8} {rest : List Value} {fr : Nat × Nat} (ho : ops[i]? = some ⟨some d, .call ⟨.builtin .unsafeString, #[x, y], #[147, 3]⟩, T, pos, after, gd⟩) (hg : Gd ks ops gd) (hx : ev ks x = some (.pointer (some ⟨g, 0, none⟩))) (hy : ev ks y = some (.int .i64 l.length)) (h0 : l ≠ []) (h63 : l.length ≤ 9223372036854775807) (hfr : fr = (0, 0) ∨ fr = (0, 0 + l.length)) (hp : zP (.blk g (LC (flat byE l ++ rest) 5 fr)) O R) (hn : d < n)
  (next : AtT cx n ((d, .string ⟨l.toArray⟩) :: ks) (.blk g (LC (flat byE l ++ rest) 5 (0, 0 + l.length)) :: R) V Tryz.prog ops Qn t) : AtT cx n ks O V Tryz.prog ops Qn (.n true i t) :=
 .x ho hg fun a w hk hm => by
  have hm1 := hm.pick hp
  have hb := hm1.blk
  have hfl : (flat byE l).length = l.length := by rw [jH byE_len, Nat.mul_one]
  have e0 : (#[x, y] : Array Operand).map a.eval = #[.pointer (some ⟨g, 0, none⟩), .int .i64 l.length] := by simp [hk.ev hx, hk.ev hy]
  have hr := Lib.run_unsafeString_row (P := Tryz.prog) (w := w) 147 3 T 5 Tryz.underlying147 (by kernel_rfl) g (flat byE l ++ rest).length (by simp [World.shape?, hb, LC]) l h0 (by rw [List.length_append, hfl]; omega) h63 (fun j u hj => by
   rw [Addr.add_lit, cell_blk hb, Nat.zero_add, List.getElem?_append_left (by rw [hfl]; exact (List.getElem?_eq_some_iff.1 hj).1)]
   have := flat_at byE_len l j u hj 0 _ rfl
   simpa using this)
  simp only [opW, execOp, resolve, e0, Sem.run_bind, Sem.run_pure, Result.andThen_ok, invoke, builtin, hr]
  have hlen : l.length ≠ 0 := by simpa using h0
  refine ⟨_, _, V, hk.put hn _, (hm1.set (w' := w.freeze ⟨g, 0, none⟩ l.length) (o' := .cells (flat byE l ++ rest).toArray 5 (0, 0 + l.length)) ⟨?_, ?_, ?_, ?_, fun k _ hne => ?_⟩ ?_), fun h => (by cases h), next⟩
  ·unfold World.freeze; rw [if_neg hlen]
  ·unfold World.freeze; rw [if_neg hlen]
  ·unfold World.freeze; rw [if_neg hlen]
  ·unfold World.freeze; rw [if_neg hlen]; simp
  ·unfold World.freeze; rw [if_neg hlen]
   simp only [Array.getElem?_modify]
   rw [if_neg (fun e => hne (by rw [e]))]
  ·unfold World.freeze; rw [if_neg hlen]
   simp only [Array.getElem?_modify, hb]
   rcases hfr with rfl | rfl <;> simp [LC]
end
theorem copyCheck_f {cx : Cx} {O : List Own} {V : View} (b : Nat) (buf : Value) (p : Option Addr) (hp : p = none ∨ p = some ⟨b, 0, none⟩) : FncM Tryz.prog cx 97 [.pointer (some ⟨b, 0, none⟩)] (.blk b (LC [.pointer p, buf] 114) :: O) V fun v O' V' => v = .tuple #[] ∧ O' = .blk b (LC [.pointer (some ⟨b, 0, none⟩), buf] 114) :: O ∧ V' = V := fun w hm => by
 have hb := hm.blk
 have hlt : b < w.heap.size := (Array.getElem?_eq_some_iff.1 hb).1
 rcases hp with rfl | rfl
 ·refine (Any.Builder_copyCheck_fresh { lay_repeat with } bstr_ren_ext.toX72 b w (by simp [World.cell?, hb, LC]) (by simp [World.shape?, hb, LC]; rfl) (by simp [World.frozen?, hb, LC])).mono fun e w' ⟨h1, h2⟩ => ?_
  subst h2
  refine ⟨_, _, V, h1, hm.set (o' := LC [.pointer (some ⟨b, 0, none⟩), buf] 114) ⟨rfl, rfl, rfl, by simp [World.setCell], fun k _ hk => Below.heap_setCell _ _ _ _ (fun e => hk (by simp [e]))⟩ ?_, rfl, rfl, rfl⟩
  simp [World.setCell, Array.getElem?_modify, hb, LC]
 ·exact (Any.Builder_copyCheck_used { lay_repeat with } bstr_ren_ext.toX72 b w (by simp [World.cell?, hb, LC])).mono fun e w' ⟨h1, h2⟩ => ⟨_, _, V, h1, h2 ▸ hm, rfl, rfl, rfl⟩
theorem flat_app2 (u l : List UInt8) : flat byE (u ++ l) = flat byE u ++ flat byE l := by simp [flat]
theorem writeString_f {cx : Cx} {O : List Own} {V : View} (b : Nat) (p : Option Addr) (hp : p = none ∨ p = some ⟨b, 0, none⟩) (ao : Option Addr) (co : Nat) (l u : List UInt8) (hl : l.length + u.length ≤ 1000000) :
  FncM Tryz.prog cx 74 [.pointer (some ⟨b, 0, none⟩), sT u] (.blk b (LC [.pointer p, .slice ao l.length co] 114) :: .row (.slice ao l.length co) 5 1 l.length (flat byE l) :: O) V fun v O' V' =>
   v = .tuple #[iv u.length, .nilIface] ∧ Le V V' ∧ ∃ a' c', O' = .row (.slice a' (l ++ u).length c') 5 1 (l ++ u).length (flat byE (l ++ u)) :: .blk b (LC [.pointer (some ⟨b, 0, none⟩), .slice a' (l ++ u).length c'] 114) :: O := by
 have hlu : (l ++ u).length = l.length + u.length := List.length_append
 refine fncM_of Tryz.func74 rfl Tryz.ntmps74 (Nat.le_of_ble_eq_true rfl) ?_
 refine At.nrm ?_
 refine At.zi (.q 0 (.q 1 .done)) ?_
 refine AtT.zg ?_
 refine AtT.zg ?_
 refine AtT.done ?_
 refine At.nrm ?_
 refine At.zi (.q 0 (.n true 1 .done)) ?_
 refine AtT.zf ?_
 refine AtT.jb rfl trivial rfl ok97 (by decide) (List.Perm.refl _) (copyCheck_f b _ p hp) ?_
 rintro _ _ _ ⟨rfl, rfl, rfl⟩
 refine AtT.done ?_
 refine At.nrm ?_
 refine At.zi (.q 0 (.q 1 (.q 2 (.q 3 (.q 4 (.q 5 (.n true 6 (.q 7 (.q 8 (.n true 9 .done)))))))))) ?_
 refine AtT.zf ?_
 refine AtT.zf ?_
 refine AtT.jM ?_
 first | refine AtT.zk jW ?_ | with_reducible refine AtT.zl jW ?_ | refine AtT.zn jW ?_
 first | refine AtT.zm tk74 ?_ | refine AtT.zo tk74 ?_
 refine AtT.zf ?_
 refine AtT.appendS rfl trivial Tryz.underlying74 Tryz.underlying9 rw5 rfl rfl zP.zI (by omega) (by decide) ?_
 intro a14 c14
 refine AtT.jM ?_
 first | refine AtT.zk jW ?_ | with_reducible refine AtT.zl jW ?_ | refine AtT.zn jW ?_
 first | refine AtT.jc tk74 ?_ | refine AtT.zy tk74 ?_
 refine AtT.done ?_
 refine At.nrm ?_
 refine At.zi (.q 0 (.q 1 (.q 2 (.q 3 .done)))) ?_
 refine AtT.zf ?_
 refine AtT.qR rfl trivial Tryz.underlying9 rfl (by decide) ?_
 refine AtT.zg ?_
 refine AtT.zg ?_
 refine AtT.done ?_
 refine At.nrm ?_
 exact At.retM2 rfl (.tmp rfl) (.tmp rfl) ⟨rfl, by first | exact Le.refl _ | assumption | exact Le.trans (by assumption) (by assumption), a14, c14, by rw [hlu, flat_app2]⟩
theorem bstring_f {cx : Cx} {O : List Own} {V : View} (b g : Nat) (p : Option Addr) (co : Nat) (l : List UInt8) (rest : List Value) (fr : Nat × Nat) (h0 : l ≠ []) (hl : l.length ≤ 1000000) (hco : co ≠ 0) (hfr : fr = (0, 0) ∨ fr = (0, 0 + l.length)) :
  FncM Tryz.prog cx 76 [.pointer (some ⟨b, 0, none⟩)] (.blk g (LC (flat byE l ++ rest) 5 fr) :: .blk b (LC [.pointer p, .slice (some ⟨g, 0, none⟩) l.length co] 114) :: O) V fun v O' V' =>
   v = sT l ∧ V' = V ∧ O' = .blk g (LC (flat byE l ++ rest) 5 (0, 0 + l.length)) :: .blk b (LC [.pointer p, .slice (some ⟨g, 0, none⟩) l.length co] 114) :: O := by
 refine fncM_of Tryz.func76 rfl Tryz.ntmps76 (Nat.le_of_ble_eq_true rfl) ?_
 refine At.nrm ?_
 refine At.zi (.q 0 .done) ?_
 refine AtT.zg ?_
 refine AtT.done ?_
 refine At.nrm ?_
 refine At.draw (.q 0 (.q 1 (.q 2 (.q 3 (.q 5 (.q 6 (.q 7 (.q 8 (.q 9 (.n false 4 (.n true 10 (.q 11 .done)))))))))))) ffm (by kernel_rfl) ?_
 refine AtT.zf ?_
 refine AtT.jM ?_
 first | refine AtT.zk jW ?_ | with_reducible refine AtT.zl jW ?_ | refine AtT.zn jW ?_
 first | refine AtT.zm tk74 ?_ | refine AtT.zo tk74 ?_
 refine AtT.zf ?_
 refine AtT.jM ?_
 first | refine AtT.zk jW ?_ | with_reducible refine AtT.zl jW ?_ | refine AtT.zn jW ?_
 first | refine AtT.zm tk74 ?_ | refine AtT.zo tk74 ?_
 first | refine AtT.zR Tryz.underlying74 ?_ | refine AtT.zQ Tryz.underlying74 ?_
 refine AtT.unsafeSD rfl trivial rfl hco (by decide) ?_
 refine AtT.unsafeStr rfl trivial rfl rfl h0 (by omega) hfr zP.zI (by decide) ?_ (l := l) (rest := rest) (fr := fr)
 refine AtT.zg ?_
 refine AtT.done ?_
 refine At.nrm ?_
 all_goals (exact At.kr rfl (.tmp rfl) ⟨rfl, rfl, rfl⟩)
end Go.Proofs.YtpoignmclfdgpaaGreatDoor
set_option linter.unusedVariables false
namespace Go.Bk
open Go.Lw Go.Gl
abbrev stC (f : Nat → Int) : List Value := [iv (f 0), iv (f 1), iv (f 2), iv (f 3), iv (f 4), iv (f 5), iv (f 6), iv (f 7)]
abbrev stL (f : Nat → Int) : List Int := [f 0, f 1, f 2, f 3, f 4, f 5, f 6, f 7]
theorem stC_at (f : Nat → Int) : ∀ {s : Nat}, s < 8 → (stC f)[s]? = some (iv (f s))
 | 0, _ => rfl | 1, _ => rfl | 2, _ => rfl | 3, _ => rfl | 4, _ => rfl | 5, _ => rfl | 6, _ => rfl | 7, _ => rfl
 | n + 8, h => by omega
theorem stC_set (f : Nat → Int) (v : Int) : ∀ {t : Nat}, t < 8 → (stC f).set t (iv v) = stC (upd f t v)
 | 0, _ => rfl | 1, _ => rfl | 2, _ => rfl | 3, _ => rfl | 4, _ => rfl | 5, _ => rfl | 6, _ => rfl | 7, _ => rfl
 | n + 8, h => by omega
theorem stC_ext {f g : Nat → Int} (h : ∀ s, s < 8 → f s = g s) : stC f = stC g := by
 show [_, _, _, _, _, _, _, _] = [_, _, _, _, _, _, _, _]
 rw [h 0 (by omega), h 1 (by omega), h 2 (by omega), h 3 (by omega), h 4 (by omega), h 5 (by omega), h 6 (by omega), h 7 (by omega)]
theorem stL_ext {f g : Nat → Int} (h : ∀ s, s < 8 → f s = g s) : stL f = stL g := by
 show [_, _, _, _, _, _, _, _] = [_, _, _, _, _, _, _, _]
 rw [h 0 (by omega), h 1 (by omega), h 2 (by omega), h 3 (by omega), h 4 (by omega), h 5 (by omega), h 6 (by omega), h 7 (by omega)]
def kz (c : Int) (ps : List Pt) (f : Nat → Int) : Nat → Int := fun s => f s - (ps.map fun p => if s = p.t.toNat then c * p.n else 0).sum
theorem lessJ_nil (c : Int) (f : Nat → Int) : kz c [] f = f := by funext s; simp [kz]
theorem lessJ_snoc (c : Int) (ps : List Pt) (p : Pt) (f : Nat → Int) : kz c (ps ++ [p]) f = upd (kz c ps f) p.t.toNat (kz c ps f p.t.toNat - c * p.n) := by
 funext s
 unfold kz upd
 rw [List.map_append, List.sum_append]
 simp only [List.map_cons, List.map_nil, List.sum_cons, List.sum_nil, Int.add_zero]
 by_cases h : s = p.t.toNat
 ·subst h; simp; omega
 ·simp [h]
theorem less_sum_bd {c : Int} (hc : 0 ≤ c ∧ c ≤ 1000) {s : Nat} : ∀ {ps : List Pt}, (∀ p ∈ ps, 1 ≤ p.n ∧ p.n ≤ 9) → 0 ≤ (ps.map fun p => if s = p.t.toNat then c * p.n else 0).sum ∧ (ps.map fun p => if s = p.t.toNat then c * p.n else 0).sum ≤ 9000 * (ps.length : Int)
 | [], _ => by simp
 | p :: ps, h => by
  have ih := less_sum_bd hc (s := s) (ps := ps) fun q hq => h q (List.mem_cons_of_mem _ hq)
  have hp := h p List.mem_cons_self
  have h0 := Int.mul_nonneg hc.1 (show 0 ≤ p.n by omega)
  have h1 : c * p.n ≤ 1000 * 9 := Int.mul_le_mul hc.2 hp.2 (by omega) (by decide)
  rw [List.map_cons, List.sum_cons, List.length_cons]
  push_cast
  split <;> omega
theorem lessJ_bd {c : Int} (hc : 0 ≤ c ∧ c ≤ 1000) {f : Nat → Int} (hf : ∀ s, s < 8 → 0 ≤ f s ∧ f s ≤ 24000) {ps : List Pt} (h : ∀ p ∈ ps, 1 ≤ p.n ∧ p.n ≤ 9) (hl : ps.length ≤ 3) {s : Nat} (hs : s < 8) : -27000 ≤ kz c ps f s ∧ kz c ps f s ≤ 24000 := by
 have h1 := less_sum_bd hc (s := s) h
 have h2 := hf s hs
 unfold kz
 omega
def stA (rs : List Rc) (e : En) (f : Nat → Int) : Nat → Int := fun s => f s - less rs e s
def stB (rs : List Rc) (e : En) (f : Nat → Int) : Nat → Int := fun s => f s + (more e s - less rs e s)
theorem okS_iff {rs : List Rc} {e : En} {f : Nat → Int} : okS rs e f = true ↔ ∀ s, s < 8 → 0 ≤ stA rs e f s := by
 unfold okS
 rw [List.all_eq_true]
 constructor
 ·intro h s hs
  have := of_decide_eq_true (h s (List.mem_range.2 hs))
  unfold stA; omega
 ·intro h s hs
  have := h s (List.mem_range.1 hs)
  unfold stA at this
  exact decide_eq_true (by omega)
theorem stA_out {rs : List Rc} {e : En} (hk : e.k = 2) (f : Nat → Int) : stA rs e f = upd f e.t.toNat (f e.t.toNat - e.n) := by
 funext s
 unfold stA less upd
 rw [if_pos hk]
 split
 ·rename_i h; subst h; rfl
 ·omega
theorem stA_made {rs : List Rc} {e : En} (hk : e.k = 3) (f : Nat → Int) : stA rs e f = kz e.n (partsOf rs e.t) f := by
 funext s
 unfold stA less kz
 rw [if_neg (by omega), if_pos hk]
theorem stA_none {rs : List Rc} {e : En} (h2 : e.k ≠ 2) (h3 : e.k ≠ 3) (f : Nat → Int) : stA rs e f = f := by
 funext s
 unfold stA less
 rw [if_neg h2, if_neg h3]; omega
theorem stB_add {rs : List Rc} {e : En} (hk : e.k = 1 ∨ e.k = 3) (f : Nat → Int) : stB rs e f = upd (stA rs e f) e.t.toNat (stA rs e f e.t.toNat + e.n) := by
 funext s
 unfold stB stA upd more
 rw [if_pos hk]
 dsimp only
 split
 ·rename_i h; subst h; omega
 ·omega
theorem stB_no {rs : List Rc} {e : En} (hk : ¬ (e.k = 1 ∨ e.k = 3)) (f : Nat → Int) : stB rs e f = stA rs e f := by
 funext s
 unfold stB stA more
 rw [if_neg hk]; omega
theorem less_nn8 {rs : List Rc} (h : qL (-1) rs) {e : En} (hn : e.k ≠ 4 → 1 ≤ e.n ∧ e.n ≤ 1000) (s : Nat) : 0 ≤ less rs e s := less_nn h (fun hk => (hn hk).1) s
theorem more_bd {e : En} (hn : e.k ≠ 4 → 1 ≤ e.n ∧ e.n ≤ 1000) (s : Nat) : 0 ≤ more e s ∧ more e s ≤ 1000 := by
 unfold more
 split
 ·have := hn (by omega); split <;> omega
 ·omega
theorem stB_bd {rs : List Rc} (h : qL (-1) rs) {e : En} (hn : e.k ≠ 4 → 1 ≤ e.n ∧ e.n ≤ 1000) {f : Nat → Int} {m : Int} (hf : ∀ s, s < 8 → 0 ≤ f s ∧ f s ≤ m) (ho : okS rs e f = true) : ∀ s, s < 8 → 0 ≤ stB rs e f s ∧ stB rs e f s ≤ m + 1000 := fun s hs => by
 have h1 := okS_iff.1 ho s hs
 have h2 := hf s hs
 have h3 := less_nn8 h hn s
 have h4 := more_bd hn s
 unfold stA at h1
 unfold stB
 omega
theorem runL_step {rs : List Rc} {day : Int} {e : En} {l : List En} {f : Nat → Int} : runL rs day (e :: l) f = if day < e.d then runL rs day l f else if okS rs e f = true then runL rs day l (stB rs e f) else none := rfl
end Go.Bk
set_option linter.unusedVariables false
namespace Go.Bk
open Go.Lw Go.Gl
theorem set_map_range {β : Type} (f g : Nat → β) (n t : Nat) (v : β) (h : ∀ s, s < n → g s = if s = t then v else f s) : ((List.range n).map f).set t v = (List.range n).map g := by
 apply List.ext_getElem?
 intro i
 by_cases hi : i < n
 ·rw [List.getElem?_set]
  by_cases e : t = i
  ·subst e
   rw [if_pos rfl, if_pos (by simpa using hi), List.getElem?_map, List.getElem?_range hi]
   simp [h t hi]
  ·rw [if_neg e, List.getElem?_map, List.getElem?_map, List.getElem?_range hi]
   simp only [Option.map_some, h i hi]
   rw [if_neg (fun h => e h.symm)]
 ·rw [List.getElem?_eq_none (by simp; omega), List.getElem?_eq_none (by simp; omega)]
def gK (es : List En) (first k : Nat) : List Int := (List.range first).map fun s => if jg es first k s = true then 1 else 0
def gKb (es : List En) (first k : Nat) : List Bool := (List.range first).map fun s => jg es first k s
theorem gK_len (es : List En) (first k : Nat) : (gK es first k).length = first := by simp [gK]
theorem gKb_len (es : List En) (first k : Nat) : (gKb es first k).length = first := by simp [gKb]
theorem gK_zero (es : List En) (first : Nat) : gK es first 0 = List.replicate first 0 := by
 apply List.ext_getElem?
 intro i
 by_cases hi : i < first
 ·simp [gK, jg, List.getElem?_replicate, List.getElem?_range hi, hi]
 ·rw [List.getElem?_eq_none (by simp [gK]; omega), List.getElem?_eq_none (by simp; omega)]
theorem gKb_zero (es : List En) (first : Nat) : gKb es first 0 = List.replicate first false := by
 apply List.ext_getElem?
 intro i
 by_cases hi : i < first
 ·simp [gKb, jg, List.getElem?_replicate, List.getElem?_range hi, hi]
 ·rw [List.getElem?_eq_none (by simp [gKb]; omega), List.getElem?_eq_none (by simp; omega)]
theorem gK_at {es : List En} {first k s : Nat} (h : s < first) : (gK es first k)[s]? = some (if jg es first k s = true then 1 else 0) := by
 simp [gK, List.getElem?_range h]
theorem gKb_at {es : List En} {first k s : Nat} (h : s < first) : (gKb es first k)[s]? = some (jg es first k s) := by
 simp [gKb, List.getElem?_range h]
theorem goneK_same {es : List En} {first k : Nat} (h : ¬ ((enA es (first - 1 - k)).k = 4 ∧ jg es first k (first - 1 - k) = false)) : jg es first (k + 1) = jg es first k := by
 funext s
 simp only [jg]
 by_cases h1 : (enA es (first - 1 - k)).k = 4
 ·have h2 : jg es first k (first - 1 - k) = true := by
   cases c : jg es first k (first - 1 - k) with
   | true => rfl
   | false => exact absurd ⟨h1, c⟩ h
  rw [h2]; simp
 ·rw [decide_eq_false h1]; simp
theorem goneK_new {es : List En} {first k : Nat} (h1 : (enA es (first - 1 - k)).k = 4) (h2 : jg es first k (first - 1 - k) = false) (s : Nat) : jg es first (k + 1) s = if s = (enA es (first - 1 - k)).t.toNat then true else jg es first k s := by
 simp only [jg]
 rw [h2, decide_eq_true h1]
 by_cases e : s = (enA es (first - 1 - k)).t.toNat
 ·rw [if_pos e, decide_eq_true e]; simp
 ·rw [if_neg e, decide_eq_false e]; simp
theorem gK_same {es : List En} {first k : Nat} (h : ¬ ((enA es (first - 1 - k)).k = 4 ∧ jg es first k (first - 1 - k) = false)) : gK es first (k + 1) = gK es first k := by unfold gK; rw [goneK_same h]
theorem gKb_same {es : List En} {first k : Nat} (h : ¬ ((enA es (first - 1 - k)).k = 4 ∧ jg es first k (first - 1 - k) = false)) : gKb es first (k + 1) = gKb es first k := by unfold gKb; rw [goneK_same h]
theorem gK_set {es : List En} {first k : Nat} (h1 : (enA es (first - 1 - k)).k = 4) (h2 : jg es first k (first - 1 - k) = false) : (gK es first k).set (enA es (first - 1 - k)).t.toNat 1 = gK es first (k + 1) :=
 set_map_range _ _ _ _ _ fun s _ => by rw [goneK_new h1 h2]; split <;> rfl
theorem gKb_set {es : List En} {first k : Nat} (h1 : (enA es (first - 1 - k)).k = 4) (h2 : jg es first k (first - 1 - k) = false) : (gKb es first k).set (enA es (first - 1 - k)).t.toNat true = gKb es first (k + 1) :=
 set_map_range _ _ _ _ _ fun s _ => by rw [goneK_new h1 h2]
def cntJ (es : List En) (first j : Nat) : List Nat := (List.range j).filter fun i => !gone es first i
theorem cntJ_all (es : List En) (first : Nat) : cntJ es first first = cntS es first := rfl
theorem cntJ_in {es : List En} {first j : Nat} (h : gone es first j = false) : cntJ es first (j + 1) = cntJ es first j ++ [j] := by
 unfold cntJ; rw [List.range_succ, List.filter_append]; simp [h]
theorem cntJ_out {es : List En} {first j : Nat} (h : gone es first j = true) : cntJ es first (j + 1) = cntJ es first j := by
 unfold cntJ; rw [List.range_succ, List.filter_append]; simp [h]
theorem cntJ_len (es : List En) (first j : Nat) : (cntJ es first j).length ≤ j := by
 unfold cntJ; exact Nat.le_trans (List.length_filter_le _ _) (by simp)
abbrev cntI (es : List En) (first : Nat) : List Int := (cntS es first).map fun (i : Nat) => ((i : Nat) : Int)
theorem cntS_lt {es : List En} {first i : Nat} (h : i ∈ cntS es first) : i < first := List.mem_range.1 (List.mem_filter.1 h).1
theorem enA_at {es : List En} {i : Nat} {e : En} (h : es[i]? = some e) : enA es i = e := by simp [enA, List.getD, h]
abbrev eb (b : Bool) : List Value := [.bool b]
theorem eb_len (b : Bool) : (eb b).length = 1 := rfl
theorem flat_eb : ∀ l : List Bool, flat eb l = l.map Value.bool
 | [] => rfl
 | b :: l => by
  have := flat_eb l
  simp only [flat, List.flatMap_cons, List.map_cons] at this ⊢
  rw [this]; rfl
theorem gK_cell {es : List En} {first k s : Nat} (h : s < first) : (flat ei (gK es first k))[s * 1]? = some (iv (if jg es first k s = true then 1 else 0)) := by
 rw [flat_ei, Nat.mul_one, List.getElem?_map, gK_at h]; rfl
theorem gKb_cell {es : List En} {first k s : Nat} (h : s < first) : (flat eb (gKb es first k))[s * 1]? = some (.bool (jg es first k s)) := by
 rw [flat_eb, Nat.mul_one, List.getElem?_map, gKb_at h]; rfl
theorem gK_put {es : List En} {first k T : Nat} (hT : (enA es (first - 1 - k)).t = (T : Int)) (h1 : (enA es (first - 1 - k)).k = 4) (h2 : jg es first k (first - 1 - k) = false) : (flat ei (gK es first k)).set (T * 1) (iv 1) = flat ei (gK es first (k + 1)) := by
 have := gK_set h1 h2
 rw [hT, Int.toNat_natCast] at this
 rw [flat_ei, flat_ei, Nat.mul_one, ← this, List.map_set]
theorem gKb_put {es : List En} {first k T : Nat} (hT : (enA es (first - 1 - k)).t = (T : Int)) (h1 : (enA es (first - 1 - k)).k = 4) (h2 : jg es first k (first - 1 - k) = false) : (flat eb (gKb es first k)).set (T * 1) (.bool true) = flat eb (gKb es first (k + 1)) := by
 have := gKb_set h1 h2
 rw [hT, Int.toNat_natCast] at this
 rw [flat_eb, flat_eb, Nat.mul_one, ← this, List.map_set]
theorem gK_flen (es : List En) (first k : Nat) : (flat ei (gK es first k)).length = first := by rw [jH Lw.jU, gK_len]; omega
theorem gKb_flen (es : List En) (first k : Nat) : (flat eb (gKb es first k)).length = first := by rw [jH eb_len, gKb_len]; omega
theorem cntI_in {es : List En} {first j : Nat} (h : gone es first j = false) : (cntJ es first (j + 1)).map (fun (i : Nat) => ((i : Nat) : Int)) = (cntJ es first j).map (fun (i : Nat) => ((i : Nat) : Int)) ++ [(j : Int)] := by rw [cntJ_in h, List.map_append]; rfl
end Go.Bk
set_option linter.unusedVariables false
namespace Go.Bk
open Go.Lw Go.Gl
structure EnG (e : En) : Prop where
 k : 1 ≤ e.k ∧ e.k ≤ 4
 t : e.k ≠ 4 → 0 ≤ e.t ∧ e.t ≤ 7
 n : e.k ≠ 4 → 1 ≤ e.n ∧ e.n ≤ 1000
structure BoG (b : Bo) : Prop where
 rs : qL (-1) b.rs
 es : ∀ e ∈ b.es, EnG e
 len : b.es.length ≤ 24
theorem EnOk.g {rs : List Rc} {e : En} {i l : Int} (h : EnOk rs e i l) : EnG e := ⟨h.k, fun h4 => ⟨(h.th h4).1, (h.th h4).2.1⟩, fun h4 => (h.th h4).2.2⟩
def lastE (es : List En) : Nat → Int
 | 0 => 0
 | k + 1 => (es.getD k en0).d
theorem lastE_at {es : List En} {k : Nat} {e : En} (h : es[k]? = some e) : lastE es (k + 1) = e.d := by simp [lastE, List.getD, h]
structure Right (b : Bo) : Prop where
 cr : crE b.rs = 0
 len : b.es.length ≤ 24
 en : entsE b.rs 0 0 b.es = 0
 run : ∀ k, k < b.es.length → (runS b.rs b.es (k + 1) 999).isSome = true
theorem kF {b : Bo} : bkE b = 0 ↔ Right b := by
 unfold bkE
 constructor
 ·intro h
  split at h
  ·rename_i c; exact absurd h c
  rename_i h1
  split at h
  ·cases h
  rename_i h2
  split at h
  ·rename_i c; exact absurd h c
  rename_i h3
  split at h
  ·rename_i h4
   exact ⟨Classical.not_not.1 h1, by omega, Classical.not_not.1 h3, fun k hk => List.all_eq_true.1 h4 k (List.mem_range.2 hk)⟩
  ·cases h
 ·rintro ⟨h1, h2, h3, h4⟩
  rw [if_neg (by rw [h1]; simp), if_neg (by omega), if_neg (by rw [h3]; simp), if_pos (List.all_eq_true.2 fun k hk => h4 k (List.mem_range.1 hk))]
theorem pre_bog {b : Bo} (h1 : crE b.rs = 0) (h2 : b.es.length ≤ 24) (h3 : entsE b.rs 0 0 b.es = 0) : BoG b := by
 refine ⟨recsE_iff.1 h1, fun e he => ?_, h2⟩
 obtain ⟨k, hk⟩ := List.getElem?_of_mem he
 obtain ⟨l, h, _⟩ := ensOk_at (entsE_iff.1 h3) hk
 exact h.g
theorem Right.bog {b : Bo} (h : Right b) : BoG b := pre_bog h.cr h.len h.en
theorem ents_bk {rs : List Rc} {es : List En} (h : entsE rs 0 0 es = 0) {first : Nat} (hf : first ≤ es.length) : BkOk es first := fun k hk h4 => by
 have hx := List.getElem?_eq_getElem (l := es) (i := k) (by omega)
 rw [enA_at hx] at h4 ⊢
 obtain ⟨l, h1, _⟩ := ensOk_at (entsE_iff.1 h) hx
 have := h1.bk h4
 omega
theorem Right.bk {b : Bo} (h : Right b) {first : Nat} (hf : first ≤ b.es.length) : BkOk b.es first := ents_bk h.en hf
theorem ens_sorted {rs : List Rc} : ∀ {es : List En} {index last : Int}, EnsOk rs index last es → (es.Pairwise fun x y => x.d ≤ y.d) ∧ ∀ e ∈ es, last ≤ e.d ∧ e.d ≤ 999
 | [], index, last, _ => ⟨List.Pairwise.nil, fun e he => by cases he⟩
 | x :: es, index, last, h => by
  cases h with
  | cons h1 h2 =>
   obtain ⟨p, q⟩ := ens_sorted h2
   have := h1.late
   refine ⟨List.Pairwise.cons (fun y hy => (q y hy).1) p, fun e he => ?_⟩
   rcases List.mem_cons.1 he with rfl | he
   ·exact ⟨this, h1.d.2⟩
   ·have := q e he; omega
theorem runL_skip {rs : List Rc} {day : Int} {f : Nat → Int} : ∀ {l : List En}, (∀ e ∈ l, day < e.d) → runL rs day l f = some f
 | [], _ => rfl
 | e :: l, h => by
  simp only [runL]
  rw [if_pos (h e List.mem_cons_self)]
  exact runL_skip fun x hx => h x (List.mem_cons_of_mem _ hx)
theorem runL_day {rs : List Rc} {day : Int} : ∀ {l : List En} {f : Nat → Int}, (l.Pairwise fun x y => x.d ≤ y.d) → (∀ e ∈ l, e.d ≤ 999) → (runL rs 999 l f).isSome = true → ∃ g, runL rs day l f = some g
 | [], f, _, _, _ => ⟨f, rfl⟩
 | e :: l, f, hp, hd, hr => by
  have h9 := hd e List.mem_cons_self
  by_cases c : day < e.d
  ·refine ⟨f, runL_skip fun x hx => ?_⟩
   rcases List.mem_cons.1 hx with rfl | hx
   ·exact c
   ·have := List.rel_of_pairwise_cons hp hx; omega
  ·simp only [runL] at hr ⊢
   rw [if_neg (by omega)] at hr
   rw [if_neg c]
   split at hr
   ·rename_i ho
    rw [if_pos ho]
    exact runL_day (List.Pairwise.of_cons hp) (fun x hx => hd x (List.mem_cons_of_mem _ hx)) hr
   ·cases hr
theorem enA_mem {es : List En} {i : Nat} (h : i < es.length) : enA es i ∈ es := by
 rw [enA_at (List.getElem?_eq_getElem h)]; exact List.getElem_mem h
theorem cnt_sorted {es : List En} {first : Nat} (hf : first ≤ es.length) (h : es.Pairwise fun x y => x.d ≤ y.d) : ((cntS es first).map (enA es)).Pairwise fun x y => x.d ≤ y.d := by
 rw [List.pairwise_map]
 have hlt : (cntS es first).Pairwise (· < ·) := List.Pairwise.sublist List.filter_sublist List.pairwise_lt_range
 refine List.Pairwise.imp_of_mem (fun {a b} ha hb hab => ?_) hlt
 have h1 := cntS_lt ha
 have h2 := cntS_lt hb
 rw [enA_at (List.getElem?_eq_getElem (show a < es.length by omega)), enA_at (List.getElem?_eq_getElem (show b < es.length by omega))]
 exact List.pairwise_iff_getElem.1 h a b (by omega) (by omega) hab
theorem Right.st {b : Bo} (h : Right b) {first : Nat} (hf : first ≤ b.es.length) (day : Int) : ∃ st, runS b.rs b.es first day = some st := by
 obtain ⟨hs, h9⟩ := ens_sorted (entsE_iff.1 h.en)
 unfold runS
 refine runL_day (cnt_sorted hf hs) (fun e he => ?_) ?_
 ·obtain ⟨i, hi, rfl⟩ := List.mem_map.1 he
  exact (h9 _ (enA_mem (by have := cntS_lt hi; omega))).2
 ·cases first with
  | zero => rfl
  | succ k => exact h.run k (by omega)
end Go.Bk
set_option linter.unusedVariables false
namespace Go.Bk
open Go.Lib
theorem ens_in {rs : List Rc} : ∀ {es : List En} {index last : Int}, EnsOk rs index last es → ∀ e ∈ es, (0 ≤ e.d ∧ e.d ≤ 999) ∧ (1 ≤ e.k ∧ e.k ≤ 4) ∧ (e.k = 4 → 0 ≤ e.t ∧ e.t < index + es.length ∧ e.n = 0) ∧ (e.k ≠ 4 → 0 ≤ e.t ∧ e.t ≤ 7 ∧ 1 ≤ e.n ∧ e.n ≤ 1000)
 | [], index, last, _, e, he => by cases he
 | x :: es, index, last, h, e, he => by
  cases h with
  | cons h1 h2 =>
   rcases List.mem_cons.1 he with rfl | he
   ·refine ⟨h1.d, h1.k, fun h4 => ?_, h1.th⟩
    have := h1.bk h4
    exact ⟨this.1, by simp only [List.length_cons]; omega, this.2.2⟩
   ·have := ens_in h2 e he
    refine ⟨this.1, this.2.1, fun h4 => ?_, this.2.2.2⟩
    have := this.2.2.1 h4
    exact ⟨this.1, by simp only [List.length_cons]; omega, this.2.2⟩
theorem Right.nm {b : Bo} (h : Right b) : BoNm b := by
 refine ⟨fun r hr => ?_, fun e he => ?_⟩
 ·have := ky h.bog.rs r hr
  refine ⟨by have := this.g; omega, fun p hp => ?_⟩
  have := ptsOk_in this.ps p hp
  omega
 ·have := ens_in (entsE_iff.1 h.en) e he
  have hl := h.len
  by_cases h4 : e.k = 4
  ·have h5 := this.2.2.1 h4
   exact ⟨this.2.1, by omega, by omega, by omega, fun _ => h5.2.2⟩
  ·have h5 := this.2.2.2 h4
   exact ⟨this.2.1, by omega, by omega, by omega, fun h => absurd h h4⟩
theorem rcsOk_len {rs : List Rc} (h : qL (-1) rs) : rs.length ≤ 8 := by
 have key : ∀ {l : List Rc} {m : Int}, qL m l → -1 ≤ m → (l.length : Int) + m ≤ 7 ∨ l = [] := by
  intro l
  induction l with
  | nil => intro m _ _; exact .inr rfl
  | cons a l ih =>
   intro m h hm
   cases h with
   | cons h1 h2 =>
    have hg := h1.g
    have hl := h1.lt
    rcases ih h2 (by omega) with h3 | h3
    ·refine .inl ?_; simp only [List.length_cons]; omega
    ·subst h3; refine .inl ?_; simp only [List.length_cons, List.length_nil]; omega
 rcases key h (by omega) with h1 | h1
 ·omega
 ·subst h1; simp
theorem itoa_len {n : Int} (h : 0 ≤ n ∧ n < 1000000) : (itoa n).length ≤ 6 := by
 rw [itoa_of h.1]; exact (dec_len (by omega)).2
theorem lnT_snoc (w : List UInt8) (l : List Int) (n : Int) : lnT w (l ++ [n]) = lnT w l ++ ([32] ++ itoa n) := by simp [lnT]
theorem lnT_len (w : List UInt8) : ∀ {l : List Int}, (∀ n ∈ l, 0 ≤ n ∧ n < 1000000) → (lnT w l).length ≤ w.length + 7 * l.length
 | [], _ => by simp [lnT]
 | n :: l, h => by
  have h1 := itoa_len (h n List.mem_cons_self)
  have h2 := lnT_len w (l := l) fun x hx => h x (List.mem_cons_of_mem _ hx)
  simp only [lnT, List.length_append, List.map_cons, List.flatten_cons, List.length_cons] at h2 ⊢
  omega
theorem nlT_len (N : Nat) : ∀ {ls : List (List UInt8)}, (∀ l ∈ ls, l.length ≤ N) → (nlT ls).length ≤ ls.length * (N + 1)
 | [], _ => by simp [nlT]
 | l :: ls, h => by
  have h1 := h l List.mem_cons_self
  have h2 := nlT_len N (ls := ls) fun x hx => h x (List.mem_cons_of_mem _ hx)
  simp only [nlT, List.map_cons, List.flatten_cons, List.length_append, List.length_cons, List.length_nil] at h2 ⊢
  rw [Nat.add_mul]
  omega
theorem nlT_app (u v : List (List UInt8)) : nlT (u ++ v) = nlT u ++ nlT v := by simp [nlT]
theorem nlT_snoc (u : List (List UInt8)) (l : List UInt8) : nlT (u ++ [l]) = nlT u ++ (l ++ [10]) := by simp [nlT]
theorem rcN_len (r : Rc) : (rcN r).length = 1 + 2 * r.ps.length := by
 unfold rcN
 rw [List.length_cons]
 have : ∀ l : List Pt, (l.flatMap fun p => [p.t, p.n]).length = 2 * l.length := by
  intro l
  induction l with
  | nil => rfl
  | cons a l ih => simp only [List.flatMap_cons, List.length_append, ih, List.length_cons, List.length_nil]; omega
 rw [this]; omega
theorem enN_len (e : En) : (enN e).length ≤ 3 := by unfold enN; split <;> simp
theorem wd_len (k : Int) : (wd k).length ≤ 4 := by
 unfold wd
 split
 ·decide
 ·split
  ·decide
  ·split <;> decide
theorem Right.rcT_len {b : Bo} (h : Right b) {r : Rc} (hr : r ∈ b.rs) : (rcT r).length ≤ 50 := by
 have h1 := lnT_len [114] (rcN_in (h.nm.rs r hr))
 rw [rcN_len] at h1
 have h2 := (ky h.bog.rs r hr).len
 unfold rcT
 simp only [List.length_cons, List.length_nil] at h1 ⊢
 omega
theorem Right.enT_len {b : Bo} (h : Right b) {e : En} (he : e ∈ b.es) : (enT e).length ≤ 25 := by
 have h1 := lnT_len (wd e.k) (enN_in (h.nm.es e he))
 have h2 := enN_len e
 have h3 := wd_len e.k
 unfold enT
 omega
theorem Right.rs_len {b : Bo} (h : Right b) (n : Nat) : (nlT ((b.rs.take n).map rcT)).length ≤ 408 := by
 have h1 := nlT_len 50 (ls := (b.rs.take n).map rcT) fun l hl => by
  obtain ⟨r, hr, rfl⟩ := List.mem_map.1 hl
  exact h.rcT_len (List.mem_of_mem_take hr)
 have h2 := rcsOk_len h.bog.rs
 rw [List.length_map] at h1
 have h3 : (b.rs.take n).length ≤ b.rs.length := List.length_take_le' n b.rs
 omega
theorem Right.es_len {b : Bo} (h : Right b) (n : Nat) : (nlT ((b.es.take n).map enT)).length ≤ 624 := by
 have h1 := nlT_len 25 (ls := (b.es.take n).map enT) fun l hl => by
  obtain ⟨e, he, rfl⟩ := List.mem_map.1 hl
  exact h.enT_len (List.mem_of_mem_take he)
 have h2 := h.len
 rw [List.length_map] at h1
 have h3 : (b.es.take n).length ≤ b.es.length := List.length_take_le' n b.es
 omega
theorem bodyT_eq (b : Bo) : kw b = nlT (b.rs.map rcT) ++ nlT (b.es.map enT) := nlT_app _ _
theorem Right.body_len {b : Bo} (h : Right b) : (kw b).length ≤ 1032 := by
 have h1 := h.rs_len b.rs.length
 have h2 := h.es_len b.es.length
 rw [List.take_length] at h1 h2
 rw [bodyT_eq, List.length_append]; omega
theorem Right.file_len {b : Bo} (h : Right b) : (fileT b).length ≤ 1047 := by
 have := h.body_len
 unfold fileT
 rw [List.length_append, tailT_len]; omega
theorem body_ne {b : Bo} (h : b.es.length + b.rs.length ≠ 0) : kw b ≠ [] := by
 rw [bodyT_eq]
 intro e
 obtain ⟨e1, e2⟩ := List.append_eq_nil_iff.1 e
 cases hr : b.rs with
 | cons r l => rw [hr] at e1; simp [nlT] at e1
 | nil => cases he : b.es with
  | cons r l => rw [he] at e2; simp [nlT] at e2
  | nil => rw [hr, he] at h; exact h rfl
end Go.Bk
