/- Texts that the last one of this claim imports. -/
import Derived.Test.YtadbifpalpdocaaGreatDoorRows
import Derived.Test.YtadbifpalpdocaaGreatDoorCards
import Derived.MakeChecks
import Derived.SevenTiedAt
import Derived.LaidLaws
import Derived.Test.YtadbifpalpdocaaGreatDoorQ8
import Derived.Test.YtadbifpalpdocaaGreatDoorQ12
import Derived.Test.YtadbifpalpdocaaGreatDoorQ18
import Derived.Test.YtadbifpalpdocaaGreatDoorQ19
import Derived.Test.YtadbifpalpdocaaGreatDoorQ20
import Derived.Test.YtadbifpalpdocaaGreatDoorQ21
import Derived.Test.YtadbifpalpdocaaGreatDoorQ22
import Derived.Test.YtadbifpalpdocaaGreatDoorQ28
import Derived.Test.YtadbifpalpdocaaGreatDoorQ29
import Derived.Test.YtadbifpalpdocaaGreatDoorQ36
import Derived.Test.YtadbifpalpdocaaGreatDoorQ37
import Derived.Test.YtadbifpalpdocaaGreatDoorQ38
set_option linter.unusedVariables false
set_option linter.unusedSimpArgs false
set_option linter.unusedSectionVars false
section
set_option linter.unusedVariables false
set_option maxRecDepth 100000
namespace Go.Lw
theorem bd_u8 {x : Int} (w : (Lit.int .u8 x).wf = true) : 0 ≤ x ∧ x ≤ 255 := by
 simp [Lit.wf, IntKind.min, IntKind.max, IntKind.bits, IntKind.signed] at w; omega
end Go.Lw
namespace Go.Proofs.YtadbifpalpdocaaGreatDoor
open Go.Lw Go.Gl Go.RowKit Go.ChangeShapes Go.WideShapes Go.ChangeAt Go.Joins Go.Deep
theorem seat_laid (os : Os) (args : Array Value) : laidMetH Tryz.prog kG ((World.laidAll Tryz.prog os kG).forCall (fun _ _ => 0) ⟨#[], args, []⟩).memory := by
 rw [MakeChecks.laidMetH_plain _ _ _ (by kernel_rfl)]
 exact laidMet_laidAll _ (laid_fits os) (laid_ifaces os)
theorem lcells25 : Tryz.prog.cellsOf 25 = 3 := by kernel_rfl
theorem lcells23 : Tryz.prog.cellsOf 23 = 2 := by kernel_rfl
theorem lcells60 : Tryz.prog.cellsOf 100 = 3 := by kernel_rfl
theorem lcells2 : Tryz.prog.cellsOf 2 = 1 := by kernel_rfl
theorem lcells5 : Tryz.prog.cellsOf 5 = 1 := by kernel_rfl
section
variable {H : Type} {enc : TypeId × Value → H} {W : World} {base b0 : Nat} {spare : Nat → Bool} {held : Bool} {v : Value} {d : DataW H} {p : List MemPlace} {r : Reach}
theorem rd_u8s (hv : Value.okWide Tryz.prog W r b0 27 v) (h : DataW.Trod enc Tryz.prog W base spare held 27 v d p) : ∃ (l : List U8) (a : Option Addr) (cap : Nat), v = .slice a l.length cap ∧ Sl (hp W) e8 1 (.slice a l.length cap) l := by
 obtain ⟨a, n, c, rfl⟩ := okWide_slice Tryz.underlying27 hv
 obtain ⟨fuel, h⟩ := h
 refine sl_of Tryz.underlying27 lcells5 (fun _ cs _ h _ => ?_) h
 obtain ⟨z, e, w⟩ := el_int Tryz.underlying5 h
 exact ⟨⟨z, bd_u8 w⟩, e⟩
theorem day_cells {fuel : Nat} {c0 c1 c2 : Value} {x : DataW H × List MemPlace} {t : TypeId} {f0 f1 : Field} (ht : Tryz.prog.underlying t = some (.struct #[f0, f1])) (e0 : f0.type = 23) (o0 : f0.offset = 0) (e1 : f1.type = 2) (o1 : f1.offset = 2) (h : DataW.trod enc Tryz.prog W base spare held fuel t [c0, c1, c2] = some x) :
  ∃ a b c : Int, c0 = iv a ∧ c1 = iv b ∧ c2 = iv c := by
 obtain ⟨y0, y1, n, _, _, h0, h1⟩ := trod_struct2 ht h
 rw [e0, o0, lcells23] at h0
 rw [e1, o1, lcells2] at h1
 obtain ⟨z0, z1, m, _, _, g0, g1⟩ := trod_struct2 Tryz.underlying23 h0
 obtain ⟨x0, k0, _⟩ := el_int (k := .i64) Tryz.underlying2 g0
 obtain ⟨x1, k1, _⟩ := el_int (k := .i64) Tryz.underlying2 g1
 obtain ⟨x2, k2, _⟩ := el_int (k := .i64) Tryz.underlying2 h1
 have k0' : [c0] = [Value.int .i64 x0] := k0
 have k1' : [c1] = [Value.int .i64 x1] := k1
 have k2' : [c2] = [Value.int .i64 x2] := k2
 simp at k0' k1' k2'
 exact ⟨x0, x1, x2, k0', k1', k2'⟩
theorem open_day (hv : Value.okWide Tryz.prog W r b0 25 v) (h : DataW.Trod enc Tryz.prog W base spare held 25 v d p) : ∃ x, v = dyv x := by
 obtain ⟨cs, rfl, hsz⟩ := okWide_struct Tryz.underlying25 hv
 rw [lcells25] at hsz
 obtain ⟨fuel, h⟩ := h
 obtain ⟨l⟩ := cs
 match l, hsz with
 | [c0, c1, c2], _ =>
  obtain ⟨a, b, c, rfl, rfl, rfl⟩ := day_cells Tryz.underlying25 rfl rfl rfl rfl h
  exact ⟨⟨a, b, c⟩, rfl⟩
theorem rd_panels (hv : Value.okWide Tryz.prog W r b0 26 v) (h : DataW.Trod enc Tryz.prog W base spare held 26 v d p) : ∃ (l : List Pn) (a : Option Addr) (cap : Nat), v = .slice a l.length cap ∧ Sl (hp W) pne 3 (.slice a l.length cap) l := by
 obtain ⟨a, n, c, rfl⟩ := okWide_slice Tryz.underlying26 hv
 obtain ⟨fuel, h⟩ := h
 refine sl_of Tryz.underlying26 lcells60 (fun _ cs _ h hl => ?_) h
 match cs, hl with
 | [c0, c1, c2], _ =>
  obtain ⟨a, b, c, rfl, rfl, rfl⟩ := day_cells Tryz.underlying100 rfl rfl rfl rfl h
  exact ⟨⟨a, b, c⟩, rfl⟩
end
end Go.Proofs.YtadbifpalpdocaaGreatDoor
end
section
set_option linter.unusedVariables false
set_option linter.constructorNameAsVariable false
namespace Go.Ev
open Go.Lw Go.RowKit Go.Proofs
noncomputable def orT : Orc := .mk fun args h K => List.rec (motive := fun _ => R) (K (.b true) h) (fun _ _ _ => none) args
theorem orT_ok {w0 : World} {f : FuncId} (hc : zB Pr f) (hw : ∀ w : World, Calls Pr f #[] w fun en w' => en = .returned (.bool true) ∧ Below w.heap.size w w') : FOk w0 orT.g f := by
 intro e h K z args us w hh ha R
 refine ⟨hc, ?_⟩
 cases args with
 | nil =>
  cases us with
  | nil => exact FOk.val (x := .b true) R hh rfl (hw w)
  | cons _ _ => exact ha.elim
 | cons _ _ => cases hh
noncomputable def O5 (f : FuncId) : Option Orc := bif [354, 355, 356, 286, 219, 154, 101, 61, 31, 15].any (Nat.beq f) then some orT else none
theorem oc5 (w0 : World) : OcOk w0 O5 := by
 intro f o h
 unfold O5 at h
 cases c : [354, 355, 356, 286, 219, 154, 101, 61, 31, 15].any (Nat.beq f) with
 | false => rw [c] at h; cases h
 | true =>
  rw [c] at h
  cases h
  simp only [List.any_cons, List.any_nil, Bool.or_false, Bool.or_eq_true] at c
  rcases c with c | c | c | c | c | c | c | c | c | c <;> obtain rfl := Nat.eq_of_beq_eq_true c
  ·exact @orT_ok w0 _ (by rw [jC]; exact zn Tryz.func354 (by kernel_rfl) (by kernel_rfl)) works01
  ·exact @orT_ok w0 _ (by rw [jC]; exact zn Tryz.func355 (by kernel_rfl) (by kernel_rfl)) works02
  ·exact @orT_ok w0 _ (by rw [jC]; exact zn Tryz.func356 (by kernel_rfl) (by kernel_rfl)) works03
  ·exact @orT_ok w0 _ (by rw [jC]; exact zn Tryz.func286 (by kernel_rfl) (by kernel_rfl)) works04
  ·exact @orT_ok w0 _ (by rw [jC]; exact zn Tryz.func219 (by kernel_rfl) (by kernel_rfl)) works05
  ·exact @orT_ok w0 _ (by rw [jC]; exact zn Tryz.func154 (by kernel_rfl) (by kernel_rfl)) works06
  ·exact @orT_ok w0 _ (by rw [jC]; exact zn Tryz.func101 (by kernel_rfl) (by kernel_rfl)) works07
  ·exact @orT_ok w0 _ (by rw [jC]; exact zn Tryz.func61 (by kernel_rfl) (by kernel_rfl)) works08
  ·exact @orT_ok w0 _ (by rw [jC]; exact zn Tryz.func31 (by kernel_rfl) (by kernel_rfl)) works09
  ·exact @orT_ok w0 _ (by rw [jC]; exact zn Tryz.func15 (by kernel_rfl) (by kernel_rfl)) works10
theorem wAll : runs O5 5 = true := by decide +kernel
theorem works_f (V : View) : Fnc Tryz.prog 5 [] V fun r _ => r = .bool true := fun w hw => by
 rw [← jC]
 exact (jH wAll w (oc5 w)).mono fun e w' ⟨h1, h2⟩ => ⟨_, V, h1, h2, Le.refl _, hw.trans (Lw.Below.le h2), fun k o hk => .inl hk, rfl⟩
end Go.Ev
end
section
set_option maxRecDepth 100000
namespace Go.Proofs.YtadbifpalpdocaaGreatDoor
open Go Go.ChangeShapes Go.WideShapes
theorem zJoin : joinedFacts Tryz.pinned.checked.prog 3 Tryz.f3 Rows.topGluedBoilSpec Rows.topGluedBoilRow = true := by
 show joinedFacts Tryz.prog 3 Tryz.f3 Rows.topGluedBoilSpec Rows.topGluedBoilRow = true
 unfold joinedFacts
 simp only [Bool.and_eq_true (_ : Bool) (_ : Bool)]
 exact ⟨⟨⟨⟨⟨⟨⟨⟨⟨⟨⟨⟨⟨⟨⟨⟨⟨⟨⟨⟨⟨⟨⟨⟨⟨⟨⟨⟨⟨⟨⟨zj0, laidOut⟩, zj2⟩, zj3⟩, zj4⟩, zj5⟩, zj6⟩, zj7⟩, zj8⟩, (beq_iff_eq.2 inPlace_ok.symm)⟩, (beq_iff_eq.2 unf_ok.symm)⟩, (beq_iff_eq.2 rec_ok.symm)⟩, (beq_iff_eq.2 named_ok.symm)⟩, zj13⟩, zj14⟩, zj15⟩, zj16⟩, zj17⟩, zj18⟩, zj19⟩, zj20⟩, zj21⟩, zj22⟩, zj23⟩, zj24⟩, zj25⟩, zj26⟩, zj27⟩, zj28⟩, zj29⟩, zj30⟩, zj31⟩
theorem zGoes : false = Rows.topGluedBoilRow.goesBy Tryz.pinned.checked.prog := by
 have e : Tryz.prog.goesFrom "crossband/crossbandtop.TopGluedBoil" = false := by
  unfold Program.goesFrom
  rw [zNamed, Option.any_some]
  exact goes_ok
 have e2 : Tryz.prog.goesAt .entering "crossband/crossbandtop.TopGluedBoil" = false := by
  unfold Program.goesAt
  rw [e, Bool.false_or]
 unfold OpenClaim.goesBy
 rw [show Rows.topGluedBoilRow.start = .entering from rfl, show Rows.topGluedBoilRow.func = "crossband/crossbandtop.TopGluedBoil" from rfl, show Tryz.pinned.checked.prog = Tryz.prog from rfl, e2]
end Go.Proofs.YtadbifpalpdocaaGreatDoor
end
