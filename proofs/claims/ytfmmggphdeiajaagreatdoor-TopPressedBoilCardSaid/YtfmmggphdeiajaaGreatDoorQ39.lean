/- Texts that the last one of this claim imports. -/
import Derived.Test.YtfmmggphdeiajaaGreatDoorRows
import Derived.Test.YtfmmggphdeiajaaGreatDoorCards
import Derived.Lib.SmallJoins
import Derived.MakeChecks
import Derived.SevenTiedAt
import Derived.LaidLaws
import Derived.Test.YtfmmggphdeiajaaGreatDoorQ8
import Derived.Test.YtfmmggphdeiajaaGreatDoorQ12
import Derived.Test.YtfmmggphdeiajaaGreatDoorQ18
import Derived.Test.YtfmmggphdeiajaaGreatDoorQ19
import Derived.Test.YtfmmggphdeiajaaGreatDoorQ20
import Derived.Test.YtfmmggphdeiajaaGreatDoorQ21
import Derived.Test.YtfmmggphdeiajaaGreatDoorQ22
import Derived.Test.YtfmmggphdeiajaaGreatDoorQ28
import Derived.Test.YtfmmggphdeiajaaGreatDoorQ29
import Derived.Test.YtfmmggphdeiajaaGreatDoorQ36
import Derived.Test.YtfmmggphdeiajaaGreatDoorQ37
import Derived.Test.YtfmmggphdeiajaaGreatDoorQ38
set_option linter.unusedVariables false
set_option linter.unusedSimpArgs false
set_option linter.unusedSectionVars false
section
set_option linter.unusedVariables false
set_option maxRecDepth 100000
namespace Go.Lw
theorem bd_u8 {x:Int} (w:(Lit.int .u8 x).wf=true):0≤x∧x≤255:=by
 simp[Lit.wf,IntKind.min,IntKind.max,IntKind.bits,IntKind.signed]at w; omega
end Go.Lw
namespace Go.Proofs.YtfmmggphdeiajaaGreatDoor
open Go.Lw Go.Ps Go.RowKit Go.ChangeShapes Go.WideShapes Go.ChangeAt Go.Joins Go.Deep
theorem seat_laid (os:Os) (args:Array Value):laidMetH Tryz.prog kQ ((World.laidAll Tryz.prog os kQ).forCall (fun _ _=>0) ⟨#[],args,[]⟩).memory:=by
 rw[MakeChecks.laidMetH_plain _ _ _ (by kernel_rfl)]
 exact laidMet_laidAll _ (laid_fits os) (laid_ifaces os)
theorem lcells24:Tryz.prog.cellsOf 24=4:=by kernel_rfl
theorem lcells22:Tryz.prog.cellsOf 22=1:=by kernel_rfl
theorem lcells52:Tryz.prog.cellsOf 52=2:=by kernel_rfl
theorem lcells2:Tryz.prog.cellsOf 2=1:=by kernel_rfl
theorem lcells3:Tryz.prog.cellsOf 3=1:=by kernel_rfl
theorem lcells5:Tryz.prog.cellsOf 5=1:=by kernel_rfl
section
variable {H:Type} {enc:TypeId×Value→H} {W:World} {base b0:Nat} {spare:Nat→Bool} {held:Bool} {v:Value} {d:DataW H} {p:List MemPlace} {r:Reach}
theorem rd_u8s (hv:Value.okWide Tryz.prog W r b0 26 v) (h:DataW.Trod enc Tryz.prog W base spare held 26 v d p):∃ (l:List U8) (a:Option Addr) (cap:Nat),v=.slice a l.length cap∧Sl (hp W) e8 1 (.slice a l.length cap) l:=by
 obtain⟨a,n,c,rfl⟩:=okWide_slice Tryz.underlying26 hv
 obtain⟨fuel,h⟩:=h
 refine sl_of Tryz.underlying26 lcells5 (fun _ cs _ h _=>?_) h
 obtain⟨z,e,w⟩:=el_int Tryz.underlying5 h
 exact⟨⟨z,bd_u8 w⟩,e⟩
theorem open_bed (hv:Value.okWide Tryz.prog W r b0 24 v) (h:DataW.Trod enc Tryz.prog W base spare held 24 v d p):∃ b a c,v=bdv b a c∧SlI (hp W) (.slice a b.br.length c) b.br:=by
 obtain⟨cs,rfl,hsz⟩:=okWide_struct Tryz.underlying24 hv
 rw[lcells24]at hsz
 obtain⟨fuel,h⟩:=h
 obtain⟨l⟩:=cs
 match l,hsz with
 | [c0,c1,c2,c3],_=>
  obtain⟨y0,y1,y2,y3,n,_,_,h0,h1,h2,h3⟩:=trod_struct4 Tryz.underlying24 h
  dsimp only at h0 h1 h2 h3
  have h0':DataW.trod enc Tryz.prog W base spare held n 3 [c0]=some y0:=by rw[lcells3]at h0; exact h0
  have h1':DataW.trod enc Tryz.prog W base spare held n 22 [c1]=some y1:=by rw[lcells22]at h1; exact h1
  have h2':DataW.trod enc Tryz.prog W base spare held n 3 [c2]=some y2:=by rw[lcells3]at h2; exact h2
  have h3':DataW.trod enc Tryz.prog W base spare held n 2 [c3]=some y3:=by rw[lcells2]at h3; exact h3
  obtain⟨z0,k0,_⟩:=el_int (k:=.i64) Tryz.underlying3 h0'
  obtain⟨z2,k2,_⟩:=el_int (k:=.i64) Tryz.underlying3 h2'
  obtain⟨z3,k3,_⟩:=el_int (k:=.i64) Tryz.underlying2 h3'
  obtain⟨br,a,cap,e0,hs⟩:=sl_of (en:=ei) (s:=1) Tryz.underlying22 lcells3 (fun _ _ _ h _=>by obtain⟨z,e,_⟩:=el_int Tryz.underlying3 h; exact⟨z,e⟩) h1'
  have k0':[c0]=[Value.int .i64 z0]:=k0
  have k2':[c2]=[Value.int .i64 z2]:=k2
  have k3':[c3]=[Value.int .i64 z3]:=k3
  simp only[List.cons.injEq,and_true]at k0' k2' k3'
  subst e0 k0' k2' k3'
  exact⟨⟨z0,br,z2,z3⟩,a,cap,rfl,hs⟩
theorem rd_panels (hv:Value.okWide Tryz.prog W r b0 25 v) (h:DataW.Trod enc Tryz.prog W base spare held 25 v d p):∃ (l:List Pp) (a:Option Addr) (cap:Nat),v=.slice a l.length cap∧Sl (hp W) ppe 2 (.slice a l.length cap) l:=by
 obtain⟨a,n,c,rfl⟩:=okWide_slice Tryz.underlying25 hv
 obtain⟨fuel,h⟩:=h
 refine sl_of Tryz.underlying25 lcells52 (fun _ cs _ h hl=>?_) h
 match cs,hl with
 | [c0,c1],_=>
  obtain⟨z0,z1,m,_,_,g0,g1⟩:=trod_struct2 Tryz.underlying52 h
  obtain⟨x0,k0,_⟩:=el_int (k:=.i64) Tryz.underlying3 (by rw[lcells3]at g0; exact g0)
  obtain⟨x1,k1,_⟩:=el_int (k:=.i64) Tryz.underlying2 (by rw[lcells2]at g1; exact g1)
  have k0':[c0]=[Value.int .i64 x0]:=k0
  have k1':[c1]=[Value.int .i64 x1]:=k1
  simp at k0' k1'
  subst k0' k1'
  exact⟨⟨x0,x1⟩,rfl⟩
end
end Go.Proofs.YtfmmggphdeiajaaGreatDoor
end
section
set_option linter.unusedVariables false
set_option linter.constructorNameAsVariable false
namespace Go.Ev
open Go.Lw Go.RowKit Go.Proofs
noncomputable def orT:Orc:=.mk fun args h K=>List.rec (motive:=fun _=>R) (K (.b true) h) (fun _ _ _=>none) args
theorem orT_ok {w0:World} {f:FuncId} (hc:zy Pr f) (hw:∀ w:World,Calls Pr f #[] w fun en w'=>en=.returned (.bool true)∧Below w.heap.size w w'):FOk w0 orT.g f:=by
 intro e h K z args us w hh ha R
 refine⟨hc,?_⟩
 cases args with
 | nil=>
  cases us with
  | nil=>exact FOk.val (x:=.b true) R hh rfl (hw w)
  | cons _ _=>exact ha.elim
 | cons _ _=>cases hh
noncomputable def O5 (f:FuncId):Option Orc:=bif [351,352,353,293,238,177,114,68,36,19].any (Nat.beq f)then some orT else none
theorem oc5 (w0:World):OcOk w0 O5:=by
 intro f o h
 unfold O5 at h
 cases c:[351,352,353,293,238,177,114,68,36,19].any (Nat.beq f)with
 | false=>rw[c]at h; cases h
 | true=>
  rw[c]at h
  cases h
  simp only[List.any_cons,List.any_nil,Bool.or_false,Bool.or_eq_true]at c
  rcases c with c | c | c | c | c | c | c | c | c | c<;>obtain rfl:=Nat.eq_of_beq_eq_true c
  ·exact @orT_ok w0 _ (by rw[jH]; exact zu Tryz.func351 (by kernel_rfl) (by kernel_rfl)) works01
  ·exact @orT_ok w0 _ (by rw[jH]; exact zu Tryz.func352 (by kernel_rfl) (by kernel_rfl)) works02
  ·exact @orT_ok w0 _ (by rw[jH]; exact zu Tryz.func353 (by kernel_rfl) (by kernel_rfl)) works03
  ·exact @orT_ok w0 _ (by rw[jH]; exact zu Tryz.func293 (by kernel_rfl) (by kernel_rfl)) works04
  ·exact @orT_ok w0 _ (by rw[jH]; exact zu Tryz.func238 (by kernel_rfl) (by kernel_rfl)) works05
  ·exact @orT_ok w0 _ (by rw[jH]; exact zu Tryz.func177 (by kernel_rfl) (by kernel_rfl)) works06
  ·exact @orT_ok w0 _ (by rw[jH]; exact zu Tryz.func114 (by kernel_rfl) (by kernel_rfl)) works07
  ·exact @orT_ok w0 _ (by rw[jH]; exact zu Tryz.func68 (by kernel_rfl) (by kernel_rfl)) works08
  ·exact @orT_ok w0 _ (by rw[jH]; exact zu Tryz.func36 (by kernel_rfl) (by kernel_rfl)) works09
  ·exact @orT_ok w0 _ (by rw[jH]; exact zu Tryz.func19 (by kernel_rfl) (by kernel_rfl)) works10
theorem wAll:runs O5 5=true:=by decide +kernel
theorem works_f (V:View):Fnc Tryz.prog 5 [] V fun r _=>r=.bool true:=fun w hw=>by
 rw[←jH]
 exact(jO wAll w (oc5 w)).mono fun e w' ⟨h1,h2⟩=>⟨_,V,h1,h2,Le.refl _,hw.trans (Lw.Below.le h2),fun k o hk=>.inl hk,rfl⟩
end Go.Ev
end
section
set_option maxRecDepth 100000
namespace Go.Proofs.YtfmmggphdeiajaaGreatDoor
open Go Go.ChangeShapes Go.WideShapes
theorem zJoin:joinedFacts Tryz.pinned.checked.prog 3 Tryz.f3 Rows.topPressedBoilSpec Rows.topPressedBoilRow=true:=by
 show joinedFacts Tryz.prog 3 Tryz.f3 Rows.topPressedBoilSpec Rows.topPressedBoilRow=true
 unfold joinedFacts
 simp only[Bool.and_eq_true (_:Bool) (_:Bool)]
 exact⟨⟨⟨⟨⟨⟨⟨⟨⟨⟨⟨⟨⟨⟨⟨⟨⟨⟨⟨⟨⟨⟨⟨⟨⟨⟨⟨⟨⟨⟨⟨zj0,laidOut⟩,zj2⟩,zj3⟩,zj4⟩,zj5⟩,zj6⟩,zj7⟩,zj8⟩,(beq_iff_eq.2 inPlace_ok.symm)⟩,(beq_iff_eq.2 unf_ok.symm)⟩,(beq_iff_eq.2 rec_ok.symm)⟩,(beq_iff_eq.2 named_ok.symm)⟩,zj13⟩,zj14⟩,zj15⟩,zj16⟩,zj17⟩,zj18⟩,zj19⟩,zj20⟩,zj21⟩,zj22⟩,zj23⟩,zj24⟩,zj25⟩,zj26⟩,zj27⟩,zj28⟩,zj29⟩,zj30⟩,zj31⟩
theorem zGoes:false=Rows.topPressedBoilRow.goesBy Tryz.pinned.checked.prog:=by
 have e:Tryz.prog.goesFrom "crossband/crossbandtop.TopPressedBoil" = false:=by
  unfold Program.goesFrom
  rw[zNamed,Option.any_some]
  exact goes_ok
 have e2:Tryz.prog.goesAt .entering "crossband/crossbandtop.TopPressedBoil" = false:=by
  unfold Program.goesAt
  rw[e,Bool.false_or]
 unfold OpenClaim.goesBy
 rw[show Rows.topPressedBoilRow.start=.entering from rfl,show Rows.topPressedBoilRow.func = "crossband/crossbandtop.TopPressedBoil" from rfl,show Tryz.pinned.checked.prog=Tryz.prog from rfl,e2]
end Go.Proofs.YtfmmggphdeiajaaGreatDoor
end
