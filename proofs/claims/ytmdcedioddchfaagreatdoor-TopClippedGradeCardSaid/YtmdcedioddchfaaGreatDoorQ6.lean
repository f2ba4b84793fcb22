/- Texts that the last one of this claim imports. -/
import Derived.Shelf.Strings.OnBuilder
import Derived.Shelf.Strings.SlTrimAscii
import Derived.Shelf.Strings.Count
import Derived.Test.YtmdcedioddchfaaGreatDoorProg
import Derived.KernelRfl
import Derived.Lib.SliceRun
import Derived.ProofKit
import Derived.OpenShut
import Derived.Carry
import Derived.Lib.SmallJoins
import Derived.Deep.Slices
import Derived.Handed
import Derived.LaidLaws
import Derived.Stop.Joined
import Derived.Test.YtmdcedioddchfaaGreatDoorQ1
import Derived.Test.YtmdcedioddchfaaGreatDoorQ5
set_option linter.unusedVariables false
set_option linter.unusedSimpArgs false
set_option linter.unusedSectionVars false
section
set_option linter.unusedVariables false
namespace Go.Ev
open Go.Shelf Go.RowKit Go.Lib Go.Proofs
def str_ren:Go.Shelf.Ren:=⟨fun | 119=>630 | 120=>623 | 137=>629 | 138=>516 | 143=>590 | 151=>612 | 152=>622 | 156=>514 | 160=>515 | 165=>579 | 166=>580 | 169=>532 | 195=>588 | 197=>611 | 217=>624 | 218=>589 | 219=>614 | 224=>626 | 225=>625 | 227=>583 | 228=>610 | 231=>581 | 232=>582 | 233=>584 | 234=>585 | 235=>586 | 236=>587 | 240=>595 | 241=>609 | 260=>621 | 266=>631 | 267=>627 | 271=>613 | 276=>615 | 277=>620 | 314=>632 | n=>n,fun | 0=>0 | 3=>3 | 4=>4 | 5=>5 | 9=>9 | 20=>20 | 21=>21 | 31=>320 | 37=>561 | 46=>254 | 51=>317 | 70=>560 | 72=>563 | 75=>568 | 76=>620 | 80=>570 | 105=>643 | 116=>624 | 117=>625 | 119=>654 | 124=>628 | 127=>634 | 138=>656 | 139=>657 | 146=>659 | 164=>646 | n=>n,fun | 1=>0 | 3=>1 | 4=>2 | n=>n⟩
theorem lay_join:Lays.n156 Tryz.prog str_ren where
 mixed:=by kernel_rfl
 f156:=Tryz.func514.trans (congrArg some (by kernel_rfl))
 f165:=Tryz.func579.trans (congrArg some (by kernel_rfl))
 f166:=Tryz.func580.trans (congrArg some (by kernel_rfl))
 f169:=Tryz.func532.trans (congrArg some (by kernel_rfl))
 f240:=Tryz.func595.trans (congrArg some (by kernel_rfl))
 f241:=Tryz.func609.trans (congrArg some (by kernel_rfl))
 f276:=Tryz.func615.trans (congrArg some (by kernel_rfl))
 f277:=Tryz.func620.trans (congrArg some (by kernel_rfl))
 t0:=Tryz.underlying0
 a0:=Tryz.isAgg0
 z0:=Tryz.sizeOf0
 v0:=Tryz.zeroValue0
 t3:=Tryz.underlying3
 a3:=Tryz.isAgg3
 z3:=Tryz.sizeOf3
 v3:=Tryz.zeroValue3
 t4:=Tryz.underlying4
 a4:=Tryz.isAgg4
 z4:=Tryz.sizeOf4
 v4:=Tryz.zeroValue4
 t9:=Tryz.underlying9
 a9:=Tryz.isAgg9
 z9:=Tryz.sizeOf9
 v9:=Tryz.zeroValue9
 t20:=Tryz.underlying20
 a20:=Tryz.isAgg20
 z20:=Tryz.sizeOf20
 v20:=Tryz.zeroValue20
 t31:=Tryz.underlying320
 a31:=Tryz.isAgg320
 z31:=Tryz.sizeOf320
 v31:=Tryz.zeroValue320
 t37:=Tryz.underlying561
 a37:=Tryz.isAgg561
 z37:=Tryz.sizeOf561
 v37:=Tryz.zeroValue561
 t70:=Tryz.underlying560
 a70:=Tryz.isAgg560
 z70:=Tryz.sizeOf560
 v70:=Tryz.zeroValue560
 t72:=Tryz.underlying563
 a72:=Tryz.isAgg563
 z72:=Tryz.sizeOf563
 v72:=Tryz.zeroValue563
 t75:=Tryz.underlying568
 a75:=Tryz.isAgg568
 z75:=Tryz.sizeOf568
 v75:=Tryz.zeroValue568
 t76:=Tryz.underlying620
 a76:=Tryz.isAgg620
 z76:=Tryz.sizeOf620
 v76:=Tryz.zeroValue620
 t127:=Tryz.underlying634
 a127:=Tryz.isAgg634
 z127:=Tryz.sizeOf634
 v127:=Tryz.zeroValue634
 t164:=Tryz.underlying646
 a164:=Tryz.isAgg646
 z164:=Tryz.sizeOf646
 v164:=Tryz.zeroValue646
theorem lay_trim:Lays.n160 Tryz.prog str_ren where
 mixed:=by kernel_rfl
 f119:=Tryz.func630.trans (congrArg some (by kernel_rfl))
 f120:=Tryz.func623.trans (congrArg some (by kernel_rfl))
 f137:=Tryz.func629.trans (congrArg some (by kernel_rfl))
 f151:=Tryz.func612.trans (congrArg some (by kernel_rfl))
 f152:=Tryz.func622.trans (congrArg some (by kernel_rfl))
 f160:=Tryz.func515.trans (congrArg some (by kernel_rfl))
 f197:=Tryz.func611.trans (congrArg some (by kernel_rfl))
 f217:=Tryz.func624.trans (congrArg some (by kernel_rfl))
 f224:=Tryz.func626.trans (congrArg some (by kernel_rfl))
 f225:=Tryz.func625.trans (congrArg some (by kernel_rfl))
 f227:=Tryz.func583.trans (congrArg some (by kernel_rfl))
 f228:=Tryz.func610.trans (congrArg some (by kernel_rfl))
 f231:=Tryz.func581.trans (congrArg some (by kernel_rfl))
 f232:=Tryz.func582.trans (congrArg some (by kernel_rfl))
 f233:=Tryz.func584.trans (congrArg some (by kernel_rfl))
 f234:=Tryz.func585.trans (congrArg some (by kernel_rfl))
 f235:=Tryz.func586.trans (congrArg some (by kernel_rfl))
 f236:=Tryz.func587.trans (congrArg some (by kernel_rfl))
 f260:=Tryz.func621.trans (congrArg some (by kernel_rfl))
 f266:=Tryz.func631.trans (congrArg some (by kernel_rfl))
 f271:=Tryz.func613.trans (congrArg some (by kernel_rfl))
 t0:=Tryz.underlying0
 a0:=Tryz.isAgg0
 z0:=Tryz.sizeOf0
 v0:=Tryz.zeroValue0
 t3:=Tryz.underlying3
 a3:=Tryz.isAgg3
 z3:=Tryz.sizeOf3
 v3:=Tryz.zeroValue3
 t4:=Tryz.underlying4
 a4:=Tryz.isAgg4
 z4:=Tryz.sizeOf4
 v4:=Tryz.zeroValue4
 t5:=Tryz.underlying5
 a5:=Tryz.isAgg5
 z5:=Tryz.sizeOf5
 v5:=Tryz.zeroValue5
 t9:=Tryz.underlying9
 a9:=Tryz.isAgg9
 z9:=Tryz.sizeOf9
 v9:=Tryz.zeroValue9
 t21:=Tryz.underlying21
 a21:=Tryz.isAgg21
 z21:=Tryz.sizeOf21
 v21:=Tryz.zeroValue21
 t46:=Tryz.underlying254
 a46:=Tryz.isAgg254
 z46:=Tryz.sizeOf254
 v46:=Tryz.zeroValue254
 t105:=Tryz.underlying643
 a105:=Tryz.isAgg643
 z105:=Tryz.sizeOf643
 v105:=Tryz.zeroValue643
 t116:=Tryz.underlying624
 a116:=Tryz.isAgg624
 z116:=Tryz.sizeOf624
 t117:=Tryz.underlying625
 a117:=Tryz.isAgg625
 z117:=Tryz.sizeOf625
 v117:=Tryz.zeroValue625
 t119:=Tryz.underlying654
 a119:=Tryz.isAgg654
 z119:=Tryz.sizeOf654
 t124:=Tryz.underlying628
 a124:=Tryz.isAgg628
 z124:=Tryz.sizeOf628
 v124:=Tryz.zeroValue628
 t138:=Tryz.underlying656
 a138:=Tryz.isAgg656
 z138:=Tryz.sizeOf656
 v138:=Tryz.zeroValue656
 t139:=Tryz.underlying657
 a139:=Tryz.isAgg657
 z139:=Tryz.sizeOf657
 v139:=Tryz.zeroValue657
 g3:=by kernel_rfl
 g4:=by kernel_rfl
theorem lay_count:Lays.n138 Tryz.prog str_ren where
 mixed:=by kernel_rfl
 f138:=Tryz.func516.trans (congrArg some (by kernel_rfl))
 f143:=Tryz.func590.trans (congrArg some (by kernel_rfl))
 f195:=Tryz.func588.trans (congrArg some (by kernel_rfl))
 f217:=Tryz.func624.trans (congrArg some (by kernel_rfl))
 f218:=Tryz.func589.trans (congrArg some (by kernel_rfl))
 f219:=Tryz.func614.trans (congrArg some (by kernel_rfl))
 f224:=Tryz.func626.trans (congrArg some (by kernel_rfl))
 f225:=Tryz.func625.trans (congrArg some (by kernel_rfl))
 f266:=Tryz.func631.trans (congrArg some (by kernel_rfl))
 f267:=Tryz.func627.trans (congrArg some (by kernel_rfl))
 f314:=Tryz.func632.trans (congrArg some (by kernel_rfl))
 t0:=Tryz.underlying0
 a0:=Tryz.isAgg0
 z0:=Tryz.sizeOf0
 v0:=Tryz.zeroValue0
 t3:=Tryz.underlying3
 a3:=Tryz.isAgg3
 z3:=Tryz.sizeOf3
 v3:=Tryz.zeroValue3
 t4:=Tryz.underlying4
 a4:=Tryz.isAgg4
 z4:=Tryz.sizeOf4
 v4:=Tryz.zeroValue4
 t5:=Tryz.underlying5
 a5:=Tryz.isAgg5
 z5:=Tryz.sizeOf5
 v5:=Tryz.zeroValue5
 t9:=Tryz.underlying9
 a9:=Tryz.isAgg9
 z9:=Tryz.sizeOf9
 v9:=Tryz.zeroValue9
 t46:=Tryz.underlying254
 a46:=Tryz.isAgg254
 z46:=Tryz.sizeOf254
 v46:=Tryz.zeroValue254
 t51:=Tryz.underlying317
 a51:=Tryz.isAgg317
 z51:=Tryz.sizeOf317
 v51:=Tryz.zeroValue317
 t146:=Tryz.underlying659
 a146:=Tryz.isAgg659
 z146:=Tryz.sizeOf659
 v146:=Tryz.zeroValue659
 g1:=by kernel_rfl
theorem str_ext:Builder.Extra Tryz.prog str_ren where
 sizeBuilder:=by kernel_rfl
 liesBuilder:=by kernel_rfl
 t5:=Tryz.underlying5
 a5:=Tryz.isAgg5
 z5:=Tryz.sizeOf5
 v5:=Tryz.zeroValue5
 infoByte:=by kernel_rfl
 cellsByte:=by kernel_rfl
 sizeByte:=by kernel_rfl
 neB5:=by decide
end Go.Ev
end
section
set_option linter.unusedVariables false
set_option linter.constructorNameAsVariable false
namespace Go.Ev
open Go.Lw Go.RowKit Go.Shelf Go.Proofs
theorem xn:Pr=Tryz.prog:=by unfold Pr; rfl
theorem FOk.val {w0:World} {f:FuncId} {us:List Value} {w:World} {e:Env} {h:H} {K:KV} {z:List (AV×H)} {x:AV} {v:Value} (R:zG w0 e h w) (hk:K x h=some z) (hx:Dn e x v) (hc:Calls Pr f ⟨us⟩ w fun en w'=>en=.returned v∧Below w.heap.size w w') :
  Calls Pr f ⟨us⟩ w fun en w'=>∃ v,en=.returned v∧Out w0 e h K v w':=
 hc.mono fun en w' ⟨h1,h2⟩=>⟨v,h1,x,h,e,z,hk,hx,R.world h2,.refl e h⟩
theorem trim_ok (w0:World):FOk w0 orTrim.g 515:=by
 intro e h K z args us w hh ha R
 refine⟨by rw[xn]; exact zu Tryz.func515 (by kernel_rfl) (by kernel_rfl),?_⟩
 have hh':args2 args _=some z:=hh
 obtain⟨x,y,rfl,hp⟩:=args2_law hh'
 obtain⟨x,rfl,hp2⟩:=qL hp
 obtain⟨y,rfl,hq⟩:=qL hp2
 clear hp hp2 hh' hh
 match us,ha with
 | [u,v],ha=>
  split at hq
  ·rename_i s cs _
   obtain⟨g1,hk⟩:=zw hq
   simp only[Bool.and_eq_true]at g1
   obtain⟨⟨g1,g2⟩,g3⟩:=g1
   have hu:u=.string s:=ha.1.1
   have hv:v=.string cs:=ha.2.1.1
   subst hu; subst hv
   refine FOk.val R hk ⟨rfl,rfl⟩ ?_
   rw[xn]
   exact Any.strings_Trim_laid lay_trim (by kernel_rfl) s cs w (Nat.le_trans (Nat.le_of_ble_eq_true g1) (by decide)) (Nat.lt_of_le_of_lt (Nat.le_of_ble_eq_true g2) (by decide)) fun j b hb=>jI (List.all_eq_true.1 g3 b (List.mem_of_getElem? hb))
  ·cases hq
 | [],ha=>exact ha.elim
 | [_],ha=>exact ha.2.elim
 | _::_::_::_,ha=>exact ha.2.2.elim
theorem count_ok (w0:World):FOk w0 orCount.g 516:=by
 intro e h K z args us w hh ha R
 refine⟨by rw[xn]; exact zu Tryz.func516 (by kernel_rfl) (by kernel_rfl),?_⟩
 have hh':args2 args _=some z:=hh
 obtain⟨x,y,rfl,hp⟩:=args2_law hh'
 obtain⟨x,rfl,hp2⟩:=qL hp
 obtain⟨y,rfl,hq⟩:=qL hp2
 clear hp hp2 hh' hh
 match us,ha with
 | [u,v],ha=>
  split at hq
  ·rename_i s cs _
   split at hq
   ·rename_i c hc
    rw[nat_eq]at hq
    have hu:u=.string s:=ha.1.1
    have hv:v=.string cs:=ha.2.1.1
    subst hu; subst hv
    have hcs:cs=⟨#[c]⟩:=by
     cases cs with
     | mk d=>cases d with
      | mk l=>simp at hc; subst hc; rfl
    subst hcs
    refine FOk.val (x:=.i .i64 (.ofNat (Lib.countByte s.data.toList c))) R hq rfl ?_
    rw[xn]
    exact(Any.strings_Count_one lay_count s c w).mono fun en w' ⟨h1,h2⟩=>⟨h1,h2▸Below.refl _ _⟩
   ·cases hq
  ·cases hq
 | [],ha=>exact ha.elim
 | [_],ha=>exact ha.2.elim
 | _::_::_::_,ha=>exact ha.2.2.elim
theorem strs_law {z:List (AV×H)} : ∀ {l:List Sc} {K:List ByteArray→Ev.R},strs l K=some z→∃ bs:List ByteArray,K bs=some z∧l=bs.map fun b=>Sc.o (.c (.string b))
 | [],K,hh=>⟨[],hh,rfl⟩
 | s::l,K,hh=>by
  cases s with
  | o x=>
   cases x with
   | c v=>
    cases v with
    | string b=>
     have hh':strs l (fun r=>K (b::r))=some z:=hh
     obtain⟨bs,h1,h2⟩:=strs_law hh'
     exact⟨b::bs,h1,by rw[h2]; rfl⟩
    | _=>cases hh
   | _=>cases hh
  | _=>cases hh
theorem join_at {w0:World} {e:Env} {h:H} {w:World} {K:KV} {z:List (AV×H)} {id off n c:Nat} {sep:ByteArray} (R:zG w0 e h w) (hd:e.dom id) (hc:n≤c)
  (hh:gd (Nat.blt 0 n && Nat.ble n 1000) (csE id off n 1 h fun m cs=>strs cs fun l=>gd (Nat.ble (joined l sep).length 100000) (K (.x (.o (.c (.string ⟨(joined l sep).toArray⟩)))) h))=some z) :
  Calls Pr 514 ⟨[.slice (some (adr e id off)) n c,.string sep]⟩ w fun en w'=>∃ v,en=.returned v∧Out w0 e h K v w':=by
 obtain⟨g1,hh⟩:=zw hh
 simp only[Bool.and_eq_true]at g1
 have g2:=jI g1.1
 have g3:=Nat.le_of_ble_eq_true g1.2
 cases n with
 | zero=>omega
 | succ n=>
  obtain⟨E,N,t,hb,hh⟩:=jG (z:=z) (K:=fun E N t=>gd (Nat.ble (off+(n+1)*1) N) (getL t off ((n+1)*1) fun r=>strs r fun l=>gd (Nat.ble (joined l sep).length 100000) (K (.x (.o (.c (.string ⟨(joined l sep).toArray⟩)))) h))) hh
  obtain⟨g4,hh⟩:=zw hh
  have g4:=Nat.le_of_ble_eq_true g4
  obtain⟨l,hl,hg,hh⟩:=getL_law hh
  obtain⟨bs,hs,rfl⟩:=strs_law hh
  obtain⟨g5,hk⟩:=zw hs
  have g5:=Nat.le_of_ble_eq_true g5
  obtain⟨us,u1,u2,u3⟩:=R.row hd hb hg (by rw[hl]; exact g4)
  rw[List.length_map]at hl
  refine FOk.val R hk ⟨rfl,rfl⟩ ?_
  rw[xn]
  have hlow:e.blk id<w.heap.size:=(R.low id hd (by rcases hb with hb | hb<;>rw[hb]<;>trivial)).2
  have:=Any.strings_Join lay_join str_ext (e.blk id) off c bs sep w (fun j x hx=>by
   have hj:((bs.map fun b=>Sc.o (.c (.string b))))[j]? = some (Sc.o (.c (.string x))):=by rw[List.getElem?_map,hx]; rfl
   have hju:j<us.length:=by rw[u1]; exact(List.getElem?_eq_some_iff.1 hj).1
   have hu:=List.getElem?_eq_getElem hju
   have hd2:us[j]=.string x:=(u2.at hj hu).1.1
   have:=u3 j _ hu
   rw[kN,hd2]at this
   exact this) hlow (by omega) (by omega) (Nat.le_trans g5 (by decide))
  rw[show bs.length=n+1 by omega]at this
  exact this
theorem join_ok (w0:World):FOk w0 orJoin.g 514:=by
 intro e h K z args us w hh ha R
 refine⟨by rw[xn]; exact zu Tryz.func514 (by kernel_rfl) (by kernel_rfl),?_⟩
 have hh':args2 args _=some z:=hh
 obtain⟨x,y,rfl,hp⟩:=args2_law hh'
 obtain⟨x,rfl,hp2⟩:=qL hp
 obtain⟨y,rfl,hq⟩:=qL hp2
 clear hp hp2 hh' hh
 match us,ha with
 | [u,v],ha=>
  split at hq
  ·rename_i sep _
   have hv:v=.string sep:=ha.2.1.1
   subst hv
   split at hq
   ·rename_i id off n c _
    obtain⟨hd,rfl⟩:e.dom id∧u=.slice (some (adr e id off)) n c:=ha.1
    obtain⟨g0,hq2⟩:=zw hq
    exact join_at R hd (Nat.le_of_ble_eq_true g0) hq2
   ·rename_i id off n c _
    obtain⟨hd,rfl,hc⟩:e.dom id∧u=.slice (some (adr e id off)) n (e.cap id-c)∧n+c≤e.cap id:=ha.1
    exact join_at R hd (by omega) hq
   ·cases hq
  ·cases hq
 | [],ha=>exact ha.elim
 | [_],ha=>exact ha.2.elim
 | _::_::_::_,ha=>exact ha.2.2.elim
theorem copy_ok (w0:World):FOk w0 orCopy.g 595:=by
 intro e h K z args us w hh ha R
 refine⟨by rw[xn]; exact zu Tryz.func595 (by kernel_rfl) (by kernel_rfl),?_⟩
 have hh':ku args _=some z:=hh
 obtain⟨x,rfl,hp⟩:=kr hh'
 obtain⟨id,off,rfl,hp2⟩:=jP hp
 obtain⟨g1,hq⟩:=zw hp2
 have:=Nat.eq_of_beq_eq_true g1; subst this
 clear hp hp2 hh' hh
 match us,ha with
 | [u],ha=>
  obtain⟨hd,rfl⟩:e.dom id∧u=.pointer (some (adr e id 0)):=ha.1
  split at hq
  ·rename_i E n t hb
   have g2:=(zw hq).1
   replace hq:=(zw hq).2
   simp only[Bool.and_eq_true]at g2
   obtain rfl:E=563:=Nat.eq_of_beq_eq_true g2.1
   obtain rfl:n=2:=Nat.eq_of_beq_eq_true g2.2
   have ok:=R.ok id hd
   rw[hb]at ok
   obtain⟨cs,k1,k2,k3⟩:=ok
   obtain⟨s,v,c1,c2,c3⟩:=k3.2.2 0 (by decide)
   have hc:w.cell? ⟨e.blk id,0,none⟩=some v:=by rw[kH k1]; exact c1
   rw[c2]at hq
   split at hq
   ·rename_i i o hs
    cases hs
    obtain⟨g3,hk⟩:=zw hq
    rw[Bool.and_eq_true]at g3
    have e1:i=id:=Nat.eq_of_beq_eq_true g3.1
    have e2:o=0:=Nat.eq_of_beq_eq_true g3.2
    subst e1; subst e2
    obtain⟨_,rfl⟩:e.dom i∧v=.pointer (some (adr e i 0)):=c3.1
    refine FOk.val (x:=.t []) R hk ⟨[],rfl,trivial⟩ ?_
    rw[xn]
    exact(Any.Builder_copyCheck_used { lay_join with } str_ext.toX72 (e.blk i) w hc).mono fun en w' ⟨h1,h2⟩=>⟨h1,h2▸Below.refl _ _⟩
   ·rename_i hs
    cases hs
    obtain rfl:v=.pointer none:=c3.1.1
    have hu:zN (DnC e) [.p id 0] [.pointer (some (adr e id 0))]:=⟨⟨⟨hd,rfl⟩,rfl⟩,trivial⟩
    obtain⟨E',cs',m1,m2,m3⟩:=edit_law (K:=fun h=>K (.t []) h) R hd hu (q:=1) (by simp) hq
    rw[k1]at m1
    obtain⟨rfl,rfl⟩:cs'=cs∧E'=563:=by unfold LC at m1; simp at m1; exact⟨m1.1.symm,m1.2.symm⟩
    rw[xn]
    have hsh:w.shape? (e.blk id)=some (str_ren.t 72,2):=by
     rw[show str_ren.t 72=563 from rfl]
     simp[World.shape?,k1,LC,k2]
    refine(Any.Builder_copyCheck_fresh { lay_join with } str_ext.toX72 (e.blk id) w hc hsh (by simp[World.frozen?,k1,LC])).mono fun en w' ⟨h1,h2⟩=>⟨_,h1,?_⟩
    refine OutU.outT (m3 w' ?_ ?_)
    ·subst h2
     exact⟨rfl,rfl,rfl,by simp[World.setCell],fun k _ hk=>Below.heap_setCell _ _ _ _ (fun e=>hk (by simp[e]))⟩
    ·subst h2
     obtain⟨c0,c1',rfl⟩:∃ a b,cs'=[a,b]:=by
      match cs',k2 with
      | [a,b],_=>exact⟨a,b,rfl⟩
     simp[World.setCell,Array.getElem?_modify,k1,LC,adr]
   ·cases hq
  ·cases hq
 | [],ha=>exact ha.elim
 | _::_::_,ha=>exact ha.2.elim
section
variable {P:Program} {ρ:Ren}
set_option maxHeartbeats 1000000 in
set_option maxRecDepth 100000 in
theorem builder_str (L:Lays.n169 P ρ) (X:Builder.Extra P ρ) (b g cap:Nat) (p:Value) (cur:Array Value) (l:List UInt8) (w:World) (hbk:w.heap[b]? = some (.cells #[p,.slice (some ⟨g,0,none⟩) l.length cap] (ρ.t 72) (0,0))) (hg:w.heap[g]? = some (.cells cur (ρ.t 5) (0,0))) (hls:l.length≤cur.size)
  (hcl:∀ j x,l[j]? = some x→w.cell? ⟨g,j,none⟩=some (.int .u8 (x.toNat:Int))) (hcap:l.length≤cap) (h63:l.length≤9223372036854775807) (h0:l≠[]) :
  Calls P (ρ.f 169) #[.pointer (some ⟨b,0,none⟩)] w fun e w'=>e=.returned (.string ⟨l.toArray⟩)∧w.grownBy w' (some g):=by
 have hl0:l.length≠0:=by simpa using h0
 have c1:w.drew.cell? ⟨b,1,none⟩=some (.slice (some ⟨g,0,none⟩) l.length cap):=by
  have:w.drew.heap[b]? = some (.cells #[p,.slice (some ⟨g,0,none⟩) l.length cap] (ρ.t 72) (0,0)):=hbk
  rw[Lib.cell_of_heap this]; rfl
 have hSD:(Builtin.unsafeSliceData_ #[(ρ.t 37)] (ρ.t 127) #[.slice (some ⟨g,0,none⟩) l.length cap]).run P w.drew=.ok (.pointer (some ⟨g,0,none⟩)) w.drew:=
  Lib.run_unsafeSliceData_row _ _ _ _ _ _ (by omega)
 have hUS:(Builtin.unsafeString_ #[(ρ.t 127),(ρ.t 3)] (ρ.t 9) #[.pointer (some ⟨g,0,none⟩),.int .i64 l.length]).run P w.drew=.ok (.string ⟨l.toArray⟩) (w.drew.freeze ⟨g,0,none⟩ l.length):=by
  refine Lib.run_unsafeString_row w.drew (ρ.t 127) (ρ.t 3) (ρ.t 9) (ρ.t 5) L.t127 X.cellsByte g cur.size (by have hg':w.drew.heap[g]? = some (.cells cur (ρ.t 5) (0,0)):=hg; simp[World.shape?,hg']) l h0 hls h63 ?_
  intro j x hx
  have:=hcl j x hx
  rw[Addr.add_lit,Nat.zero_add]
  exact this
 have hgr:w.grownBy (w.drew.freeze ⟨g,0,none⟩ l.length) (some g):=by
  refine⟨?_,?_,?_,?_,fun k _ hne=>?_⟩<;>unfold World.freeze<;>rw[if_neg hl0]
  ·rfl
  ·rfl
  ·rfl
  ·show w.heap.size≤(w.heap.modify _ _).size
   rw[Array.size_modify]
   exact Nat.le_refl _
  ·simp only[Array.getElem?_modify]
   rw[if_neg (fun e=>hne (by rw[e]))]
   rfl
 have mixed:=L.mixed
 have t72:=L.t72; have a72:=L.a72; have z72:=L.z72; have v72:=L.v72; have u72:=run_underlying L.t72
 have t70:=L.t70; have a70:=L.a70; have z70:=L.z70; have v70:=L.v70; have u70:=run_underlying L.t70
 have t37:=L.t37; have a37:=L.a37; have z37:=L.z37; have v37:=L.v37; have u37:=run_underlying L.t37
 have t127:=L.t127; have a127:=L.a127; have z127:=L.z127; have v127:=L.v127; have u127:=run_underlying L.t127
 have t3:=L.t3; have a3:=L.a3; have z3:=L.z3; have v3:=L.v3; have u3:=run_underlying L.t3
 have t9:=L.t9; have a9:=L.a9; have z9:=L.z9; have v9:=L.v9; have u9:=run_underlying L.t9
 have t5:=X.t5; have a5:=X.a5; have z5:=X.z5; have v5:=X.v5; have u5:=run_underlying X.t5
 go_enter L.f169,Body.n169_ntmps ρ
 go_wp2
 go_region_o
 all_goals (go_wp2; go_ret; exact⟨rfl,hgr⟩)
end
theorem byts_law {z:List (AV×H)} : ∀ {l:List Sc} {K:List UInt8→Ev.R},byts l K=some z→∃ bs:List UInt8,K bs=some z∧l.length=bs.length∧∀ (j:Nat) (x:UInt8),bs[j]? = some x→l[j]? = some (Sc.i IntKind.u8 (Int.ofNat x.toNat))
 | [],K,hh=>⟨[],hh,rfl,fun j s hj=>by simp at hj⟩
 | s::l,K,hh=>by
  cases s with
  | i k a=>
   cases k with
   | u8=>
    cases a with
    | ofNat n=>
     have hh':gd (Nat.blt n 256) (byts l (fun r=>K (UInt8.ofNat n::r)))=some z:=hh
     obtain⟨g1,hh'⟩:=zw hh'
     obtain⟨bs,h1,h2,h3⟩:=byts_law hh'
     refine⟨_,h1,by simp[h2],fun j s hj=>?_⟩
     cases j with
     | zero=>
      simp at hj
      subst hj
      rw[UInt8.toNat_ofNat',Nat.mod_eq_of_lt (jI g1)]
      rfl
     | succ j=>exact h3 j s (by simpa using hj)
    | _=>cases hh
   | _=>cases hh
  | _=>cases hh
theorem str_ok (w0:World):FOk w0 orStr.g 532:=by
 intro e h K z args us w hh ha R
 refine⟨by rw[xn]; exact zu Tryz.func532 (by kernel_rfl) (by kernel_rfl),?_⟩
 have hh':ku args _=some z:=hh
 obtain⟨x,rfl,hp⟩:=kr hh'
 obtain⟨id,off,rfl,hp2⟩:=jP hp
 obtain⟨g1,hq⟩:=zw hp2
 have:=Nat.eq_of_beq_eq_true g1; subst this
 clear hp hp2 hh' hh
 match us,ha with
 | [u],ha=>
  obtain⟨hd,rfl⟩:e.dom id∧u=.pointer (some (adr e id 0)):=ha.1
  split at hq
  ·rename_i E n t hb
   have g2:=(zw hq).1
   replace hq:=(zw hq).2
   simp only[Bool.and_eq_true]at g2
   obtain rfl:E=563:=Nat.eq_of_beq_eq_true g2.1
   obtain rfl:n=2:=Nat.eq_of_beq_eq_true g2.2
   have ok:=R.ok id hd
   rw[hb]at ok
   obtain⟨cs,k1,k2,k3⟩:=ok
   obtain⟨s,v,c1,c2,c3⟩:=k3.2.2 1 (by decide)
   rw[c2]at hq
   split at hq
   ·rename_i i o m c hs
    cases hs
    have g3:=(zw hq).1
    replace hq:=(zw hq).2
    rw[Bool.and_eq_true]at g3
    have e2:o=0:=Nat.eq_of_beq_eq_true g3.1
    subst e2
    have hm:=jI g3.2
    obtain⟨hi,rfl,hcap⟩:e.dom i∧v=.slice (some (adr e i 0)) m (e.cap i-c)∧m+c≤e.cap i:=c3.1
    split at hq
    ·rename_i E' n' t' hbi
     have g4:=(zw hq).1
     replace hq:=(zw hq).2
     rw[Bool.and_eq_true]at g4
     obtain rfl:E'=5:=Nat.eq_of_beq_eq_true g4.1
     have hmn:=Nat.le_of_ble_eq_true g4.2
     obtain⟨l,l1,l2,hq⟩:=getL_law hq
     obtain⟨bs,hk,b1,b2⟩:=byts_law hq
     obtain⟨hlo,h',P,hk⟩:=kz hk (R.zY hi)
     obtain⟨ds,d1,d2⟩:=R.cells hi (.inr hbi)
     obtain rfl:m=bs.length:=by omega
     obtain⟨a0,rfl⟩:∃ a,cs=[a,.slice (some (adr e i 0)) bs.length (e.cap i-c)]:=by
      match cs,k2,c1 with
      | [a,b],_,c1=>simp at c1; subst c1; exact⟨a,rfl⟩
     have h2:=d2.2.1
     have h3:=capV_le t'
     rw[xn]
     refine(builder_str { lay_join with } str_ext (e.blk id) (e.blk i) (e.cap i-c) a0 ⟨ds⟩ bs w k1 d1 (Nat.le_trans hmn d2.1) (fun j x hj=>?_) (by omega) (by omega) (fun h=>by subst h; simp at hm)).mono fun en w' ⟨r1,r2⟩=>⟨_,r1,?_⟩
     ·have hjb:j<bs.length:=(List.getElem?_eq_some_iff.1 hj).1
      obtain⟨s,v,q1,q2,q3⟩:=d2.2.2 j (by omega)
      have q4:=l2 j _ (b2 j x hj)
      rw[Nat.zero_add,q2]at q4
      cases q4
      rw[kH d1,q1]
      exact congrArg some q3.1
     ·exact⟨_,h',e,z,hk,⟨rfl,rfl⟩,(R.low' i).put P hi (by show inB (hget h i); rw[hbi]; trivial) (by show ¬ hidK (hget h i); rw[hbi]; exact fun c=>c) r2 trivial,(fr_low e h i).trans <| (R.low' i).frPut P hi (.inl hlo) (by show kD (hget h i) _; rw[hbi]; trivial)⟩
    ·cases hq
   ·cases hq
  ·cases hq
 | [],ha=>exact ha.elim
 | _::_::_,ha=>exact ha.2.elim
theorem oc1 (w0:World):OcOk w0 O1:=by
 intro f o h
 unfold O1 at h
 have b:∀ {m:Nat} {x y:Option Orc},(bif Nat.beq f m then x else y)=some o→(f=m∧x=some o)∨y=some o:=by
  intro m x y h
  cases c:Nat.beq f m with
  | true=>rw[c]at h; exact .inl ⟨Nat.eq_of_beq_eq_true c,h⟩
  | false=>rw[c]at h; exact .inr h
 rcases b h with ⟨rfl,h⟩ | h
 ·cases h; exact @join_ok w0
 rcases b h with ⟨rfl,h⟩ | h
 ·cases h; exact @trim_ok w0
 rcases b h with ⟨rfl,h⟩ | h
 ·cases h; exact @count_ok w0
 rcases b h with ⟨rfl,h⟩ | h
 ·cases h; exact @copy_ok w0
 rcases b h with ⟨rfl,h⟩ | h
 ·cases h; exact @str_ok w0
 cases h
end Go.Ev
end
section
namespace Go.Proofs.YtmdcedioddchfaaGreatDoor
open Go.Lw
theorem tk1:tkB Tryz.prog 1=some (false,1):=by kernel_rfl
theorem z1:zx Tryz.prog 1=some Go.Value.nilFunc:=by kernel_rfl
theorem tk2:tkB Tryz.prog 2=some (false,1):=by kernel_rfl
theorem z2:zx Tryz.prog 2=some (Go.Value.int Go.IntKind.i64 0):=by kernel_rfl
theorem rw2:rowB Tryz.prog 2=some ((Go.Value.int Go.IntKind.i64 0),1,8):=by kernel_rfl
theorem tk3:tkB Tryz.prog 3=some (false,1):=by kernel_rfl
theorem z3:zx Tryz.prog 3=some (Go.Value.int Go.IntKind.i64 0):=by kernel_rfl
theorem rw3:rowB Tryz.prog 3=some ((Go.Value.int Go.IntKind.i64 0),1,8):=by kernel_rfl
theorem z4:zx Tryz.prog 4=some (Go.Value.bool Bool.false):=by kernel_rfl
theorem z5:zx Tryz.prog 5=some (Go.Value.int Go.IntKind.u8 0):=by kernel_rfl
theorem z9:zx Tryz.prog 9=some (Go.Value.string (ByteArray.mk #[])):=by kernel_rfl
theorem z20:zx Tryz.prog 20=some Go.Value.nilIface:=by kernel_rfl
theorem z21:zx Tryz.prog 21=some (Go.Value.int Go.IntKind.i32 0):=by kernel_rfl
theorem qH:tkB Tryz.prog 22=some (false,1):=by kernel_rfl
theorem qR:tkB Tryz.prog 24=some (true,2):=by kernel_rfl
theorem zI:foB Tryz.prog 24 0=some 0:=by kernel_rfl
theorem zB:foB Tryz.prog 24 1=some 1:=by kernel_rfl
theorem tk25:tkB Tryz.prog 25=some (false,1):=by kernel_rfl
theorem z31:zx Tryz.prog 31=some Go.Value.nilFunc:=by kernel_rfl
theorem tk32:tkB Tryz.prog 32=some (false,1):=by kernel_rfl
theorem z32:zx Tryz.prog 32=some (Go.Value.slice Option.none 0 0):=by kernel_rfl
theorem jk:tkB Tryz.prog 36=some (false,1):=by kernel_rfl
theorem tk37:tkB Tryz.prog 37=some (false,1):=by kernel_rfl
theorem z37:zx Tryz.prog 37=some (Go.Value.slice Option.none 0 0):=by kernel_rfl
theorem jR:tkB Tryz.prog 39=some (true,3):=by kernel_rfl
theorem z39:zx Tryz.prog 39=some (Go.Value.agg #[(Go.Value.slice Option.none 0 0),(Go.Value.slice Option.none 0 0),(Go.Value.slice Option.none 0 0)]):=by kernel_rfl
theorem qo:foB Tryz.prog 39 0=some 0:=by kernel_rfl
theorem qG:foB Tryz.prog 39 1=some 1:=by kernel_rfl
theorem qF:foB Tryz.prog 39 2=some 2:=by kernel_rfl
theorem kw:tkB Tryz.prog 41=some (true,3):=by kernel_rfl
theorem z41:zx Tryz.prog 41=some (Go.Value.agg #[(Go.Value.int Go.IntKind.i64 0),(Go.Value.int Go.IntKind.i64 0),(Go.Value.int Go.IntKind.i64 0)]):=by kernel_rfl
theorem zQ:foB Tryz.prog 41 0=some 0:=by kernel_rfl
theorem zA:foB Tryz.prog 41 1=some 1:=by kernel_rfl
theorem zT:foB Tryz.prog 41 2=some 2:=by kernel_rfl
theorem qY:tkB Tryz.prog 43=some (true,2):=by kernel_rfl
theorem z43:zx Tryz.prog 43=some (Go.Value.agg #[(Go.Value.int Go.IntKind.i64 0),(Go.Value.int Go.IntKind.i64 0)]):=by kernel_rfl
theorem rw43:rowB Tryz.prog 43=some ((Go.Value.agg #[(Go.Value.int Go.IntKind.i64 0),(Go.Value.int Go.IntKind.i64 0)]),2,16):=by kernel_rfl
theorem qW:foB Tryz.prog 43 0=some 0:=by kernel_rfl
theorem qm:foB Tryz.prog 43 1=some 1:=by kernel_rfl
theorem tk45:tkB Tryz.prog 45=some (true,2):=by kernel_rfl
theorem z45:zx Tryz.prog 45=some (Go.Value.agg #[(Go.Value.int Go.IntKind.i64 0),(Go.Value.int Go.IntKind.i64 0)]):=by kernel_rfl
theorem rw45:rowB Tryz.prog 45=some ((Go.Value.agg #[(Go.Value.int Go.IntKind.i64 0),(Go.Value.int Go.IntKind.i64 0)]),2,16):=by kernel_rfl
theorem jV:foB Tryz.prog 45 0=some 0:=by kernel_rfl
theorem fo45_1:foB Tryz.prog 45 1=some 1:=by kernel_rfl
theorem z46:zx Tryz.prog 46=some Go.Value.nilFunc:=by kernel_rfl
theorem z51:zx Tryz.prog 51=some Go.Value.nilFunc:=by kernel_rfl
theorem qD:tkB Tryz.prog 52=some (false,1):=by kernel_rfl
theorem z52:zx Tryz.prog 52=some (Go.Value.pointer Option.none):=by kernel_rfl
theorem fo59_0:foB Tryz.prog 59 0=some 0:=by kernel_rfl
theorem jU:foB Tryz.prog 59 1=some 2:=by kernel_rfl
theorem qK:foB Tryz.prog 59 2=some 3:=by kernel_rfl
theorem jf:foB Tryz.prog 59 3=some 28:=by kernel_rfl
theorem je:foB Tryz.prog 59 4=some 53:=by kernel_rfl
theorem tk63:tkB Tryz.prog 63=some (false,1):=by kernel_rfl
theorem tk68:tkB Tryz.prog 68=some (true,5):=by kernel_rfl
theorem z68:zx Tryz.prog 68=some (Go.Value.agg #[(Go.Value.int Go.IntKind.i64 0),(Go.Value.int Go.IntKind.i64 0),(Go.Value.int Go.IntKind.i64 0),(Go.Value.int Go.IntKind.i64 0),(Go.Value.int Go.IntKind.i64 0)]):=by kernel_rfl
theorem z70:zx Tryz.prog 70=some Go.Value.nilFunc:=by kernel_rfl
theorem z72:zx Tryz.prog 72=some Go.Value.nilFunc:=by kernel_rfl
theorem z75:zx Tryz.prog 75=some (Go.Value.slice Option.none 0 0):=by kernel_rfl
theorem z76:zx Tryz.prog 76=some Go.Value.nilFunc:=by kernel_rfl
theorem tk96:tkB Tryz.prog 96=some (false,1):=by kernel_rfl
theorem z96:zx Tryz.prog 96=some (Go.Value.map Option.none):=by kernel_rfl
theorem tk99:tkB Tryz.prog 99=some (true,2):=by kernel_rfl
theorem z99:zx Tryz.prog 99=some (Go.Value.agg #[(Go.Value.int Go.IntKind.i64 0),(Go.Value.int Go.IntKind.i64 0)]):=by kernel_rfl
theorem fo99_1:foB Tryz.prog 99 1=some 1:=by kernel_rfl
theorem tk105:tkB Tryz.prog 105=some (true,8):=by kernel_rfl
theorem z105:zx Tryz.prog 105=some (Go.Value.agg #[(Go.Value.slice Option.none 0 0),(Go.Value.slice Option.none 0 0),(Go.Value.slice Option.none 0 0),(Go.Value.int Go.IntKind.i64 0),(Go.Value.int Go.IntKind.i64 0),(Go.Value.int Go.IntKind.i64 0),(Go.Value.int Go.IntKind.i64 0),(Go.Value.int Go.IntKind.i64 0)]):=by kernel_rfl
theorem qC:foB Tryz.prog 105 0=some 0:=by kernel_rfl
theorem jm:foB Tryz.prog 105 1=some 3:=by kernel_rfl
theorem z116:zx Tryz.prog 116=some Go.Value.nilFunc:=by kernel_rfl
theorem z119:zx Tryz.prog 119=some Go.Value.nilFunc:=by kernel_rfl
theorem tk131:tkB Tryz.prog 131=some (false,1):=by kernel_rfl
theorem z131:zx Tryz.prog 131=some Go.Value.nilFunc:=by kernel_rfl
theorem tk146:tkB Tryz.prog 146=some (false,1):=by kernel_rfl
theorem z146:zx Tryz.prog 146=some (Go.Value.slice Option.none 0 0):=by kernel_rfl
theorem tk148:tkB Tryz.prog 148=some (true,2):=by kernel_rfl
theorem z148:zx Tryz.prog 148=some (Go.Value.agg #[(Go.Value.int Go.IntKind.i64 0),(Go.Value.int Go.IntKind.i64 0)]):=by kernel_rfl
theorem rw148:rowB Tryz.prog 148=some ((Go.Value.agg #[(Go.Value.int Go.IntKind.i64 0),(Go.Value.int Go.IntKind.i64 0)]),2,16):=by kernel_rfl
theorem jO:foB Tryz.prog 148 0=some 0:=by kernel_rfl
theorem fo148_1:foB Tryz.prog 148 1=some 1:=by kernel_rfl
theorem xz:foB Tryz.prog 150 0=some 0:=by kernel_rfl
theorem jN:foB Tryz.prog 150 1=some 1:=by kernel_rfl
theorem tk161:tkB Tryz.prog 161=some (true,2):=by kernel_rfl
theorem z161:zx Tryz.prog 161=some (Go.Value.agg #[(Go.Value.int Go.IntKind.i64 0),(Go.Value.int Go.IntKind.i64 0)]):=by kernel_rfl
theorem fo161_0:foB Tryz.prog 161 0=some 0:=by kernel_rfl
theorem fo161_1:foB Tryz.prog 161 1=some 1:=by kernel_rfl
theorem qM:foB Tryz.prog 231 0=some 0:=by kernel_rfl
theorem tk295:tkB Tryz.prog 295=some (true,2):=by kernel_rfl
theorem z295:zx Tryz.prog 295=some (Go.Value.agg #[(Go.Value.int Go.IntKind.i64 0),(Go.Value.int Go.IntKind.i64 0)]):=by kernel_rfl
theorem fo295_0:foB Tryz.prog 295 0=some 0:=by kernel_rfl
theorem tk389:tkB Tryz.prog 389=some (false,1):=by kernel_rfl
theorem tk607:tkB Tryz.prog 607=some (false,1):=by kernel_rfl
theorem qQ:tkB Tryz.prog 613=some (true,2):=by kernel_rfl
theorem z613:zx Tryz.prog 613=some (Go.Value.agg #[(Go.Value.slice Option.none 0 0),(Go.Value.int Go.IntKind.i64 0)]):=by kernel_rfl
theorem rw613:rowB Tryz.prog 613=some ((Go.Value.agg #[(Go.Value.slice Option.none 0 0),(Go.Value.int Go.IntKind.i64 0)]),2,32):=by kernel_rfl
theorem kJ:foB Tryz.prog 613 0=some 0:=by kernel_rfl
theorem fo613_1:foB Tryz.prog 613 1=some 1:=by kernel_rfl
theorem ok55:zy Tryz.prog 55:=zu Tryz.func55 (by kernel_rfl) (by kernel_rfl)
theorem ok104:zy Tryz.prog 104:=zu Tryz.func104 (by kernel_rfl) (by kernel_rfl)
theorem ok176:zy Tryz.prog 176:=zu Tryz.func176 (by kernel_rfl) (by kernel_rfl)
theorem ok260:zy Tryz.prog 260:=zu Tryz.func260 (by kernel_rfl) (by kernel_rfl)
theorem ok266:zy Tryz.prog 266:=zu Tryz.func266 (by kernel_rfl) (by kernel_rfl)
theorem ok500:zy Tryz.prog 500:=zu Tryz.func500 (by kernel_rfl) (by kernel_rfl)
theorem ok573:zy Tryz.prog 573:=zu Tryz.func573 (by kernel_rfl) (by kernel_rfl)
theorem ok574:zy Tryz.prog 574:=zu Tryz.func574 (by kernel_rfl) (by kernel_rfl)
theorem bd295_0_1 (x1:Int) (x2:Int) (w:World):(Instr.build 295 #[(0,(.int .i64 x1)),(1,(.int .i64 x2))]).run Tryz.prog w=.ok (.agg #[(.int .i64 x1),(.int .i64 x2)]) w:=by kernel_rfl
theorem bd161_0_1 (x1:Int) (x2:Int) (w:World):(Instr.build 161 #[(0,(.int .i64 x1)),(1,(.int .i64 x2))]).run Tryz.prog w=.ok (.agg #[(.int .i64 x1),(.int .i64 x2)]) w:=by kernel_rfl
theorem jZ (x1:Int) (w:World):(Instr.buildSlice 36 1 #[(0,(.int .i64 x1))]).run Tryz.prog w=.ok (.slice (some ⟨w.heap.size,0,none⟩) 1 1) (w.alloc (LC [(.int .i64 x1)] 2)):=by kernel_rfl
theorem bs36_2_0_1 (x1:Int) (x2:Int) (w:World):(Instr.buildSlice 36 2 #[(0,(.int .i64 x1)),(1,(.int .i64 x2))]).run Tryz.prog w=.ok (.slice (some ⟨w.heap.size,0,none⟩) 2 2) (w.alloc (LC [(.int .i64 x1),(.int .i64 x2)] 2)):=by kernel_rfl
theorem bs611_1_0 (x1:Option Addr) (x2:Nat) (x3:Nat) (x4:Int) (w:World):(Instr.buildSlice 611 1 #[(0,(.agg #[(.slice x1 x2 x3),(.int .i64 x4)]))]).run Tryz.prog w=.ok (.slice (some ⟨w.heap.size,0,none⟩) 1 1) (w.alloc (LC [(.slice x1 x2 x3),(.int .i64 x4)] 613)):=by kernel_rfl
theorem bs389_1_0 (x1:Int) (x2:Int) (w:World):(Instr.buildSlice 389 1 #[(0,(.agg #[(.int .i64 x1),(.int .i64 x2)]))]).run Tryz.prog w=.ok (.slice (some ⟨w.heap.size,0,none⟩) 1 1) (w.alloc (LC [(.int .i64 x1),(.int .i64 x2)] 148)):=by kernel_rfl
theorem bd613_0_1 (x1:Option Addr) (x2:Nat) (x3:Nat) (x4:Int) (w:World):(Instr.build 613 #[(0,(.slice x1 x2 x3)),(1,(.int .i64 x4))]).run Tryz.prog w=.ok (.agg #[(.slice x1 x2 x3),(.int .i64 x4)]) w:=by kernel_rfl
theorem ffm:Tryz.prog.follows .mixedOrders=true:=by kernel_rfl
end Go.Proofs.YtmdcedioddchfaaGreatDoor
end
section
set_option linter.unusedVariables false
set_option linter.unusedSimpArgs false
namespace Go.Proofs.YtmdcedioddchfaaGreatDoor
open Go.Lw Go.RowKit
theorem eqS295 (x1:Int) (x2:Int) (x3:Int) (x4:Int):EqS Tryz.prog 295 [(.int .i64 x1),(.int .i64 x2)] [(.int .i64 x3),(.int .i64 x4)] (decide (x1=x3∧x2=x4)):=by
 refine⟨by first | exact Tryz.eqGuardType295 | kernel_rfl,fun w=>?_⟩
 have u2:=Tryz.underlying2
 have a2:=Tryz.isAgg2
 have z2:=Tryz.sizeOf2
 have hS:Tryz.prog.underlying 295=some (.struct (Tryz.prog.fieldsOf 295)):=by kernel_rfl
 have hp:Tryz.prog.stoodInHeld 295=false:=by kernel_rfl
 rw[show(10000:Nat)=9999+1 from rfl,run_equalIn_agg w 9999 295 _ _ hS hp]
 simp only[Program.fieldsOf,Tryz.underlying295]
 go_simp
 by_cases h0:x1=x3<;>by_cases h1:x2=x4<;>simp[*]
end Go.Proofs.YtmdcedioddchfaaGreatDoor
end
section
set_option linter.unusedVariables false
set_option linter.unusedSimpArgs false
namespace Go.Cu
open Go.Lw
theorem ivs {a b:Int} (h:a=b):some (Value.int .i64 a)=some (Value.int .i64 b):=by rw[h]
abbrev iv (n:Int):Value:=.int .i64 n
structure Sm where
 p:Int
 m:Int
 deriving DecidableEq
abbrev smv (a:Sm):Value:=.agg #[.int .i64 a.p,.int .i64 a.m]
abbrev sme (a:Sm):List Value:=[.int .i64 a.p,.int .i64 a.m]
def kV (x lo hi p m:Int):Sm:=if lo=hi then ⟨x*(p+m*lo),0⟩else ⟨x*p,x*m⟩
def kP (k:Nat):Int:=((k % 101:Nat):Int)
def kM (k:Nat):Int:=((k / 101:Nat):Int)-10
def MS (x lo hi:Int):Nat→MM Sm Sm×Nat
 | 0=>([],0)
 | k+1=>mput (kV x lo hi (kP k) (kM k)) ⟨kP k,kM k⟩ (MS x lo hi k).1 (MS x lo hi k).2
theorem MS_ok (x lo hi:Int):∀ k,MOk (MS x lo hi k).1 (MS x lo hi k).2
 | 0=>MOk.nil 0
 | k+1=>mput_ok (MS_ok x lo hi k)
def endK (x:Int):Nat:=if x=0 then 1 else 2121
def atS (lo:Int) (s:Sm):Int:=s.p+s.m*lo
def mxS (lo:Int) (s:Sm):Int:=max (max s.p (atS lo s)) (-(atS lo s))
def mostS (far lo:Int):List Sm→Int
 | []=>0
 | s::S=>far*mxS lo s+mostS far lo S
def mostA (far lo:Int) (S:List Sm) (k:Nat):Int:=mostS far lo (S.take k)
theorem mostS_app (far lo:Int) (s:Sm):∀ S:List Sm,mostS far lo (S++[s])=mostS far lo S+far*mxS lo s
 | []=>by simp[mostS]
 | t::S=>by simp[mostS,mostS_app far lo s S]; omega
def inS (q:Int) (e:Sm×Sm×Nat):Bool:=decide (-q≤e.1.p∧e.1.p≤q)
def shM (x lo hi q:Int):MM Sm Sm:=(MS x lo hi (endK x)).1.filter (inS q)
def good (s:Sm):Prop:=0≤s.p∧s.p≤100∧-10≤s.m∧s.m≤10
theorem mul_bd {a b A B:Int} (h1 : -A≤a) (h2:a≤A) (h3 : -B≤b) (h4:b≤B) : -(A*B)≤a*b∧a*b≤A*B:=by
 have hA:0≤A:=by omega
 have hB:0≤B:=by omega
 have e1:0≤(A-a)*(B+b):=Int.mul_nonneg (by omega) (by omega)
 have e2:0≤(A+a)*(B-b):=Int.mul_nonneg (by omega) (by omega)
 have e3:0≤(A+a)*(B+b):=Int.mul_nonneg (by omega) (by omega)
 have e4:0≤(A-a)*(B-b):=Int.mul_nonneg (by omega) (by omega)
 constructor<;>grind
end Go.Cu
end
section
set_option linter.unusedVariables false
namespace Go.Proofs.YtmdcedioddchfaaGreatDoor
open Go.Lw Go.Cu Go.RowKit
theorem tindex_i (g:FuncId) (cap:List Value) (p:Int→Bool) (V:View) (vl:Value) (l:List Int) (hs:SlI V vl l) (hok:zy Tryz.prog g)
  (hc:∀ x,x∈l→Fnc Tryz.prog g ([]++[iv x]++cap) V (fun v _=>v=.bool (p x))) :
  Fnc Tryz.prog 104 [vl,.func (.func g) #[] cap.toArray] V fun v _=>∃ j:Int,v=iv j∧(decide (0≤j))=l.any p:=by
 have hlen:=hs.qV
 refine qa Tryz.func104 rfl Tryz.ntmps104 (Nat.le_of_ble_eq_true rfl) ?_
 intro w0 hw0
 refine At.nrm ?_
 refine At.zh (.q 0 .done) ?_
 refine AtT.zg ?_
 refine AtT.done ?_
 refine At.nrm ?_
 refine At.zh (.q 0 (.q 1 (.q 2 .done))) ?_
 refine AtT.zf ?_
 first | refine AtT.zW Tryz.underlying36 ?_ | refine AtT.zX Tryz.underlying36 ?_
 refine AtT.zf ?_
 refine AtT.done ?_
 refine At.nrm ?_
 refine At.lp (ι:=Nat) (KS:=fun k=>[(0,vl),(1,.func (.func g) #[] cap.toArray),(4,iv 0),(7,iv l.length),(8,iv k)]) (OS:=fun _=>[])
  (VS:=fun k V'=>V'=V∧k≤l.length∧(l.take k).any p=false) (μ:=fun k=>l.length-k) 0 ?_ ?_ ?_ ?_
 ·exact⟨rfl,rfl,rfl,rfl,rfl,trivial⟩
 ·exact Pt.zC
 ·exact⟨rfl,Nat.zero_le _,rfl⟩
 ·rintro k V' ks' O' ⟨rfl,hkl,hany⟩ hk hO hl
  subst hk hO
  refine At.nrm ?_
  refine At.zh (.q 0 .done) ?_
  refine AtT.qd ?_
  refine AtT.done ?_
  refine At.nrm ?_
  refine At.qb rfl (fun hp=>?_) (fun hp=>?_)
  ·refine At.nrm ?_
   refine At.zh (.q 0 (.q 1 .done)) ?_
   refine AtT.zf ?_
   refine AtT.zg ?_
   refine AtT.done ?_
   refine At.nrm ?_
   refine At.zh (.q 0 (.q 1 (.q 2 (.q 3 (.q 4 (.n false 5 .done)))))) ?_
   refine AtT.zf ?_
   refine AtT.zf ?_
   refine AtT.zf ?_
   refine AtT.qj Tryz.underlying36 tk2 ?_
   intro p14 e14 he14 hc14
   first | refine AtT.zn tk2 ?_ | refine AtT.zq tk2 ?_
   refine AtT.kcallV rfl rfl rfl hok (hc e14 (List.mem_of_getElem? he14)) ?_
   rintro _ rfl
   refine AtT.done ?_
   refine At.nrm ?_
   have hee:l[k]? = some e14:=by simpa using he14
   have hnx:l.take (k+1)=l.take k++[e14]:=by
    rw[List.take_succ_eq_append_getElem (by omega)]; congr 1; rw[List.getElem?_eq_getElem (by omega)]at hee; simpa using hee
   refine At.cond rfl (fun hb=>?_) (fun hb=>?_)
   ·refine At.nrm ?_
    refine At.zh (.q 0 (.q 1 .done)) ?_
    refine AtT.zf ?_
    refine AtT.zg ?_
    refine AtT.done ?_
    refine At.nrm ?_
    refine At.qf rfl (.tmp rfl) ⟨k,rfl,?_⟩
    have:l.any p=true:=List.any_eq_true.2 ⟨e14,List.mem_of_getElem? hee,hb⟩
    rw[this]; simp
   ·refine At.nrm ?_
    refine At.zh (.q 0 (.q 1 .done)) ?_
    first | refine AtT.ql ?_ | refine AtT.zP ?_
    refine AtT.zf ?_
    refine AtT.done ?_
    refine At.nrm ?_
    refine At.round (k+1) ?_ ?_ ?_ ?_
    ·show l.length-(k+1)<l.length-k; omega
    ·refine⟨rfl,by omega,?_⟩
     rw[hnx,List.any_append,hany]; simp[hb]
    ·exact⟨rfl,rfl,rfl,rfl,rfl,trivial⟩
    ·exact Pt.zC
  ·have hkk:k=l.length:=by omega
   subst hkk
   rw[List.take_length]at hany
   refine At.nrm ?_
   refine At.zh (.q 0 .done) ?_
   refine AtT.zg ?_
   refine AtT.done ?_
   refine At.nrm ?_
   refine At.qf rfl (.tmp rfl) ⟨-1,rfl,?_⟩
   rw[hany]; rfl
theorem tcontains_i (g:FuncId) (cap:List Value) (p:Int→Bool) (V:View) (vl:Value) (l:List Int) (hs:SlI V vl l) (hok:zy Tryz.prog g)
  (hc:∀ x,x∈l→Fnc Tryz.prog g ([]++[iv x]++cap) V (fun v _=>v=.bool (p x))) :
  Fnc Tryz.prog 55 [vl,.func (.func g) #[] cap.toArray] V fun v _=>v=.bool (l.any p):=by
 refine qa Tryz.func55 rfl Tryz.ntmps55 (Nat.le_of_ble_eq_true rfl) ?_
 intro w0 hw0
 refine At.nrm ?_
 refine At.zh (.q 0 .done) ?_
 refine AtT.zg ?_
 refine AtT.done ?_
 refine At.nrm ?_
 refine At.zh (.q 0 (.q 1 (.n false 2 (.q 3 (.q 4 .done))))) ?_
 refine AtT.zf ?_
 refine AtT.zf ?_
 refine AtT.zR rfl rfl ok104 (tindex_i g cap p V vl l hs hok hc) ?_
 rintro _ ⟨j,rfl,hj⟩
 refine AtT.kgeq ?_
 refine AtT.zg ?_
 refine AtT.done ?_
 refine At.nrm ?_
 refine At.qf rfl (.tmp rfl) ?_
 rw[hj]
theorem cwithin1_f (lo hi y:Int) (V:View) (q1 q2:Addr) (h1:Cells V q1 [iv lo]) (h2:Cells V q2 [iv hi]):Fnc Tryz.prog 260 ([]++[iv y]++[.pointer (some q1),.pointer (some q2)]) V fun r _=>r=.bool (decide (y<lo∨hi<y)):=by
 refine qa Tryz.func260 rfl Tryz.ntmps260 (Nat.le_of_ble_eq_true rfl) ?_
 intro w0 hw0
 refine At.nrm ?_
 refine At.zh (.q 0 .done) ?_
 refine AtT.zg ?_
 refine AtT.done ?_
 refine At.nrm ?_
 by_cases h:y<lo
 ·refine At.zh (.q 0 (.q 1 (.q 2 (.q 3 (.q 4 (.q 5 (.q 6 (.q 7 (.q 8 .done))))))))) ?_
  refine AtT.zf ?_
  first | refine AtT.zn tk2 ?_ | refine AtT.zq tk2 ?_
  refine AtT.qd ?_
  refine AtT.kR (d:=7) rfl (h) ?_
  refine AtT.zf ?_
  all_goals (first | refine AtT.kL 8 ?_ | refine AtT.zF (d:=8) rfl (fun hg8=>?_) (fun hg8=>?_) | refine AtT.zD (d:=8) rfl (fun hg8=>?_) (fun hg8=>?_))
  all_goals first|refine AtT.zi ?_|refine AtT.ze ?_|(refine AtT.zf ?_)
  all_goals first|refine AtT.zi ?_|refine AtT.ze ?_|(first | refine AtT.zn tk2 ?_ | refine AtT.zq tk2 ?_)
  all_goals first|refine AtT.zi ?_|refine AtT.ze ?_|(refine AtT.qA ?_)
  all_goals (refine AtT.zH ?_)
  all_goals (refine AtT.zg ?_)
  all_goals refine AtT.done ?_
  all_goals (refine At.nrm ?_)
  all_goals (exact At.qf rfl (.tmp rfl) (by rw[decide_eq_true (Or.inl h)]; rfl))
 ·refine At.zh (.q 0 (.q 1 (.q 2 (.q 3 (.q 4 (.q 5 (.q 6 (.q 7 (.q 8 .done))))))))) ?_
  refine AtT.zf ?_
  first | refine AtT.zn tk2 ?_ | refine AtT.zq tk2 ?_
  refine AtT.qd ?_
  refine AtT.qx (d:=7) rfl (h) ?_
  refine AtT.zf ?_
  all_goals (first | refine AtT.kL 8 ?_ | refine AtT.zF (d:=8) rfl (fun hg8=>?_) (fun hg8=>?_) | refine AtT.zD (d:=8) rfl (fun hg8=>?_) (fun hg8=>?_))
  all_goals first|refine AtT.zi ?_|refine AtT.ze ?_|(refine AtT.zf ?_)
  all_goals first|refine AtT.zi ?_|refine AtT.ze ?_|(first | refine AtT.zn tk2 ?_ | refine AtT.zq tk2 ?_)
  all_goals first|refine AtT.zi ?_|refine AtT.ze ?_|(refine AtT.qA ?_)
  all_goals (refine AtT.zH ?_)
  all_goals (refine AtT.zg ?_)
  all_goals refine AtT.done ?_
  all_goals (refine At.nrm ?_)
  all_goals (exact At.qf rfl (.tmp rfl) (congrArg Value.bool (decide_eq_decide.2 ⟨fun h'=>.inr h',fun h'=>h'.resolve_left h⟩)))
theorem cwithin_f (lo hi x:Int) (V:View) (v:Value) (hs:SlI V v [x]):Fnc Tryz.prog 176 [iv lo,iv hi,v] V fun r _=>r=.bool (decide (lo≤x∧x≤hi)):=by
 refine qa Tryz.func176 rfl Tryz.ntmps176 (Nat.le_of_ble_eq_true rfl) ?_
 intro w0 hw0
 refine At.nrm ?_
 refine At.zh (.n false 0 (.n false 1 (.q 2 .done))) ?_
 refine AtT.jA ?_
 intro b3
 refine AtT.jA ?_
 intro b4
 refine AtT.zg ?_
 refine AtT.done ?_
 refine At.nrm ?_
 refine At.zh (.q 0 (.q 1 (.n false 2 (.q 3 (.q 4 .done))))) ?_
 refine AtT.zf ?_
 refine AtT.kfn ?_
 refine AtT.kcallL rfl rfl ok55 (fun VL hVL hOL=>tcontains_i 260 [.pointer (some ⟨b3,0,none⟩),.pointer (some ⟨b4,0,none⟩)] (fun y=>decide (y<lo∨hi<y)) VL _ [x] (hs.le hVL) ok260 (fun y hy=>cwithin1_f lo hi y VL _ _ (qp (hOL b3 _ (List.mem_cons_of_mem _ (List.mem_cons_self ..)))) (qp (hOL b4 _ (List.mem_cons_self ..))))) ?_
 rintro _ rfl
 refine AtT.knot ?_
 refine AtT.zg ?_
 refine AtT.done ?_
 refine At.nrm ?_
 refine At.qf rfl (.tmp rfl) ?_
 simp only[List.any_cons,List.any_nil,Bool.or_false]
 congr 1
 rw[←decide_not]
 exact decide_eq_decide.2 (by omega)
theorem place_f (x:Int) (n c:Nat) (a:Option Addr) (b:Nat) (hx:0≤x∧x≤1000) (hn:n≤1000) (V:View) (h0:Cells V ⟨b,0,none⟩ [.slice a n c]):Fnc Tryz.prog 266 [.pointer (some ⟨b,0,none⟩),iv x] V fun r _=>r=iv (x-(n:Int) / 2):=by
 have hd:((n:Int)).tdiv 2=(n:Int) / 2:=Int.tdiv_eq_ediv_of_nonneg (by omega)
 refine qa Tryz.func266 rfl Tryz.ntmps266 (Nat.le_of_ble_eq_true rfl) ?_
 intro w0 hw0
 refine At.nrm ?_
 refine At.zh (.q 0 .done) ?_
 refine AtT.zg ?_
 refine AtT.done ?_
 refine At.nrm ?_
 refine At.zh (.q 0 (.q 1 (.q 2 (.q 3 (.q 4 (.q 5 (.q 6 (.q 7 (.q 8 (.q 9 .done)))))))))) ?_
 refine AtT.zf ?_
 refine AtT.zf ?_
 refine AtT.qZ ?_
 first | refine AtT.zk qM ?_ | with_reducible refine AtT.zm qM ?_ | refine AtT.zo qM ?_
 first | refine AtT.zk xz ?_ | with_reducible refine AtT.zm xz ?_ | refine AtT.zo xz ?_
 first | refine AtT.zn tk146 ?_ | refine AtT.zq tk146 ?_
 first | refine AtT.zW Tryz.underlying146 ?_ | refine AtT.zX Tryz.underlying146 ?_
 refine AtT.kquo ?_
 first | refine AtT.jD ?_ | refine AtT.jE ?_
 refine AtT.zg ?_
 refine AtT.done ?_
 refine At.nrm ?_
 refine At.qf rfl (.tmp rfl) ?_
 rw[←hd]
end Go.Proofs.YtmdcedioddchfaaGreatDoor
end
section
set_option linter.unusedVariables false
namespace Go.Lw
open Go.RowKit
section
variable {cx:Cx} {n:Nat} {ks:List (Nat×Value)} {O R:List Own} {V:View} {w:World} {K:Act→World→Prop}
def Lent (V V2:View) (ao:Option Addr) (co:Nat) (e:TypeId) (s m:Nat) (xs:List Value):Prop:=
 (ao=none∧m=0∧co=0∧xs=[])∨∃ b rest,ao=some ⟨b,0,none⟩∧m≤co∧co≤maxLen∧(xs++rest).length=co*s∧xs.length=m*s∧V b=none∧V2 b=some (LC (xs++rest) e)
theorem At.giveM {b:Nat} {o:Obj} (hp:zM (.blk b o) O R) (h:∀ V',Le V V'→V' b=some o→V b=none→At cx n ks R V' K):At cx n ks O V K:=fun a w hk hm=>by
 have hm1:=hm.pick hp
 have h0:V b=none:=by
  obtain⟨fp,⟨f,g,rfl,⟨rfl,hB,hb⟩,hl⟩,h2,h3⟩:=hm1.own
  exact h3 b (by simp)
 obtain⟨V',h1,h2,h3⟩:=hm1.give
 exact h V' h1 h2 h0 a w hk h3
theorem Lent.sl {α:Type} {enc:α→List Value} {V1 V2:View} {ao:Option Addr} {co:Nat} {e:TypeId} {s:Nat} {l:List α} (he:∀ x,(enc x).length=s) (h:Lent V1 V2 ao co e s l.length (flat enc l)):Sl V2 enc s (.slice ao l.length co) l:=by
 rcases h with ⟨rfl,h1,rfl,h2⟩ | ⟨b,rest,rfl,h1,h2,h3,h4,h5,h6⟩
 ·obtain rfl:l=[]:=List.eq_nil_of_length_eq_zero h1
  exact Sl.nil _ _ _
 ·exact Sl.of_cells he (cells_pre h6) h1 h2
end
end Go.Lw
end
section
set_option linter.unusedVariables false
namespace Go.Proofs.YtmdcedioddchfaaGreatDoor
open Go.Lw Go.Cu Go.RowKit
theorem key355:KeyL Tryz.prog 295 smv where
 eq a b w:=by
  have:=(eqS295 a.p a.m b.p b.m).2 w
  have e:decide (a=b)=decide (a.p=b.p∧a.m=b.m):=by
   cases a; cases b; simp
  rw[e]; exact this
 ck e a w:=by
  have u3:=Tryz.underlying2
  have a3:=Tryz.isAgg2
  have z3:=Tryz.sizeOf2
  have ci:∀ (x:Int) (w:World),(Instr.checkKey e 9999 2 (.int .i64 x)).run Tryz.prog w=.ok () w:=fun x w=>by
   rw[show(9999:Nat)=9998+1 from rfl,Instr.checkKey]
   simp[run_underlying u3,Sem.run_bind,Result.andThen_ok,Sem.run_pure]
  rw[show(10000:Nat)=9999+1 from rfl,Instr.checkKey]
  simp only[Sem.run_bind,run_underlying Tryz.underlying295,Result.andThen_ok]
  rw[←Array.forIn_toList]
  simp only[List.forIn_cons,List.forIn_nil,Sem.run_bind,Sem.run_pure,Result.andThen_ok]
  generalize (9999:Nat)=q at ci⊢
  go_simp
 sb a:=by simp[Instr.sameBits]
 now:=⟨_,Tryz.underlying295,.inl fun a b=>rfl⟩
set_option maxHeartbeats 1600000 in
theorem sheets_f (x lo hi:Int) (S:List Sm) (a:Option Addr) (c:Nat) (b:Nat) (hx : -100≤x∧x≤100) (hlo:0≤lo∧lo≤50) (hhi:0≤hi∧hi≤50) (hS:∀ s∈S,good s) (hn:1≤S.length∧S.length≤7) (V:View)
  (h0:Cells V ⟨b,0,none⟩ [.slice a S.length c]) (h1:Cells V ⟨b,1,none⟩ [iv lo]) (h2:Cells V ⟨b,2,none⟩ [iv hi]) (hs:Sl V sme 2 (.slice a S.length c) S) :
  Fnc Tryz.prog 268 [.pointer (some ⟨b,0,none⟩),iv x] V fun r V'=>∃ m,r=.map (some m)∧V m=none∧V' m=some (jC smv smv (shM x lo hi (mostS ((S.length:Int)-1-(S.length:Int) / 2) lo S)) (MS x lo hi (endK x)).2):=by
 refine qa Tryz.func268 rfl Tryz.ntmps268 (Nat.le_of_ble_eq_true rfl) ?_
 intro w0 hw0
 refine At.nrm ?_
 refine At.zh (.q 0 .done) ?_
 refine AtT.zg ?_
 refine AtT.done ?_
 refine At.nrm ?_
 refine At.nrm ?_
 refine At.zh (.n false 0 (.q 1 .done)) ?_
 refine AtT.makeMap rfl trivial smv smv (by decide) ?_
 intro b15
 refine AtT.zg ?_
 refine AtT.done ?_
 refine At.nrm ?_
 refine At.zh (.q 0 .done) ?_
 refine AtT.zg ?_
 refine AtT.done ?_
 refine At.nrmB ?_
 refine At.cutG (ι:=Unit) (fun _=>[(0,.pointer (some ⟨b,0,none⟩)),(1,iv x),(5,.map (some b15))]) (fun _=>[.blk b15 (jC smv smv (MS x lo hi (endK x)).1 (MS x lo hi (endK x)).2)]) (fun _ V'=>V=V') ?_ ?_
 ·refine At.nrm ?_
  refine At.lp (ι:=Nat) (KS:=fun j=>[(0,.pointer (some ⟨b,0,none⟩)),(1,iv x),(5,.map (some b15)),(6,iv ((j:Int)-10))]) (OS:=fun j=>[.blk b15 (jC smv smv (MS x lo hi (101*j)).1 (MS x lo hi (101*j)).2)])
   (VS:=fun j V'=>V=V'∧j≤21∧(j=0∨x≠0)) (μ:=fun j=>21-j) 0 ?_ ?_ ?_ ?_
  ·exact⟨rfl,rfl,rfl,rfl,trivial⟩
  ·exact Pt.zC
  ·exact⟨rfl,by decide,.inl rfl⟩
  rintro j V' ks' O' ⟨rfl,hj,hjx⟩ hk hO hl
  subst hk hO
  refine At.nrm ?_
  refine At.zh (.q 0 (.q 1 .done)) ?_
  refine AtT.zf ?_
  refine AtT.kleq ?_
  refine AtT.done ?_
  refine At.nrm ?_
  refine At.qb rfl (fun hp=>?_) (fun hp=>?_)
  ·refine At.nrm ?_
   refine At.zh (.q 0 .done) ?_
   refine AtT.zg ?_
   refine AtT.done ?_
   refine At.nrm ?_
   refine At.lp (ι:=Nat) (KS:=fun i=>[(0,.pointer (some ⟨b,0,none⟩)),(1,iv x),(5,.map (some b15)),(6,iv ((j:Int)-10)),(7,iv i)]) (OS:=fun i=>[.blk b15 (jC smv smv (MS x lo hi (101*j+i)).1 (MS x lo hi (101*j+i)).2)])
    (VS:=fun i V''=>V=V''∧i≤101∧((i=0∧j=0)∨x≠0)) (μ:=fun i=>101-i) 0 ?_ ?_ ?_ ?_
   ·exact⟨rfl,rfl,rfl,rfl,rfl,trivial⟩
   ·exact Pt.zC
   ·exact⟨rfl,by decide,by omega⟩
   rintro i V'' ks' O' ⟨rfl,hi1,hix⟩ hk hO hl2
   subst hk hO
   refine At.nrm ?_
   refine At.zh (.q 0 (.q 1 .done)) ?_
   refine AtT.zf ?_
   refine AtT.kleq ?_
   refine AtT.done ?_
   refine At.nrm ?_
   refine At.qb rfl (fun hp2=>?_) (fun hp2=>?_)
   ·have f1:=mul_bd (a:=x) (b:=(i:Int)) (A:=100) (B:=100) (by omega) (by omega) (by omega) (by omega)
    have f2:=mul_bd (a:=x) (b:=(j:Int)-10) (A:=100) (B:=10) (by omega) (by omega) (by omega) (by omega)
    have f3:=mul_bd (a:=(j:Int)-10) (b:=lo) (A:=10) (B:=50) (by omega) (by omega) (by omega) (by omega)
    have f4:=mul_bd (a:=x) (b:=(i:Int)+((j:Int)-10)*lo) (A:=100) (B:=600) (by omega) (by omega) (by omega) (by omega)
    have ek:kV x lo hi (kP (101*j+i)) (kM (101*j+i))=kV x lo hi i ((j:Int)-10):=by
     unfold kP kM
     rw[show(101*j+i) % 101=i by omega,show(101*j+i) / 101=j by omega]
    have ep:kP (101*j+i)=i:=by unfold kP; rw[show(101*j+i) % 101=i by omega]
    have em:kM (101*j+i)=(j:Int)-10:=by unfold kM; rw[show(101*j+i) / 101=j by omega]
    refine At.nrm ?_
    refine At.zh (.q 0 (.q 1 (.q 2 (.q 3 (.q 4 (.q 5 (.q 6 (.n false 7 (.n true 8 .done))))))))) ?_
    refine AtT.zf ?_
    refine AtT.zf ?_
    first | refine AtT.kmul ?_ | refine AtT.kmulW ?_
    refine AtT.zf ?_
    refine AtT.zf ?_
    first | refine AtT.kmul ?_ | refine AtT.kmulW ?_
    refine AtT.kbuild (bd295_0_1 _ _) ?_
    refine AtT.qE z295 ?_
    intro b8
    refine AtT.zU tk295 ?_
    refine AtT.done ?_
    refine At.nrm ?_
    refine At.draw (.q 0 (.q 1 (.q 2 (.q 3 (.q 4 (.q 5 (.q 6 (.q 7 (.q 8 (.q 9 (.q 10 (.q 11 (.q 12 .done))))))))))))) ffm (by kernel_rfl) ?_
    refine AtT.zf ?_
    refine AtT.qZ ?_
    first | refine AtT.zk qM ?_ | with_reducible refine AtT.zm qM ?_ | refine AtT.zo qM ?_
    first | refine AtT.zk jN ?_ | with_reducible refine AtT.zm jN ?_ | refine AtT.zo jN ?_
    first | refine AtT.zk jO ?_ | with_reducible refine AtT.zm jO ?_ | refine AtT.zo jO ?_
    first | refine AtT.zn tk2 ?_ | refine AtT.zq tk2 ?_
    refine AtT.zf ?_
    refine AtT.qZ ?_
    first | refine AtT.zk qM ?_ | with_reducible refine AtT.zm qM ?_ | refine AtT.zo qM ?_
    first | refine AtT.zk jN ?_ | with_reducible refine AtT.zm jN ?_ | refine AtT.zo jN ?_
    first | refine AtT.zk fo148_1 ?_ | with_reducible refine AtT.zm fo148_1 ?_ | refine AtT.zo fo148_1 ?_
    first | refine AtT.zn tk2 ?_ | refine AtT.zq tk2 ?_
    refine AtT.keqI ?_
    refine AtT.done ?_
    refine At.nrmB ?_
    refine At.cutG (ι:=Unit) (fun _=>[(0,.pointer (some ⟨b,0,none⟩)),(1,iv x),(5,.map (some b15)),(6,iv ((j:Int)-10)),(7,iv i),(8,.pointer (some ⟨b8,0,none⟩))])
     (fun _=>[.blk b15 (jC smv smv (MS x lo hi (101*j+i)).1 (MS x lo hi (101*j+i)).2),.blk b8 (LC (sme (kV x lo hi i ((j:Int)-10))) 295)]) (fun _ V2=>V=V2) ?_ ?_
    ·refine At.qb rfl (fun hp3=>?_) (fun hp3=>?_)
     ·have e1:kV x lo hi i ((j:Int)-10)=⟨x*(i+((j:Int)-10)*lo),0⟩:=by unfold kV; rw[if_pos hp3]
      rw[e1]
      refine At.nrm ?_
      refine At.zh (.q 0 (.q 1 (.q 2 (.q 3 (.q 4 (.q 5 (.q 6 (.q 7 (.q 8 (.q 9 (.q 10 (.q 11 (.q 12 (.n true 13 .done)))))))))))))) ?_
      refine AtT.zf ?_
      refine AtT.zf ?_
      refine AtT.zf ?_
      refine AtT.zf ?_
      refine AtT.qZ ?_
      first | refine AtT.zk qM ?_ | with_reducible refine AtT.zm qM ?_ | refine AtT.zo qM ?_
      first | refine AtT.zk jN ?_ | with_reducible refine AtT.zm jN ?_ | refine AtT.zo jN ?_
      first | refine AtT.zk jO ?_ | with_reducible refine AtT.zm jO ?_ | refine AtT.zo jO ?_
      first | refine AtT.zn tk2 ?_ | refine AtT.zq tk2 ?_
      first | refine AtT.kmul ?_ | refine AtT.kmulW ?_
      first | refine AtT.ql ?_ | refine AtT.zP ?_
      first | refine AtT.kmul ?_ | refine AtT.kmulW ?_
      refine AtT.kbuild (bd295_0_1 _ _) ?_
      refine AtT.zU tk295 ?_
      refine AtT.done ?_
      refine At.nrm ?_
      refine At.meetG () rfl ⟨rfl,rfl,rfl,rfl,rfl,rfl,trivial⟩ ?_
      ·exact Pt.zC
     ·have e1:kV x lo hi i ((j:Int)-10)=⟨x*i,x*((j:Int)-10)⟩:=by unfold kV; rw[if_neg hp3]
      rw[e1]
      refine At.nrm ?_
      refine At.meetG () rfl ⟨rfl,rfl,rfl,rfl,rfl,rfl,trivial⟩ ?_
      ·exact Pt.zC
    rintro _ _ ks' O' rfl hk hO hl3
    subst hk hO
    refine At.nrm ?_
    refine At.zh (.q 0 (.q 1 (.q 2 (.q 3 (.q 4 (.n true 5 .done)))))) ?_
    refine AtT.zf ?_
    first | refine AtT.zL tk295 ?_ | refine AtT.zS tk295 ?_ | refine AtT.zK tk295 ?_
    refine AtT.zf ?_
    refine AtT.zf ?_
    refine AtT.kbuild (bd161_0_1 _ _) ?_
    refine AtT.mapSet rfl trivial key355 (kV x lo hi i ((j:Int)-10)) (⟨(i:Int),(j:Int)-10⟩:Sm) Tryz.underlying301 rfl rfl rfl (by repeat first|exact Upd.here|apply Upd.there) ?_
    refine AtT.done ?_
    refine At.nrm ?_
    refine At.nrm ?_
    refine At.zh (.q 0 (.q 1 .done)) ?_
    refine AtT.zf ?_
    refine AtT.keqI ?_
    refine AtT.done ?_
    refine At.nrm ?_
    have eM:MS x lo hi (101*j+i+1)=mput (kV x lo hi i ((j:Int)-10)) (⟨(i:Int),(j:Int)-10⟩:Sm) (MS x lo hi (101*j+i)).1 (MS x lo hi (101*j+i)).2:=by
     show mput (kV x lo hi (kP (101*j+i)) (kM (101*j+i))) (⟨kP (101*j+i),kM (101*j+i)⟩:Sm) _ _=_
     rw[ek,ep,em]
    rw[←eM]
    refine At.qb rfl (fun hp3=>?_) (fun hp3=>?_)
    ·have he:endK x=101*j+i+1:=by unfold endK; rw[if_pos hp3]; omega
     refine At.nrm ?_
     refine At.meetG () rfl ⟨rfl,rfl,rfl,trivial⟩ ?_
     rw[he]
     ·exact Pt.zC
    ·refine At.nrm ?_
     refine At.zh (.q 0 (.q 1 (.q 2 .done))) ?_
     refine AtT.zf ?_
     first | refine AtT.ql ?_ | refine AtT.zP ?_
     refine AtT.zg ?_
     refine AtT.done ?_
     refine At.nrm ?_
     refine At.round (i+1) ?_ ?_ ?_ ?_
     ·show 101-(i+1)<101-i; omega
     ·exact⟨rfl,by omega,.inr hp3⟩
     ·exact⟨rfl,rfl,rfl,rfl,by congr 2,trivial⟩
     ·exact Pt.zC
   ·obtain rfl:i=101:=by omega
    have hx0:x≠0:=by omega
    refine At.nrm ?_
    refine At.zh (.q 0 (.q 1 (.q 2 .done))) ?_
    refine AtT.zf ?_
    first | refine AtT.ql ?_ | refine AtT.zP ?_
    refine AtT.zg ?_
    refine AtT.done ?_
    refine At.nrm ?_
    refine At.round (j+1) ?_ ?_ ?_ ?_
    ·show 21-(j+1)<21-j; omega
    ·exact⟨rfl,by omega,.inr hx0⟩
    ·exact⟨rfl,rfl,rfl,ivs (by omega),trivial⟩
    rw[show 101*(j+1)=101*j+101 by omega]
    ·exact Pt.zC
  ·obtain rfl:j=21:=by omega
   have hx0:x≠0:=by omega
   have he:endK x=101*21:=by unfold endK; rw[if_neg hx0]
   refine At.nrm ?_
   refine At.meetG () rfl ⟨rfl,rfl,rfl,trivial⟩ ?_
   rw[he]
   ·exact Pt.zC
 obtain⟨far,hfar⟩:∃ far,far=(S.length:Int)-1-(S.length:Int) / 2:=⟨_,rfl⟩
 have hfb:0≤far∧far≤3:=by omega
 have hmx:∀ s∈S, -600≤atS lo s∧atS lo s≤600∧-500≤s.m*lo∧s.m*lo≤500∧0≤mxS lo s∧mxS lo s≤600∧0≤far*mxS lo s∧far*mxS lo s≤1800:=fun s hs=>by
  obtain⟨q1,q2,q3,q4⟩:=hS s hs
  have f1:=mul_bd (a:=s.m) (b:=lo) (A:=10) (B:=50) (by omega) (by omega) (by omega) (by omega)
  have f2 : -600≤atS lo s∧atS lo s≤600:=by unfold atS; omega
  have f3:0≤mxS lo s∧mxS lo s≤600:=by unfold mxS; omega
  have f4:=mul_bd (a:=far) (b:=mxS lo s) (A:=3) (B:=600) (by omega) (by omega) (by omega) (by omega)
  have f5:=Int.mul_nonneg hfb.1 f3.1
  omega
 have hmb:∀ k,k≤S.length→0≤mostA far lo S k∧mostA far lo S k≤1800*k:=fun k=>by
  induction k with
  | zero=>intro _; simp[mostA,mostS]
  | succ k ih=>
   intro hk
   have:=ih (by omega)
   have hk':k<S.length:=by omega
   have:=hmx S[k] (List.getElem_mem hk')
   unfold mostA at *
   rw[List.take_succ_eq_append_getElem hk',mostS_app]
   omega
 rw[←hfar]
 rintro _ V3 ks' O' rfl hk hO hl
 subst hk hO
 refine At.nrm ?_
 refine At.zh (.q 0 (.q 1 (.q 2 (.q 3 (.q 4 (.q 5 (.q 6 (.q 7 (.n false 8 (.q 9 .done)))))))))) ?_
 refine AtT.zf ?_
 refine AtT.zf ?_
 refine AtT.qZ ?_
 first | refine AtT.zk qM ?_ | with_reducible refine AtT.zm qM ?_ | refine AtT.zo qM ?_
 first | refine AtT.zk xz ?_ | with_reducible refine AtT.zm xz ?_ | refine AtT.zo xz ?_
 first | refine AtT.zn tk146 ?_ | refine AtT.zq tk146 ?_
 first | refine AtT.zW Tryz.underlying146 ?_ | refine AtT.zX Tryz.underlying146 ?_
 first | refine AtT.jD ?_ | refine AtT.jE ?_
 refine AtT.zR rfl rfl ok266 (place_f ((S.length:Int)-1) S.length c a b (by omega) (by omega) _ h0) ?_
 rintro _ rfl; rw[←hfar]
 refine AtT.zg ?_
 refine AtT.done ?_
 refine At.nrm ?_
 refine At.zh (.q 0 .done) ?_
 refine AtT.zg ?_
 refine AtT.done ?_
 refine At.nrm ?_
 refine At.zh (.q 0 (.q 1 (.q 2 (.q 3 (.q 4 (.q 5 (.q 6 .done))))))) ?_
 refine AtT.zf ?_
 refine AtT.qZ ?_
 first | refine AtT.zk qM ?_ | with_reducible refine AtT.zm qM ?_ | refine AtT.zo qM ?_
 first | refine AtT.zk xz ?_ | with_reducible refine AtT.zm xz ?_ | refine AtT.zo xz ?_
 first | refine AtT.zn tk146 ?_ | refine AtT.zq tk146 ?_
 first | refine AtT.zW Tryz.underlying146 ?_ | refine AtT.zX Tryz.underlying146 ?_
 refine AtT.zf ?_
 refine AtT.done ?_
 refine At.nrmB ?_
 refine At.cutG (ι:=Unit) (fun _=>[(0,.pointer (some ⟨b,0,none⟩)),(5,.map (some b15)),(10,iv (mostS far lo S))]) (fun _=>[.blk b15 (jC smv smv (MS x lo hi (endK x)).1 (MS x lo hi (endK x)).2)]) (fun _ V2=>V=V2) ?_ ?_
 ·have e0:mostA far lo S 0=0:=rfl
  refine At.nrm ?_
  refine At.lp (ι:=Nat) (KS:=fun k=>[(0,.pointer (some ⟨b,0,none⟩)),(5,.map (some b15)),(9,iv far),(10,iv (mostA far lo S k)),(77,.slice a S.length c),(78,iv S.length),(79,iv k)]) (OS:=fun _=>[.blk b15 (jC smv smv (MS x lo hi (endK x)).1 (MS x lo hi (endK x)).2)])
   (VS:=fun k V'=>V=V'∧k≤S.length) (μ:=fun k=>S.length-k) 0 ?_ ?_ ?_ ?_
  ·exact⟨rfl,rfl,rfl,rfl,rfl,rfl,rfl,trivial⟩
  ·exact Pt.zC
  ·exact⟨rfl,Nat.zero_le _⟩
  rintro k V' ks' O' ⟨rfl,hk1⟩ hk hO hl3
  subst hk hO
  refine At.nrm ?_
  refine At.zh (.q 0 .done) ?_
  refine AtT.qd ?_
  refine AtT.done ?_
  refine At.nrm ?_
  refine At.qb rfl (fun hp=>?_) (fun hp=>?_)
  ·have hkl:k<S.length:=by omega
   have hb1:=hmb k hk1
   have hb2:=hmb (k+1) hkl
   refine At.nrm ?_
   refine At.zh (.q 0 (.q 1 (.n false 2 (.n true 3 .done)))) ?_
   refine AtT.qj Tryz.underlying146 tk161 ?_
   intro p81 e81 he81 hc81
   first | refine AtT.zL tk161 ?_ | refine AtT.zS tk161 ?_ | refine AtT.zK tk161 ?_
   refine AtT.qE z161 ?_
   intro b12
   refine AtT.zU tk161 ?_
   refine AtT.done ?_
   refine At.nrm ?_
   have hee:S[k]? = some e81:=by simpa using he81
   have hm:=hmx e81 (List.mem_of_getElem? hee)
   have hg:=hS e81 (List.mem_of_getElem? hee)
   unfold good at hg
   unfold atS at hm
   have hSk:S[k]=e81:=by rw[List.getElem?_eq_getElem hkl]at hee; simpa using hee
   have eA:mostA far lo S (k+1)=mostA far lo S k+far*mxS lo e81:=by unfold mostA; rw[List.take_succ_eq_append_getElem hkl,mostS_app,hSk]
   have eX:mxS lo e81=max (max e81.p (e81.p+e81.m*lo)) (-(e81.p+e81.m*lo)):=rfl
   rw[eX]at hm eA
   refine At.draw (.q 0 (.q 1 (.q 2 (.q 3 (.q 4 (.q 5 (.q 6 (.q 7 (.q 8 (.q 9 (.q 10 (.q 11 (.q 12 .done))))))))))))) ffm (by kernel_rfl) ?_
   first | refine AtT.zk fo161_0 ?_ | with_reducible refine AtT.zm fo161_0 ?_ | refine AtT.zo fo161_0 ?_
   first | refine AtT.zn tk2 ?_ | refine AtT.zq tk2 ?_
   first | refine AtT.zk fo161_1 ?_ | with_reducible refine AtT.zm fo161_1 ?_ | refine AtT.zo fo161_1 ?_
   first | refine AtT.zn tk2 ?_ | refine AtT.zq tk2 ?_
   refine AtT.zf ?_
   refine AtT.qZ ?_
   first | refine AtT.zk qM ?_ | with_reducible refine AtT.zm qM ?_ | refine AtT.zo qM ?_
   first | refine AtT.zk jN ?_ | with_reducible refine AtT.zm jN ?_ | refine AtT.zo jN ?_
   first | refine AtT.zk jO ?_ | with_reducible refine AtT.zm jO ?_ | refine AtT.zo jO ?_
   first | refine AtT.zn tk2 ?_ | refine AtT.zq tk2 ?_
   first | refine AtT.kmul ?_ | refine AtT.kmulW ?_
   first | refine AtT.ql ?_ | refine AtT.zP ?_
   refine AtT.zg ?_
   refine AtT.done ?_
   refine At.nrm ?_
   refine At.zh (.q 0 (.q 1 (.q 2 (.q 3 (.q 4 (.q 5 (.q 6 (.q 7 (.q 8 (.q 9 (.q 10 .done))))))))))) ?_
   refine AtT.zf ?_
   refine AtT.zf ?_
   first | refine AtT.zk fo161_0 ?_ | with_reducible refine AtT.zm fo161_0 ?_ | refine AtT.zo fo161_0 ?_
   first | refine AtT.zn tk2 ?_ | refine AtT.zq tk2 ?_
   refine AtT.zf ?_
   refine AtT.zf ?_
   first | refine AtT.kneg ?_ | refine AtT.knegW ?_
   refine AtT.max3 rfl trivial rfl rfl rfl (by decide) ?_
   first | refine AtT.kmul ?_ | refine AtT.kmulW ?_
   first | refine AtT.ql ?_ | refine AtT.zP ?_
   refine AtT.zg ?_
   refine AtT.done ?_
   refine At.nrm ?_
   refine At.nrm ?_
   refine At.zh (.q 0 (.q 1 .done)) ?_
   first | refine AtT.ql ?_ | refine AtT.zP ?_
   refine AtT.zf ?_
   refine AtT.done ?_
   refine At.nrm ?_
   refine At.round (k+1) ?_ ?_ ?_ ?_
   ·show S.length-(k+1)<S.length-k; omega
   ·exact⟨rfl,hkl⟩
   ·exact⟨rfl,rfl,rfl,ivs eA.symm,rfl,rfl,by congr 2,trivial⟩
   ·exact Pt.zC
  ·obtain rfl:k=S.length:=by omega
   have eA:mostA far lo S S.length=mostS far lo S:=by unfold mostA; rw[List.take_length]
   refine At.nrm ?_
   refine At.meetG () rfl ⟨rfl,rfl,ivs eA,trivial⟩ ?_
   ·exact Pt.zC
 rintro _ V4 ks' O' rfl hk hO hl
 subst hk hO
 obtain⟨M,hM⟩:∃ M,M=(MS x lo hi (endK x)).1:=⟨_,rfl⟩
 obtain⟨cM,hcM⟩:∃ c,c=(MS x lo hi (endK x)).2:=⟨_,rfl⟩
 obtain⟨q,hq⟩:∃ q,q=mostS far lo S:=⟨_,rfl⟩
 have hok:MOk M cM:=by rw[hM,hcM]; exact MS_ok _ _ _ _
 have hq2:0≤q∧q≤20000:=by
  have:=hmb S.length (Nat.le_refl _)
  unfold mostA at this
  rw[List.take_length,←hq]at this
  omega
 have hsh:shM x lo hi q=M.filter (inS q):=by unfold shM; rw[hM]
 rw[←hM,←hcM,←hq]
 rw[hsh]
 refine At.nrm ?_
 refine At.zh (.q 0 (.n false 1 .done)) ?_
 refine AtT.zf ?_
 refine AtT.range rfl trivial Tryz.underlying301 rfl zM.zC (by decide) ?_
 intro b107
 refine AtT.done ?_
 refine At.nrm ?_
 refine At.lp (ι:=Array Nat) (KS:=fun _=>[(5,.map (some b15)),(10,iv q),(107,.pointer (some ⟨b107,0,none⟩))])
  (OS:=fun seen=>[.blk b107 (.mapIter (some b15) cM seen cM),.blk b15 (jC smv smv (left (inS q) M seen) cM)])
  (VS:=fun _ V'=>Le V V') (μ:=fun seen=>(M.filter fun e=>!seen.contains e.2.2).length) #[] ?_ ?_ ?_ ?_
 ·exact⟨rfl,rfl,rfl,trivial⟩
 ·rw[left_nil]
  ·exact Pt.zC
 ·exact Le.refl _
 rintro seen V5 ks' O' hV5 hk hO hl3
 subst hk hO
 have hsub:∀ e∈left (inS q) M seen,e∈M:=fun e he=>(List.mem_filter.1 he).1
 refine At.nrm ?_
 refine At.zh (.n true 0 (.q 1 .done)) ?_
 all_goals (refine AtT.next rfl trivial rfl zM.zC zM.zC (fun e he=>hok.lt e (hsub e he)) (Nat.le_refl _) (by decide) (fun hall=>?_) (fun e he hns=>?_))
 all_goals (refine AtT.zV ?_)
 all_goals refine AtT.done ?_
 all_goals (refine At.nrm ?_)
 ·refine At.qh rfl rfl ?_
  rw[left_end hall]
  refine At.nrm ?_
  refine At.zh (.q 0 (.q 1 .done)) ?_
  refine AtT.zf ?_
  refine AtT.zg ?_
  refine AtT.done ?_
  refine At.nrm ?_
  refine At.giveM (b:=b15) zM.zC (fun V6 hV6 hb15 hn15=>?_)
  refine At.qf rfl (.tmp rfl) ⟨b15,rfl,?_,hb15⟩
  cases h:V b15 with
  | none=>rfl
  | some o=>rw[hV5 _ _ h]at hn15; cases hn15
 ·refine At.jo rfl rfl ?_
  have heM:=hsub e he
  have hun:=unseen_lt heM hns
  have hnd2:((left (inS q) M seen).map (·.2.2)).Nodup:=hok.borns.sublist (List.filter_sublist.map _)
  refine At.nrm ?_
  refine At.zh (.n false 0 (.q 1 (.n false 2 (.n true 3 .done)))) ?_
  refine AtT.entry rfl trivial rfl zM.zC zM.zC he hnd2 (by decide) ?_
  refine AtT.zV ?_
  refine AtT.qE z295 ?_
  intro b14
  refine AtT.zU tk295 ?_
  refine AtT.done ?_
  refine At.nrm ?_
  refine At.nrm ?_
  refine At.zh (.q 0 (.q 1 (.q 2 (.q 3 (.q 4 (.n false 5 (.n false 6 (.q 7 .done)))))))) ?_
  refine AtT.zf ?_
  first | refine AtT.kneg ?_ | refine AtT.knegW ?_
  refine AtT.zf ?_
  first | refine AtT.zk fo295_0 ?_ | with_reducible refine AtT.zm fo295_0 ?_ | refine AtT.zo fo295_0 ?_
  first | refine AtT.zn tk2 ?_ | refine AtT.zq tk2 ?_
  refine AtT.qz (jZ _) ?_
  intro q117 V117 hV117 hq117
  have g117:Le V V117:=by first | exact hV117 | exact Le.trans (by assumption) hV117
  refine AtT.zR rfl rfl ok176 (cwithin_f (-q) q e.1.p _ _ (Sl.lit hq117 rfl (by simp))) ?_
  rintro _ rfl
  refine AtT.knot ?_
  refine AtT.done ?_
  refine At.nrm ?_
  refine At.cond rfl (fun hm=>?_) (fun hm=>?_)
  ·have hg:inS q e=false:=by have h:(!inS q e)=true:=hm; simpa using h
   have hdel:=left_del (g:=inS q) (seen:=seen) hok.borns hok.keys heM hg
   refine At.nrm ?_
   refine At.zh (.q 0 (.q 1 (.n true 2 .done))) ?_
   refine AtT.zf ?_
   first | refine AtT.zL tk295 ?_ | refine AtT.zS tk295 ?_ | refine AtT.zK tk295 ?_
   refine AtT.mapDel rfl trivial key355 e.1 smv rfl Tryz.underlying301 rfl rfl (by repeat first|exact Upd.here|apply Upd.there) ?_
   refine AtT.done ?_
   refine At.nrm ?_
   refine At.round (seen.push e.2.2) hun (hV5.trans hV117) ⟨rfl,rfl,rfl,trivial⟩ ?_
   rw[hdel]
   ·exact Pt.zC
  ·have hg:inS q e=true:=by have h:(!inS q e)=false:=hm; simpa using h
   have hkeep:=left_keep (g:=inS q) (seen:=seen) hok.borns heM hg
   refine At.nrm ?_
   refine At.round (seen.push e.2.2) hun (hV5.trans hV117) ⟨rfl,rfl,rfl,trivial⟩ ?_
   rw[hkeep]
   ·exact Pt.zC
end Go.Proofs.YtmdcedioddchfaaGreatDoor
end
section
set_option linter.unusedVariables false
set_option linter.unusedSimpArgs false
namespace Go.St
open Go.Lw Go.Cu
abbrev Ent:=Int×List (List Sm)
def gtE:List Ent→Nat→Ent
 | [],_=>(0,[])
 | e::_,0=>e
 | _::T,j+1=>gtE T j
def valW (T:List Ent) (h:Nat) (e:Sm×Int):Int:=(gtE T (h-e.1.p.toNat)).1+e.2
def endW (M:List (Sm×Int)) (h:Nat):List (Sm×Int):=M.filter fun e=>decide (e.1.m=(h:Int))
def mxI (a:Int) (l:List Int):Int:=l.foldl max a
def stepS (M:List (Sm×Int)) (T:List Ent) (h:Nat):Ent:=
 if mxI (gtE T 0).1 ((endW M h).map (valW T h))=(gtE T 0).1 then gtE T 0
 else (mxI (gtE T 0).1 ((endW M h).map (valW T h)),((endW M h).filter fun e=>decide (valW T h e=mxI (gtE T 0).1 ((endW M h).map (valW T h)))).flatMap fun e=>(gtE T (h-e.1.p.toNat)).2.map fun S=>S++[e.1])
def tabR (M:List (Sm×Int)):Nat→List Ent
 | 0=>[(0,[[]])]
 | h+1=>stepS M (tabR M h) h::tabR M h
def entM (M:List (Sm×Int)) (j:Nat):Ent:=gtE (tabR M j) 0
theorem ent_at (M:List (Sm×Int)) {j:Nat} : ∀ {h:Nat},j≤h→gtE (tabR M h) (h-j)=entM M j
 | 0,hj=>by
   obtain rfl:j=0:=by omega
   rfl
 | h+1,hj=>by
  by_cases c:j=h+1
  ·subst c; rw[Nat.sub_self]; rfl
  ·rw[show h+1-j=(h-j)+1 by omega]
   exact ent_at M (by omega)
theorem ent_new (M:List (Sm×Int)) (h:Nat):entM M (h+1)=stepS M (tabR M h) h:=rfl
theorem mxI_ge (a:Int):∀ l:List Int,a≤mxI a l∧(∀ x∈l,x≤mxI a l)∧(mxI a l=a∨mxI a l∈l):=by
 intro l
 induction l generalizing a with
 | nil=>exact⟨Int.le_refl _,fun x hx=>by(cases hx),.inl rfl⟩
 | cons y l ih=>
  obtain⟨h1,h2,h3⟩:=ih (max a y)
  show a≤mxI (max a y) l∧(∀ x∈y::l,x≤mxI (max a y) l)∧(mxI (max a y) l=a∨mxI (max a y) l∈y::l)
  refine⟨by omega,fun x hx=>?_,?_⟩
  ·rcases List.mem_cons.1 hx with rfl | hx
   ·omega
   ·exact h2 x hx
  ·rcases h3 with h3 | h3
   ·rcases(show max a y=a∨max a y=y by omega)with h | h
    ·exact .inl (h3.trans h)
    ·exact .inr (by rw[h3,h]; exact List.mem_cons_self)
   ·exact .inr (List.mem_cons_of_mem _ h3)
structure Ch where
 a:Option Addr
 n:Nat
 c:Nat
 k:Int
abbrev Ch.v (x:Ch):Value:=.slice x.a x.n x.c
def bst (out:Ch):List Ch→Ch
 | []=>out
 | x::l=>bst (if out.k<x.k then x else out) l
theorem bst_app (x:Ch):∀ (l:List Ch) (out:Ch),bst out (l++[x])=if (bst out l).k<x.k then x else bst out l
 | [],out=>rfl
 | y::l,out=>bst_app x l _
theorem bst_spec:∀ (l:List Ch) (out:Ch),out.k≤(bst out l).k∧(∀ x∈l,x.k≤(bst out l).k)∧((bst out l=out)∨(bst out l∈l∧out.k<(bst out l).k))
 | [],out=>⟨Int.le_refl _,fun x hx=>by(cases hx),.inl rfl⟩
 | y::l,out=>by
  simp only[bst]
  by_cases c:out.k<y.k
  ·rw[if_pos c]
   obtain⟨h1,h2,h3⟩:=bst_spec l y
   refine⟨by omega,fun x hx=>?_,.inr ⟨?_,by omega⟩⟩
   ·rcases List.mem_cons.1 hx with rfl | hx
    ·exact h1
    ·exact h2 x hx
   ·rcases h3 with h3 | h3
    ·rw[h3]; exact List.mem_cons_self
    ·exact List.mem_cons_of_mem _ h3.1
  ·rw[if_neg c]
   obtain⟨h1,h2,h3⟩:=bst_spec l out
   refine⟨h1,fun x hx=>?_,?_⟩
   ·rcases List.mem_cons.1 hx with rfl | hx
    ·omega
    ·exact h2 x hx
   ·rcases h3 with h3 | h3
    ·exact .inl h3
    ·exact .inr ⟨List.mem_cons_of_mem _ h3.1,h3.2⟩
theorem step_ok {M:List (Sm×Int)} {h:Nat} {Rw:Value→List Sm→Prop} {c0:Ch} {xs:List Ch} (hM:∀ e∈M,e.1.p≤e.1.m)
  (h0:c0.k=(entM M h).1) (h0S:∃ S∈(entM M h).2,Rw c0.v S)
  (h1:∀ x∈xs,∃ e∈M,e.1.m=(h:Int)∧x.k=(entM M e.1.p.toNat).1+e.2∧∃ S∈(entM M e.1.p.toNat).2,Rw x.v (S++[e.1]))
  (h2:∀ e∈M,e.1.m=(h:Int)→∃ x∈xs,x.k=(entM M e.1.p.toNat).1+e.2):(bst c0 xs).k=(entM M (h+1)).1∧∃ S∈(entM M (h+1)).2,Rw (bst c0 xs).v S:=by
 rw[ent_new]
 have g0:gtE (tabR M h) 0=entM M h:=rfl
 have gp:∀ e∈M,e.1.m=(h:Int)→gtE (tabR M h) (h-e.1.p.toNat)=entM M e.1.p.toNat:=fun e he hm=>ent_at M (by have:=hM e he; omega)
 have ge':∀ e∈endW M h,e∈M∧e.1.m=(h:Int):=fun e he=>by
  obtain⟨k1,k2⟩:=List.mem_filter.1 he
  exact⟨k1,by simpa using k2⟩
 have gv:∀ e∈M,e.1.m=(h:Int)→valW (tabR M h) h e=(entM M e.1.p.toNat).1+e.2:=fun e he hm=>by unfold valW; rw[gp e he hm]
 obtain⟨b1,b2,b3⟩:=bst_spec xs c0
 obtain⟨m1,m2,m3⟩:=mxI_ge (gtE (tabR M h) 0).1 ((endW M h).map (valW (tabR M h) h))
 have le:mxI (gtE (tabR M h) 0).1 ((endW M h).map (valW (tabR M h) h))≤(bst c0 xs).k:=by
  rcases m3 with m3 | m3
  ·rw[m3,g0,←h0]; exact b1
  ·obtain⟨w,hw,e⟩:=List.mem_map.1 m3
   obtain⟨k1,k2⟩:=ge' w hw
   obtain⟨x,hx,ex⟩:=h2 w k1 k2
   rw[←e,gv w k1 k2,←ex]; exact b2 x hx
 have ge:(bst c0 xs).k≤mxI (gtE (tabR M h) 0).1 ((endW M h).map (valW (tabR M h) h)):=by
  rcases b3 with b3 | ⟨b3,_⟩
  ·rw[b3,h0]; exact m1
  ·obtain⟨w,hw,hm,e,_⟩:=h1 _ b3
   rw[e,←gv w hw hm]; exact m2 _ (List.mem_map_of_mem (List.mem_filter.2 ⟨hw,by simpa using hm⟩))
 have eq:(bst c0 xs).k=mxI (gtE (tabR M h) 0).1 ((endW M h).map (valW (tabR M h) h)):=Int.le_antisymm ge le
 unfold stepS
 by_cases c:mxI (gtE (tabR M h) 0).1 ((endW M h).map (valW (tabR M h) h))=(gtE (tabR M h) 0).1
 ·simp only[c,if_true]
  rcases b3 with b3 | ⟨_,b3⟩
  ·rw[b3]; exact⟨h0,h0S⟩
  ·have e:(bst c0 xs).k=(entM M h).1:=eq.trans c
   omega
 ·simp only[c,if_false]
  refine⟨eq,?_⟩
  rcases b3 with b3 | ⟨b3,_⟩
  ·rw[b3,h0]at eq; exact absurd eq.symm c
  ·obtain⟨w,hw,hm,e,S,hS,hr⟩:=h1 _ b3
   refine⟨S++[w.1],List.mem_flatMap.2 ⟨w,List.mem_filter.2 ⟨List.mem_filter.2 ⟨hw,by simpa using hm⟩,by rw[gv w hw hm,←e,eq]; simp⟩,?_⟩,hr⟩
   rw[gp w hw hm]
   exact List.mem_map_of_mem hS
theorem ent_bd {M:List (Sm×Int)} (hM:∀ e∈M,0≤e.1.p∧e.1.p≤e.1.m∧0≤e.2∧e.2≤1000):∀ h j,j≤h→0≤(entM M j).1∧(entM M j).1≤1000*(j:Int):=by
 intro h
 induction h with
 | zero=>
   intro j hj; obtain rfl:j=0:=by omega
   exact⟨Int.le_refl _,Int.le_refl _⟩
 | succ h ih=>
  intro j hj
  by_cases c:j=h+1
  ·subst c
   rw[ent_new]
   have g0:gtE (tabR M h) 0=entM M h:=rfl
   have i0:=ih h (Nat.le_refl _)
   have key:∀ x,(x=(gtE (tabR M h) 0).1∨x∈(endW M h).map (valW (tabR M h) h))→0≤x∧x≤1000*((h+1:Nat):Int):=fun x hx=>by
    rcases hx with rfl | hx
    ·rw[g0]; omega
    ·obtain⟨w,hw,rfl⟩:=List.mem_map.1 hx
     obtain⟨k1,k2⟩:=List.mem_filter.1 hw
     have k3:w.1.m=(h:Int):=by simpa using k2
     obtain⟨q1,q2,q3,q4⟩:=hM w k1
     have:=ih w.1.p.toNat (by omega)
     unfold valW
     rw[ent_at M (j:=w.1.p.toNat) (by omega)]
     omega
   obtain⟨m1,m2,m3⟩:=mxI_ge (gtE (tabR M h) 0).1 ((endW M h).map (valW (tabR M h) h))
   unfold stepS
   split
   ·exact key _ (.inl rfl)
   ·exact key _ m3
  ·exact ih j (by omega)
theorem ent_len {M:List (Sm×Int)} (hM:∀ e∈M,0≤e.1.p∧e.1.p≤e.1.m∧0≤e.2∧e.2≤1000):∀ h j,j≤h→∀ S∈(entM M j).2,S.length≤j:=by
 intro h
 induction h with
 | zero=>
   intro j hj S hS; obtain rfl:j=0:=by omega
   obtain rfl:=List.mem_singleton.1 hS
   exact Nat.le_refl _
 | succ h ih=>
  intro j hj S hS
  by_cases c:j=h+1
  ·subst c
   rw[ent_new]at hS
   unfold stepS at hS
   split at hS
   ·have:=ih h (Nat.le_refl _) S hS
    omega
   ·obtain⟨e,he,hS⟩:=List.mem_flatMap.1 hS
    obtain⟨S',hS',rfl⟩:=List.mem_map.1 hS
    obtain⟨k1,k2⟩:=List.mem_filter.1 (List.mem_filter.1 he).1
    have k3:e.1.m=(h:Int):=by simpa using k2
    obtain⟨q1,q2,q3,q4⟩:=hM e k1
    rw[ent_at M (j:=e.1.p.toNat) (by omega)]at hS'
    have:=ih e.1.p.toNat (by omega) S' hS'
    rw[List.length_append,List.length_singleton]
    omega
  ·exact ih j (by omega) S hS
end Go.St
end
section
set_option linter.unusedVariables false
namespace Go.Proofs.YtmdcedioddchfaaGreatDoor
open Go.Lw Go.Cu Go.St Go.RowKit
abbrev che (c:Ch):List Value:=[.slice c.a c.n c.c,iv c.k]
abbrev chv (c:Ch):Value:=.agg #[.slice c.a c.n c.c,iv c.k]
theorem che_len (c:Ch):(che c).length=2:=rfl
theorem stbetter_f (x y:Ch) (V:View):Fnc Tryz.prog 574 [chv x,chv y] V fun r _=>r=.bool (decide (y.k<x.k)):=by
 refine qa Tryz.func574 rfl Tryz.ntmps574 (Nat.le_of_ble_eq_true rfl) ?_
 intro w0 hw0
 refine At.nrm ?_
 refine At.zh (.n false 0 (.n false 1 (.q 2 .done))) ?_
 refine AtT.jA ?_
 intro b2
 refine AtT.jA ?_
 intro b3
 refine AtT.zg ?_
 refine AtT.done ?_
 refine At.nrm ?_
 refine At.zh (.q 0 (.q 1 (.q 2 (.q 3 (.q 4 (.q 5 .done)))))) ?_
 first | refine AtT.zk fo613_1 ?_ | with_reducible refine AtT.zm fo613_1 ?_ | refine AtT.zo fo613_1 ?_
 first | refine AtT.zn tk2 ?_ | refine AtT.zq tk2 ?_
 first | refine AtT.zk fo613_1 ?_ | with_reducible refine AtT.zm fo613_1 ?_ | refine AtT.zo fo613_1 ?_
 first | refine AtT.zn tk2 ?_ | refine AtT.zq tk2 ?_
 refine AtT.qA ?_
 refine AtT.zg ?_
 refine AtT.done ?_
 refine At.nrm ?_
 exact At.qf rfl (.tmp rfl) rfl
theorem stbest_f (L:List Ch) (c0:Ch) (xs:List Ch) (hL:L=c0::xs) (V:View) (a:Option Addr) (c:Nat) (hs:Sl V che 2 (.slice a L.length c) L):Fnc Tryz.prog 573 [.slice a L.length c,.func (.func 574) #[] #[]] V fun r _=>r=chv (bst c0 xs):=by
 have hl1:L.length=xs.length+1:=by rw[hL]; rfl
 have hlen:=hs.qV
 refine qa Tryz.func573 rfl Tryz.ntmps573 (Nat.le_of_ble_eq_true rfl) ?_
 intro w0 hw0
 refine At.nrm ?_
 refine At.zh (.n false 0 .done) ?_
 refine AtT.qE z613 ?_
 intro b4
 refine AtT.done ?_
 refine At.nrm ?_
 refine At.zh (.q 0 (.q 1 (.q 2 (.n false 3 (.n true 4 .done))))) ?_
 refine AtT.zf ?_
 refine AtT.qj Tryz.underlying611 qQ ?_
 intro p9 e9 he9 hc9
 first | refine AtT.zL qQ ?_ | refine AtT.zS qQ ?_ | refine AtT.zK qQ ?_
 refine AtT.qE z613 ?_
 intro b5
 refine AtT.zU qQ ?_
 refine AtT.done ?_
 refine At.nrm ?_
 have he:e9=c0:=by
  have:L[0]? = some e9:=by simpa using he9
  rw[hL]at this
  simpa using this.symm
 subst he
 refine At.zh (.q 0 (.q 1 (.q 2 (.q 3 .done)))) ?_
 refine AtT.zf ?_
 refine AtT.ktail Tryz.underlying611 qQ ?_
 intro a12 c12 hs12
 first | refine AtT.zW Tryz.underlying611 ?_ | refine AtT.zX Tryz.underlying611 ?_
 refine AtT.zf ?_
 refine AtT.done ?_
 refine At.nrm ?_
 have hd:List.drop (Int.toNat 1) L=xs:=by rw[hL]; rfl
 rw[hd]at hs12
 rw[hd]
 refine At.lp (ι:=Nat) (KS:=fun k=>[(1,.func (.func 574) #[] #[]),(4,.pointer (some ⟨b4,0,none⟩)),(5,.pointer (some ⟨b5,0,none⟩)),(12,.slice a12 xs.length c12),(13,iv xs.length),(14,iv k)])
  (OS:=fun k=>[.blk b5 (LC (che (bst e9 (xs.take k))) 613),.blk b4 (LC [.slice none 0 0,iv 0] 613)]) (VS:=fun k V'=>V=V'∧k≤xs.length) (μ:=fun k=>xs.length-k) 0 ?_ ?_ ?_ ?_
 ·exact⟨rfl,rfl,rfl,rfl,rfl,rfl,trivial⟩
 ·exact Pt.zC
 ·exact⟨rfl,Nat.zero_le _⟩
 rintro k V' ks' O' ⟨rfl,hk1⟩ hk hO hl3
 subst hk hO
 refine At.nrm ?_
 refine At.zh (.q 0 .done) ?_
 refine AtT.qd ?_
 refine AtT.done ?_
 refine At.nrm ?_
 refine At.qb rfl (fun hp=>?_) (fun hp=>?_)
 ·have hkl:k<xs.length:=by omega
  refine At.nrm ?_
  refine At.zh (.q 0 (.q 1 (.n false 2 (.n true 3 .done)))) ?_
  refine AtT.qj Tryz.underlying611 qQ ?_
  intro p16 e16 he16 hc16
  first | refine AtT.zL qQ ?_ | refine AtT.zS qQ ?_ | refine AtT.zK qQ ?_
  refine AtT.qE z613 ?_
  intro b7
  refine AtT.zU qQ ?_
  refine AtT.done ?_
  refine At.nrm ?_
  have hee:xs[k]? = some e16:=by simpa using he16
  have hnx:xs.take (k+1)=xs.take k++[e16]:=by
   rw[List.take_succ_eq_append_getElem hkl]; congr 1; rw[List.getElem?_eq_getElem hkl]at hee; simpa using hee
  refine At.nrm ?_
  refine At.zh (.q 0 (.q 1 (.q 2 (.n false 3 .done)))) ?_
  refine AtT.zf ?_
  first | refine AtT.zL qQ ?_ | refine AtT.zS qQ ?_ | refine AtT.zK qQ ?_
  first | refine AtT.zL qQ ?_ | refine AtT.zS qQ ?_ | refine AtT.zK qQ ?_
  refine AtT.kcallV rfl rfl rfl ok574 (stbetter_f e16 (bst e9 (xs.take k)) _) ?_
  rintro _ rfl
  refine AtT.done ?_
  refine At.nrm ?_
  refine At.qb rfl (fun hb=>?_) (fun hb=>?_)
  ·refine At.nrm ?_
   refine At.zh (.q 0 (.n true 1 .done)) ?_
   first | refine AtT.zL qQ ?_ | refine AtT.zS qQ ?_ | refine AtT.zK qQ ?_
   refine AtT.zU qQ ?_
   refine AtT.done ?_
   refine At.nrm ?_
   refine At.nrm ?_
   refine At.zh (.q 0 (.q 1 .done)) ?_
   first | refine AtT.ql ?_ | refine AtT.zP ?_
   refine AtT.zf ?_
   refine AtT.done ?_
   refine At.nrm ?_
   refine At.round (k+1) ?_ ?_ ?_ ?_
   ·show xs.length-(k+1)<xs.length-k; omega
   ·exact⟨rfl,hkl⟩
   ·exact⟨rfl,rfl,rfl,rfl,rfl,by congr 2,trivial⟩
   rw[hnx,bst_app,if_pos hb]
   ·exact Pt.zC
  ·refine At.nrm ?_
   refine At.zh (.q 0 (.q 1 .done)) ?_
   first | refine AtT.ql ?_ | refine AtT.zP ?_
   refine AtT.zf ?_
   refine AtT.done ?_
   refine At.nrm ?_
   refine At.round (k+1) ?_ ?_ ?_ ?_
   ·show xs.length-(k+1)<xs.length-k; omega
   ·exact⟨rfl,hkl⟩
   ·exact⟨rfl,rfl,rfl,rfl,rfl,by congr 2,trivial⟩
   rw[hnx,bst_app,if_neg hb]
   ·exact Pt.zC
 ·obtain rfl:k=xs.length:=by omega
  rw[List.take_length]
  refine At.nrm ?_
  refine At.zh (.q 0 (.n true 1 .done)) ?_
  first | refine AtT.zL qQ ?_ | refine AtT.zS qQ ?_ | refine AtT.zK qQ ?_
  refine AtT.zU qQ ?_
  refine AtT.done ?_
  refine At.nrm ?_
  exact At.qf rfl (.agg rfl qQ zM.zC rfl) rfl
end Go.Proofs.YtmdcedioddchfaaGreatDoor
end
section
set_option linter.unusedVariables false
namespace Go.Proofs.YtmdcedioddchfaaGreatDoor
open Go.Lw Go.Cu Go.St Go.RowKit
def RwS (V V':View) (v:Value) (S:List Sm):Prop:=(v=.slice none 0 0∧S=[])∨(RwB V V' 148 2 sme v S∧S≠[])
theorem RwS.le {V V' V2:View} {v:Value} {S:List Sm} (h:RwS V V' v S) (hl:Le V' V2):RwS V V2 v S:=h.imp id fun h=>⟨h.1.le hl,h.2⟩
theorem RwS.sl {V V':View} {v:Value} {S:List Sm} (h:RwS V V' v S):Sl V' sme 2 v S:=by
 rcases h with ⟨rfl,rfl⟩ | h
 ·exact Sl.nil _ _ _
 ·exact h.1.sl fun _=>rfl
def UOk (V V':View) (M:List (Sm×Int)) (U:List Ch) (h:Nat):Prop:=∀ j,j≤h→∃ u,U[j]? = some u∧u.k=(entM M j).1∧∃ S∈(entM M j).2,RwS V V' u.v S
def XOk (V V':View) (M:MM Sm Int) (P:List (Sm×Int)) (h:Nat) (xs:List Ch) (seen:Array Nat):Prop:=
 (∀ x∈xs,∃ e∈P,e.1.m=(h:Int)∧x.k=(entM P e.1.p.toNat).1+e.2∧∃ S∈(entM P e.1.p.toNat).2,RwS V V' x.v (S++[e.1]))∧
 (∀ e∈M,e.1.m=(h:Int)→e.2.2∈seen→∃ x∈xs,x.k=(entM P e.1.p.toNat).1+e.2.1)∧xs.length+(M.filter fun e=>!seen.contains e.2.2).length≤M.length
theorem XOk.le {V V' V2:View} {M:MM Sm Int} {P:List (Sm×Int)} {h:Nat} {xs:List Ch} {seen:Array Nat} (k:XOk V V' M P h xs seen) (hl:Le V' V2):XOk V V2 M P h xs seen:=
 ⟨fun x hx=>by obtain⟨e,he,h1,h2,S,hS,h3⟩:=k.1 x hx; exact⟨e,he,h1,h2,S,hS,h3.le hl⟩,k.2⟩
theorem seen_push2 {α β:Type} {M:MM α β} {seen:Array Nat} {e e':α×β×Nat} (hb:(M.map (·.2.2)).Nodup) (he:e∈M) (he':e'∈M) (h:e'.2.2∈seen.push e.2.2):e'.2.2∈seen∨e'=e:=by
 rw[Array.mem_push]at h
 exact h.imp id fun h=>inj_of (fun e:α×β×Nat=>e.2.2) hb he' he h
theorem XOk.idle {V V':View} {M:MM Sm Int} {P:List (Sm×Int)} {h:Nat} {xs:List Ch} {seen:Array Nat} {e:Sm×Int×Nat} (k:XOk V V' M P h xs seen) (hb:(M.map (·.2.2)).Nodup) (he:e∈M) (hns:e.2.2∉seen) (hm:¬ e.1.m=(h:Int)):XOk V V' M P h xs (seen.push e.2.2):=by
 refine⟨k.1,fun e' he' hm' hs=>?_,?_⟩
 ·rcases seen_push2 hb he he' hs with h1 | rfl
  ·exact k.2.1 e' he' hm' h1
  ·exact absurd hm' hm
 ·have:=unseen_lt he hns
  have:=k.2.2
  omega
theorem XOk.more {V V':View} {M:MM Sm Int} {h:Nat} {xs:List Ch} {seen:Array Nat} {e:Sm×Int×Nat} {x:Ch} (k:XOk V V' M (M.map fun e=>(e.1,e.2.1)) h xs seen) (hb:(M.map (·.2.2)).Nodup) (he:e∈M) (hns:e.2.2∉seen) (hm:e.1.m=(h:Int))
  (hx:x.k=(entM (M.map fun e=>(e.1,e.2.1)) e.1.p.toNat).1+e.2.1) (hS:∃ S∈(entM (M.map fun e=>(e.1,e.2.1)) e.1.p.toNat).2,RwS V V' x.v (S++[e.1])):XOk V V' M (M.map fun e=>(e.1,e.2.1)) h (xs++[x]) (seen.push e.2.2):=by
 refine⟨fun y hy=>?_,fun e' he' hm' hs=>?_,?_⟩
 ·rcases List.mem_append.1 hy with hy | hy
  ·exact k.1 y hy
  ·obtain rfl:=List.mem_singleton.1 hy
   exact⟨(e.1,e.2.1),List.mem_map_of_mem he,hm,hx,hS⟩
 ·rcases seen_push2 hb he he' hs with h1 | rfl
  ·obtain⟨y,hy,h2⟩:=k.2.1 e' he' hm' h1
   exact⟨y,List.mem_append_left _ hy,h2⟩
  ·exact⟨x,by simp,hx⟩
 ·have:=unseen_lt he hns
  have:=k.2.2
  rw[List.length_append,List.length_singleton]
  omega
theorem UOk.set {V V':View} {M:List (Sm×Int)} {U:List Ch} {h:Nat} (k:UOk V V' M U h) {b:Ch} (hl:h+1<U.length) (h1:b.k=(entM M (h+1)).1) (h2:∃ S∈(entM M (h+1)).2,RwS V V' b.v S):UOk V V' M (U.set (h+1) b) (h+1):=fun j hj=>by
 by_cases c:j=h+1
 ·subst c
  exact⟨b,by rw[List.getElem?_set_self hl],h1,h2⟩
 ·obtain⟨u,k1,k2⟩:=k j (by omega)
  exact⟨u,by rw[List.getElem?_set_ne (fun e=>c e.symm)]; exact k1,k2⟩
theorem UOk.le {V V' V2:View} {M:List (Sm×Int)} {U:List Ch} {h:Nat} (k:UOk V V' M U h) (hl:Le V' V2):UOk V V2 M U h:=fun j hj=>by
 obtain⟨u,h1,h2,S,hS,h3⟩:=k j hj; exact⟨u,h1,h2,S,hS,h3.le hl⟩
theorem flat_piece {α:Type} {enc:α→List Value} {s:Nat} (he:∀ x,(enc x).length=s):∀ {l:List α} {i:Nat} {x:α},l[i]? = some x→((flat enc l).drop (i*s)).take s=enc x
 | y::l,0,x,h=>by
  simp at h; subst h
  simp only[Nat.zero_mul,List.drop_zero,flat,List.flatMap_cons]
  rw[←he y]; exact List.take_left
 | y::l,i+1,x,h=>by
  have e:(flat enc (y::l)).drop ((i+1)*s)=(flat enc l).drop (i*s):=by
   simp only[flat,List.flatMap_cons]
   rw[show(i+1)*s=(enc y).length+i*s by rw[he y,Nat.add_mul,Nat.one_mul]; omega,←List.drop_drop,List.drop_left]
  rw[e]
  exact flat_piece he (by simpa using h)
theorem flat_more {α:Type} {enc:α→List Value} (l:List α) (x:α):flat enc (l++[x])=flat enc l++enc x:=by simp[flat]
abbrev prs (M:MM Sm Int):List (Sm×Int):=M.map fun e=>(e.1,e.2.1)
theorem sl686 (b:Nat) (w:World):(Instr.sliceAt 611 (.slice (some ⟨b,0,none⟩) 102 102) (some (.int .i64 1)) none none).run Tryz.prog w=.ok (.slice (some ⟨b,2,none⟩) 101 101) w:=by
 have hX':Tryz.prog.underlying 611=some (.slice (Tryz.prog.elem 611)):=by simp[Program.elem,Tryz.underlying611]
 have hEl:Tryz.prog.elem 611=613:=by simp[Program.elem,Tryz.underlying611]
 simp only[Sem.run_bind,run_sliceAt_slice w 611 _ _ _ _ hX']
 rw[run_slice_l w 611 _ 102 102 hX' .i64 1 (by decide) (by decide),hEl,Lw.run_sizeOf qQ]
 rfl
theorem proof_tail:∃ c1 c2 c3 c4 ct,Tryz.f500.body=some (.seq c1 (.seq c2 (.seq c3 (.seq c4 ct))))∧∀ (M:MM Sm Int) (cM:Nat) (hbo:(M.map (·.2.2)).Nodup) (hlt:∀ e∈M,e.2.2<cM) (hMl:M.length≤1000) (hM:∀ e∈M,0≤e.1.p∧e.1.p≤e.1.m∧e.1.m≤100∧0≤e.2.1∧e.2.1≤1000)
  (b3 mb:Nat) (V:View) (ds:List Deferred) (w0:World) (hV0:Le V (hp w0)) (h3:Cells V ⟨b3,0,none⟩ [.map (some mb)]) (hm:V mb=some (jC smv iv M cM)),
  At ⟨w0,V,ds⟩ 95 [(3,.pointer (some ⟨b3,0,none⟩))] [] V (ct.wpIn (FW none) 0 Tryz.prog fun e a' w'=>e=.ret∧a'.defers=ds∧a'.tmps.size=95∧Below w0.heap.size w0 w'∧∃ v V',a'.tmps[2]? = some v∧Le V' (hp w')∧∃ S∈(entM (prs M) 101).2,RwS V V' v S):=by
 refine⟨_,_,_,_,_,rfl,?_⟩
 intro M cM hbo hlt hMl hM b3 mb V ds w0 hV0 h3 hmb
 have hP:∀ e∈prs M,0≤e.1.p∧e.1.p≤e.1.m∧0≤e.2∧e.2≤1000:=fun e he=>by
  obtain⟨x,hx,rfl⟩:=List.mem_map.1 he
  have:=hM x hx
  exact⟨this.1,this.2.1,this.2.2.2.1,this.2.2.2.2⟩
 have hbd:=ent_bd hP 102
 have hln:=ent_len hP 102
 refine At.nrm ?_
 refine At.zh (.n false 0 (.q 1 .done)) ?_
 refine AtT.makeSl rfl trivial che rfl Tryz.underlying611 rw613 rfl rfl (by decide) rfl rfl (by omega) (by omega) (by decide) (m:=102) (za:=(⟨none,0,0,0⟩:Ch)) ?_
 intro b33
 refine AtT.zg ?_
 refine AtT.done ?_
 refine At.nrm ?_
 refine At.zh (.q 0 (.q 1 (.q 2 (.q 3 .done)))) ?_
 refine AtT.zf ?_
 refine AtT.slVL rfl trivial rfl rfl (sl686 b33) (by decide) ?_
 first | refine AtT.zW Tryz.underlying611 ?_ | refine AtT.zX Tryz.underlying611 ?_
 refine AtT.zf ?_
 refine AtT.done ?_
 refine At.nrmB ?_
 refine At.nrm ?_
 refine At.lp (ι:=Nat×List Ch) (KS:=fun g=>[(3,.pointer (some ⟨b3,0,none⟩)),(7,.slice (some ⟨b33,0,none⟩) 102 102),(36,iv 101),(37,iv g.1)]) (OS:=fun g=>[.blk b33 (LC (flat che g.2) 613)])
  (VS:=fun g V'=>Le V V'∧g.1≤101∧g.2.length=102∧UOk V V' (prs M) g.2 g.1) (μ:=fun g=>101-g.1) (0,List.replicate 102 ⟨none,0,0,0⟩) ?_ ?_ ?_ ?_
 ·exact⟨rfl,rfl,rfl,rfl,trivial⟩
 ·exact Pt.zC
 ·refine⟨Le.refl _,Nat.zero_le _,by simp,fun j hj=>?_⟩
  obtain rfl:j=0:=by dsimp only at hj; omega
  exact⟨⟨none,0,0,0⟩,rfl,rfl,[],List.mem_singleton.2 rfl,.inl ⟨rfl,rfl⟩⟩
 rintro⟨h,U⟩ V1 ks' O' ⟨hV1,hh,hUl,hU⟩ hk hO hl1
 dsimp only at hh hUl hU hk hO
 subst hk hO
 have hmb1:=hV1 _ _ hmb
 have h31:=h3.le hV1
 refine At.nrm ?_
 refine At.zh (.q 0 .done) ?_
 refine AtT.qd ?_
 refine AtT.done ?_
 refine At.nrm ?_
 refine At.qb rfl (fun hp=>?_) (fun hp=>?_)
 ·have hh2:h<101:=by omega
  obtain⟨u,hu,huk,Su,hSu,hRu⟩:=hU h (Nat.le_refl _)
  have hpu:=flat_piece che_len hu
  refine At.nrm ?_
  refine At.zh (.q 0 (.q 1 .done)) ?_
  refine AtT.zf ?_
  refine AtT.zg ?_
  refine AtT.done ?_
  refine At.nrm ?_
  refine At.zh (.q 0 (.q 1 (.q 2 (.q 3 (.n false 4 (.q 5 .done)))))) ?_
  refine AtT.zf ?_
  refine AtT.zf ?_
  refine AtT.idxZ rfl trivial Tryz.underlying611 qQ rfl rfl (by omega) (by decide) ?_
  refine AtT.loadOP rfl trivial rfl qQ zM.zC hpu rfl (by decide) ?_
  refine AtT.kbslice (bs611_1_0 _ _ _ _) ?_
  intro b44
  refine AtT.zg ?_
  refine AtT.done ?_
  refine At.nrm ?_
  refine At.blkRow (b:=b44) (m:=1) (cap:=1) (s:=2) (xs:=che u) (rest:=[]) zM.zC rfl rfl (Nat.le_refl _) (by decide) ?_
  refine At.nrm ?_
  refine At.zh (.q 0 (.n false 1 .done)) ?_
  first | refine AtT.zn tk607 ?_ | refine AtT.zq tk607 ?_
  refine AtT.rangeV rfl trivial Tryz.underlying607 rfl (hmb1) (by decide) ?_
  intro b46
  refine AtT.done ?_
  refine At.nrm ?_
  refine At.nrm ?_
  refine At.lp (ι:=Array Nat×List Ch×Option Addr×Nat) (KS:=fun g=>[(3,.pointer (some ⟨b3,0,none⟩)),(7,.slice (some ⟨b33,0,none⟩) 102 102),(36,iv 101),(37,iv h),(8,iv h),(9,.slice g.2.2.1 (g.2.1.length+1) g.2.2.2),(46,.pointer (some ⟨b46,0,none⟩))])
   (OS:=fun g=>[.blk b33 (LC (flat che U) 613),.blk b46 (.mapIter (some mb) cM g.1 cM),.row (.slice g.2.2.1 (g.2.1.length+1) g.2.2.2) 613 2 (g.2.1.length+1) (flat che (u::g.2.1))])
   (VS:=fun g V'=>Le V1 V'∧XOk V V' M (prs M) h g.2.1 g.1) (μ:=fun g=>(M.filter fun e=>!g.1.contains e.2.2).length) (#[],[],some ⟨b44,0,none⟩,1) ?_ ?_ ?_ ?_
  ·exact⟨rfl,rfl,rfl,rfl,rfl,rfl,rfl,trivial⟩
  ·exact Pt.zC
  ·refine⟨Le.refl _,fun x hx=>by(cases hx),fun e _ _ he=>by simp at he,?_⟩
   show 0+_≤_
   rw[Nat.zero_add]
   exact List.length_filter_le _ _
  rintro⟨seen,xs,ao,co⟩ V2 ks' O' ⟨hV2,hX⟩ hk hO hl2
  dsimp only at hX hk hO
  subst hk hO
  have hmb2:=hV2 _ _ hmb1
  have h32:=h31.le hV2
  have hxl:xs.length≤1000:=by have:=hX.2.2; omega
  refine At.nrm ?_
  refine At.zh (.n true 0 (.q 1 .done)) ?_
  all_goals (refine AtT.nextV rfl trivial rfl zM.zC hmb2 (fun e he=>hlt e he) (Nat.le_refl _) (by decide) (fun hall=>?_) (fun e he hns=>?_))
  all_goals (refine AtT.zV ?_)
  all_goals refine AtT.done ?_
  all_goals (refine At.nrm ?_)
  ·refine At.qh rfl rfl ?_
   have hst:=step_ok (M:=prs M) (h:=h) (Rw:=RwS V V2) (c0:=u) (xs:=xs) (fun e he=>(hP e he).2.1) huk ⟨Su,hSu,hRu.le hV2⟩ hX.1 (fun e he hm=>by
    obtain⟨x,hx,rfl⟩:=List.mem_map.1 he
    exact hX.2.1 x hx hm (hall x hx))
   refine At.nrm ?_
   refine At.giveSl (l:=u::xs) che_len rfl rfl zM.zC (fun V3 hV3 hs3=>?_)
   have hset:=flat_set che_len U (h+1) (bst u xs) (by omega)
   have hfl:(flat che U).length=204:=by rw[zJ che_len,hUl]
   have hcast:((h:Int)+1)=((h+1:Nat):Int):=by omega
   have hUn:=((hU.le (hV2.trans hV3)).set (b:=bst u xs) (by omega) hst.1 (by obtain⟨S,h1,h2⟩:=hst.2; exact⟨S,h1,h2.le hV3⟩))
   refine At.nrm ?_
   refine At.zh (.q 0 (.q 1 (.q 2 (.q 3 (.n false 4 (.q 5 (.n true 6 .done))))))) ?_
   refine AtT.zf ?_
   refine AtT.zf ?_
   first | refine AtT.ql ?_ | refine AtT.zP ?_
   rw[hcast]
   refine AtT.zf ?_
   refine AtT.zR rfl rfl ok573 (stbest_f (u::xs) u xs rfl _ _ _ hs3) ?_
   rintro _ rfl
   refine AtT.idxZ rfl trivial Tryz.underlying611 qQ rfl rfl (by omega) (by decide) ?_
   refine AtT.store rfl trivial rfl rfl qQ rfl rfl (by simp only[hfl,List.length_cons,List.length_nil]; omega) rfl hset (by repeat first|exact Upd.here|apply Upd.there) ?_
   refine AtT.done ?_
   refine At.nrm ?_
   refine At.nrm ?_
   refine At.zh (.q 0 (.q 1 .done)) ?_
   first | refine AtT.ql ?_ | refine AtT.zP ?_
   refine AtT.zf ?_
   refine AtT.done ?_
   refine At.nrm ?_
   refine At.round (h+1,U.set (h+1) (bst u xs)) ?_ ?_ ?_ ?_
   ·show 101-(h+1)<101-h; omega
   ·exact⟨hV1.trans (hV2.trans hV3),by dsimp only; omega,by dsimp only; rw[List.length_set]; exact hUl,hUn⟩
   ·exact⟨rfl,rfl,rfl,ivs (by dsimp only; omega),trivial⟩
   ·exact Pt.zC
  ·refine At.jo rfl rfl ?_
   have hun:=unseen_lt he hns
   obtain⟨⟨ep,em⟩,en,eb⟩:=e
   obtain⟨q1,q2,q3,q4,q5⟩:=hM _ he
   dsimp only at q1 q2 q3 q4 q5 hns hun
   obtain⟨p,rfl⟩:∃ p:Nat,ep=(p:Int):=⟨ep.toNat,by omega⟩
   refine At.nrm ?_
   refine At.zh (.n false 0 (.q 1 (.q 2 (.n false 3 (.n true 4 (.q 5 .done)))))) ?_
   refine AtT.entryV rfl trivial rfl zM.zC hmb2 he hbo (by decide) ?_
   refine AtT.zV ?_
   refine AtT.zV ?_
   refine AtT.qE z148 ?_
   intro b10
   refine AtT.zU tk148 ?_
   refine AtT.zg ?_
   refine AtT.done ?_
   refine At.nrm ?_
   refine At.nrm ?_
   refine At.zh (.q 0 (.q 1 (.q 2 (.q 3 .done)))) ?_
   first | refine AtT.zk fo148_1 ?_ | with_reducible refine AtT.zm fo148_1 ?_ | refine AtT.zo fo148_1 ?_
   first | refine AtT.zn tk2 ?_ | refine AtT.zq tk2 ?_
   refine AtT.zf ?_
   refine AtT.keqI ?_
   refine AtT.done ?_
   refine At.nrm ?_
   refine At.qb rfl (fun hm=>?_) (fun hm=>?_)
   ·have hm':em=(h:Int):=hm
    obtain⟨up,hup,hupk,Sp,hSp,hRp⟩:=hU p (by omega)
    have hb2:=hbd p (by omega)
    have hl2':=hln p (by omega) Sp hSp
    have hpp:=flat_piece che_len hup
    obtain⟨pa,pn,pc,pk⟩:=up
    have hslp:=(hRp.le hV2).sl
    obtain⟨_,_,hsle,_⟩:=id hslp
    cases hsle
    refine At.nrm ?_
    refine At.zh (.q 0 (.q 1 (.q 2 (.q 3 (.q 4 (.n false 5 (.n true 6 .done))))))) ?_
    refine AtT.zf ?_
    first | refine AtT.zk jO ?_ | with_reducible refine AtT.zm jO ?_ | refine AtT.zo jO ?_
    first | refine AtT.zn tk2 ?_ | refine AtT.zq tk2 ?_
    refine AtT.idxZ rfl trivial Tryz.underlying611 qQ rfl rfl (by omega) (by decide) ?_
    refine AtT.loadOP rfl trivial rfl qQ zM.zC hpp rfl (by decide) ?_
    refine AtT.qE z613 ?_
    intro b12
    refine AtT.zU qQ ?_
    refine AtT.done ?_
    refine At.nrm ?_
    refine At.nrm ?_
    refine At.draw (.q 0 (.q 1 (.q 2 (.q 3 (.q 4 (.q 5 (.q 6 (.q 7 (.q 8 (.q 9 (.q 10 (.q 13 (.q 14 (.q 15 (.q 16 (.n false 11 (.n false 12 (.q 17 (.n false 18 (.n true 19 (.q 20 .done))))))))))))))))))))) ffm (by kernel_rfl) ?_
    refine AtT.zf ?_
    first | refine AtT.zk kJ ?_ | with_reducible refine AtT.zm kJ ?_ | refine AtT.zo kJ ?_
    first | refine AtT.zn tk389 ?_ | refine AtT.zq tk389 ?_
    first | refine AtT.zk kJ ?_ | with_reducible refine AtT.zm kJ ?_ | refine AtT.zo kJ ?_
    first | refine AtT.zn tk389 ?_ | refine AtT.zq tk389 ?_
    first | refine AtT.zW Tryz.underlying389 ?_ | refine AtT.zX Tryz.underlying389 ?_
    first | refine AtT.zk kJ ?_ | with_reducible refine AtT.zm kJ ?_ | refine AtT.zo kJ ?_
    first | refine AtT.zn tk389 ?_ | refine AtT.zq tk389 ?_
    first | refine AtT.zW Tryz.underlying389 ?_ | refine AtT.zX Tryz.underlying389 ?_
    first | refine AtT.kclipAll Tryz.underlying389 tk148 ?_ | refine AtT.kclip Tryz.underlying389 tk148 ?_
    intro a70 hs70
    first | refine AtT.zL tk148 ?_ | refine AtT.zS tk148 ?_ | refine AtT.zK tk148 ?_
    first | refine AtT.zk fo613_1 ?_ | with_reducible refine AtT.zm fo613_1 ?_ | refine AtT.zo fo613_1 ?_
    first | refine AtT.zn tk2 ?_ | refine AtT.zq tk2 ?_
    refine AtT.zf ?_
    first | refine AtT.ql ?_ | refine AtT.zP ?_
    refine AtT.qz (bs389_1_0 _ _) ?_
    intro q72 V72 hV72 hq72
    refine AtT.appendCR rfl trivial Tryz.underlying389 rw148 rfl (by decide) rfl (by first | assumption | exact Sl.le (by assumption) (by assumption)) rfl rfl (by first | assumption | exact Cells.le (by assumption) (by assumption)) (fun _=>rfl) (by simp) (by unfold maxLen; simp only[List.length_cons,List.length_nil]; omega) (by simp only[List.length_cons,List.length_nil]; omega) (by decide) (enc:=sme) (m:=[⟨(p:Int),em⟩]) ?_
    intro a73 c73 V73 hV73 hr73
    refine AtT.kbuild (bd613_0_1 _ _ _ _) ?_
    refine AtT.qz (bs611_1_0 _ _ _ _) ?_
    intro q79 V79 hV79 hq79
    first | refine AtT.kappend Tryz.underlying611 rw613 ?_
    intro a80 c80
    refine AtT.zg ?_
    refine AtT.done ?_
    refine At.nrm ?_
    have ew:IntKind.i64.wrap (pk+en)=pk+en:=wrap_fit (Fit.of (by dsimp only at hupk; omega) (by dsimp only at hupk; omega))
    have hge:=hV72.trans (hV73.trans hV79)
    refine At.round (seen.push eb,xs++[(⟨a73,(Sp++[(⟨(p:Int),em⟩:Sm)]).length,c73,pk+en⟩:Ch)],a80,c80) ?_ ?_ ?_ ?_
    ·exact hun
    ·exact⟨hV2.trans hge,(hX.le hge).more (e:=(⟨(p:Int),em⟩,en,eb)) hbo he hns hm' (by rw[show(pk:Int)=(entM (prs M) p).1 from hupk]; rfl) ⟨Sp,hSp,.inr ⟨(hr73.base (hV1.trans (hV2.trans hV72))).le hV79,by simp⟩⟩⟩
    ·dsimp only; rw[List.length_append,List.length_singleton]; exact⟨rfl,rfl,rfl,rfl,rfl,rfl,rfl,trivial⟩
    ·dsimp only
     rw[List.length_append,List.length_singleton,←List.cons_append,flat_more]
     rw[ew]
     exact Pt.zC
   ·refine At.nrm ?_
    refine At.round (seen.push eb,xs,ao,co) ?_ ?_ ?_ ?_
    ·exact hun
    ·exact⟨hV2,hX.idle (e:=(⟨(p:Int),em⟩,en,eb)) hbo he hns hm⟩
    ·exact⟨rfl,rfl,rfl,rfl,rfl,rfl,rfl,trivial⟩
    ·exact Pt.zC
 ·obtain rfl:h=101:=by omega
  obtain⟨u,hu,huk,Su,hSu,hRu⟩:=hU 101 (Nat.le_refl _)
  have hpu:=flat_at che_len U 101 u hu 0 _ rfl
  refine At.nrm ?_
  refine At.zh (.q 0 (.q 1 (.q 2 (.q 3 (.q 4 (.q 5 (.q 6 (.q 7 .done)))))))) ?_
  refine AtT.zf ?_
  refine AtT.zf ?_
  first | refine AtT.zW Tryz.underlying611 ?_ | refine AtT.zX Tryz.underlying611 ?_
  first | refine AtT.jD ?_ | refine AtT.jE ?_
  refine AtT.idxZ rfl trivial Tryz.underlying611 qQ rfl rfl (by omega) (by decide) (j:=101) ?_
  first | refine AtT.zk kJ ?_ | with_reducible refine AtT.zm kJ ?_ | refine AtT.zo kJ ?_
  refine AtT.jK rfl trivial rfl tk389 zM.zC hpu (by decide) ?_
  refine AtT.zg ?_
  refine AtT.done ?_
  refine At.nrm ?_
  exact fun a w hk hm=>⟨rfl,hk.defers,hk.size,hm.below,_,V1,hk.known 2 _ rfl,hm.view,Su,hSu,hRu⟩
end Go.Proofs.YtmdcedioddchfaaGreatDoor
end
section
set_option linter.unusedVariables false
set_option linter.unusedSimpArgs false
namespace Go.Cu
open Go.Lw
section
variable {α β:Type} [DecidableEq α]
theorem mmod_map {g:Nat→α} {h:Nat→β} {i:Nat} {v:β} : ∀ {l:List Nat},(∀ a∈l,g a=g i→a=i)→l.Nodup→mmod (g i) v (l.map fun p=>(g p,h p,p))=l.map fun p=>(g p,if p=i then v else h p,p)
 | [],_,_=>rfl
 | a::l,hg,hn=>by
  simp only[List.map_cons,mmod]
  by_cases c:g i=g a
  ·have e:=hg a List.mem_cons_self c.symm
   subst e
   rw[if_pos rfl,if_pos rfl]
   congr 1
   refine List.map_congr_left fun p hp=>?_
   rw[if_neg (fun e'=>(List.nodup_cons.1 hn).1 (by rw[←e']; exact hp))]
  ·rw[if_neg c,if_neg (fun e=>c (by rw[e])),mmod_map (fun b hb=>hg b (List.mem_cons_of_mem _ hb)) (List.nodup_cons.1 hn).2]
theorem mhas_map {g:Nat→α} {h:Nat→β} {a:α} {l:List Nat} : mhas a (l.map fun p=>(g p,h p,p))=true↔∃ p∈l,g p=a:=by
 rw[mhas_keys,List.map_map]
 simp
end
theorem mul_inj {x a b:Int} (hx:x≠0) (h:x*a=x*b):a=b:=Int.eq_of_mul_eq_mul_left hx h
theorem MS_A {x lo hi:Int} (hx:x≠0) (hl:lo≠hi):∀ k,MS x lo hi k=((List.range k).map (fun j=>((⟨x*kP j,x*kM j⟩:Sm),(⟨kP j,kM j⟩:Sm),j)),k)
 | 0=>rfl
 | k+1=>by
  have ek:kV x lo hi (kP k) (kM k)=⟨x*kP k,x*kM k⟩:=by unfold kV; rw[if_neg hl]
  have hno:¬ mhas (⟨x*kP k,x*kM k⟩:Sm) ((List.range k).map (fun j=>((⟨x*kP j,x*kM j⟩:Sm),(⟨kP j,kM j⟩:Sm),j)))=true:=fun h=>by
   obtain⟨p,hp,e⟩:=(mhas_map (g:=fun j=>(⟨x*kP j,x*kM j⟩:Sm)) (h:=fun j=>(⟨kP j,kM j⟩:Sm))).1 h
   simp only[Sm.mk.injEq]at e
   have e1:=mul_inj hx e.1
   have e2:=mul_inj hx e.2
   have:=List.mem_range.1 hp
   unfold kP at e1
   unfold kM at e2
   omega
  show mput (kV x lo hi (kP k) (kM k)) ⟨kP k,kM k⟩ (MS x lo hi k).1 (MS x lo hi k).2=_
  rw[ek,MS_A hx hl k]
  dsimp only
  unfold mput
  rw[if_neg hno,List.range_succ,List.map_append]
  rfl
theorem MS_B0 {x:Int} (hx:x≠0):∀ k,k≤101→MS x 0 0 k=((List.range k).map (fun j:Nat=>((⟨x*(j:Int),0⟩:Sm),(⟨(j:Int), -10⟩:Sm),j)),k)
 | 0,_=>rfl
 | k+1,hk=>by
  have e1:kP k=k:=by unfold kP; omega
  have e2:kM k = -10:=by unfold kM; omega
  have ek:kV x 0 0 (kP k) (kM k)=⟨x*(k:Int),0⟩:=by unfold kV; rw[if_pos rfl,Int.mul_zero,Int.add_zero,e1]
  have hno:¬ mhas (⟨x*(k:Int),0⟩:Sm) ((List.range k).map (fun j:Nat=>((⟨x*(j:Int),0⟩:Sm),(⟨(j:Int), -10⟩:Sm),j)))=true:=fun h=>by
   obtain⟨p,hp,e⟩:=(mhas_map (g:=fun j:Nat=>(⟨x*(j:Int),0⟩:Sm)) (h:=fun j:Nat=>(⟨(j:Int), -10⟩:Sm))).1 h
   simp only[Sm.mk.injEq]at e
   have e1:=mul_inj hx e.1
   have:=List.mem_range.1 hp
   omega
  show mput (kV x 0 0 (kP k) (kM k)) ⟨kP k,kM k⟩ (MS x 0 0 k).1 (MS x 0 0 k).2=_
  rw[ek,MS_B0 hx k (by omega),e1,e2]
  dsimp only
  unfold mput
  rw[if_neg hno,List.range_succ,List.map_append]
  rfl
theorem MS_B {x:Int} (hx:x≠0) (j:Nat):∀ i,i≤101→MS x 0 0 (101+(101*j+i))=((List.range 101).map (fun p:Nat=>((⟨x*(p:Int),0⟩:Sm),(⟨(p:Int),if p<i then (j:Int)-9 else (j:Int)-10⟩:Sm),p)),101)
 | 0,_=>by
  cases j with
  | zero=>
   rw[show 101+(101*0+0)=101 from rfl,MS_B0 hx 101 (Nat.le_refl _)]
   rfl
  | succ j=>
   rw[show 101+(101*(j+1)+0)=101+(101*j+101) by omega,MS_B hx j 101 (Nat.le_refl _)]
   congr 1
   refine List.map_congr_left fun p hp=>?_
   rw[if_pos (List.mem_range.1 hp),if_neg (Nat.not_lt_zero _)]
   congr 3
   omega
 | i+1,hi=>by
  have e1:kP (101+(101*j+i))=i:=by unfold kP; omega
  have e2:kM (101+(101*j+i))=(j:Int)-9:=by unfold kM; omega
  have ek:kV x 0 0 (kP (101+(101*j+i))) (kM (101+(101*j+i)))=⟨x*(i:Int),0⟩:=by unfold kV; rw[if_pos rfl,Int.mul_zero,Int.add_zero,e1]
  have hyes:mhas (⟨x*(i:Int),0⟩:Sm) ((List.range 101).map (fun p:Nat=>((⟨x*(p:Int),0⟩:Sm),(⟨(p:Int),if p<i then (j:Int)-9 else (j:Int)-10⟩:Sm),p)))=true:=
   (mhas_map (g:=fun p:Nat=>(⟨x*(p:Int),0⟩:Sm)) (h:=fun p:Nat=>(⟨(p:Int),if p<i then (j:Int)-9 else (j:Int)-10⟩:Sm))).2 ⟨i,List.mem_range.2 (by omega),rfl⟩
  show mput (kV x 0 0 (kP (101+(101*j+i))) (kM (101+(101*j+i)))) ⟨kP (101+(101*j+i)),kM (101+(101*j+i))⟩ (MS x 0 0 (101+(101*j+i))).1 (MS x 0 0 (101+(101*j+i))).2=_
  rw[ek,MS_B hx j i (by omega),e1,e2]
  dsimp only
  unfold mput
  rw[if_pos hyes]
  have:=mmod_map (g:=fun p:Nat=>(⟨x*(p:Int),0⟩:Sm)) (h:=fun p:Nat=>(⟨(p:Int),if p<i then (j:Int)-9 else (j:Int)-10⟩:Sm)) (i:=i) (v:=(⟨(i:Int),(j:Int)-9⟩:Sm)) (l:=List.range 101) (fun a _ h=>by
   simp only[Sm.mk.injEq]at h
   have:=mul_inj hx h.1
   omega) List.nodup_range
  rw[this]
  congr 1
  refine List.map_congr_left fun p hp=>?_
  by_cases c:p=i
  ·subst c
   rw[if_pos rfl,if_pos (by omega)]
  ·rw[if_neg c]
   by_cases d:p<i
   ·rw[if_pos d,if_pos (by omega)]
   ·rw[if_neg d,if_neg (by omega)]
def ent (x lo hi:Int):List (Sm×Sm×Nat):=
 if x=0 then [(⟨0,0⟩,⟨0, -10⟩,0)]else if lo=hi then (List.range 101).map (fun p:Nat=>(⟨x*(p:Int),0⟩,⟨(p:Int),10⟩,p))else (List.range 2121).map (fun j=>(⟨x*kP j,x*kM j⟩,⟨kP j,kM j⟩,j))
theorem MS_end {x lo hi:Int} (h:lo=hi→lo=0):(MS x lo hi (endK x)).1=ent x lo hi:=by
 unfold ent endK
 by_cases hx:x=0
 ·subst hx
  rw[if_pos rfl,if_pos rfl]
  show(mput (kV 0 lo hi (kP 0) (kM 0)) (⟨kP 0,kM 0⟩:Sm) [] 0).1=_
  have:kV 0 lo hi (kP 0) (kM 0)=⟨0,0⟩:=by unfold kV; split<;>simp
  rw[this]
  rfl
 ·rw[if_neg hx,if_neg hx]
  by_cases hl:lo=hi
  ·rw[if_pos hl]
   have h0:=h hl
   subst hl; subst h0
   rw[show 2121=101+(101*19+101)from rfl,MS_B hx 19 101 (Nat.le_refl _)]
   refine List.map_congr_left fun p hp=>?_
   rw[if_pos (List.mem_range.1 hp)]
   rfl
  ·rw[if_neg hl,MS_A hx hl]
end Go.Cu
end
section
set_option linter.unusedVariables false
set_option linter.unusedSimpArgs false
set_option linter.constructorNameAsVariable false
namespace Go.Ev
open Go.Lw Go.RowKit Go.Proofs
abbrev Sm:=Go.Cu.Sm
noncomputable def nI {Z:Type} (n:Int) (K:Int→Z):Z:=Int.rec (motive:=fun _=>Z) (fun m=>nat m fun m=>K (.ofNat m)) (fun m=>nat m fun m=>K (.negSucc m)) n
theorem nI_eq {Z:Type} (n:Int) (K:Int→Z):nI n K=K n:=by
 cases n with
 | ofNat m=>exact nat_eq m fun m=>K (.ofNat m)
 | negSucc m=>exact nat_eq m fun m=>K (.negSucc m)
noncomputable def prs:List Sc→Option (List Sm)
 | .i .i64 a::.i .i64 b::l=>(match prs l with | some r=>some (⟨a,b⟩::r) | none=>none)
 | []=>some []
 | _=>none
noncomputable def goodB (s:Sm):Bool:=xc 0 s.p && xc s.p 100 && xc (-10) s.m && xc s.m 10
noncomputable def bldF {Z:Type} (f:Nat→Sm×Sm) (q:Int) (l:List Nat) (K:List (AV×AV)→Option Z):Option Z:=
 List.rec (motive:=fun _=>(List (AV×AV)→Option Z)→Option Z) (fun K=>K []) (fun j _ ih K=>nI (f j).1.p fun a=>kI (xc (-q) a && xc a q)
  (nI (f j).1.m fun b=>nI (f j).2.p fun c=>nI (f j).2.m fun d=>ih fun r=>K ((.a [.i .i64 a,.i .i64 b],.a [.i .i64 c,.i .i64 d])::r)) (ih K)) l K
noncomputable def shF (x lo hi:Int):Nat→Sm×Sm:=bif ieqB x 0 then fun _=>(⟨0,0⟩,⟨0, -10⟩)else bif ieqB lo hi then fun p=>(⟨x*(p:Int),0⟩,⟨(p:Int),10⟩)else fun j=>(⟨x*Go.Cu.kP j,x*Go.Cu.kM j⟩,⟨Go.Cu.kP j,Go.Cu.kM j⟩)
noncomputable def shN (x lo hi:Int):Nat:=bif ieqB x 0 then 1 else bif ieqB lo hi then 101 else 2121
noncomputable def rd3 {Z:Type} (l:List Sc) (K:So→Int→Int→Option Z):Option Z:=match l with | [.o so,.i .i64 lo,.i .i64 hi]=>K so lo hi | _=>none
noncomputable def sliceS (h:H) (so:So) (K:Nat→Nat→Nat→R):R:=match so with | .s i o m c=>gd (Nat.ble m c && Nat.ble c 1000000) (K i o m) | .w i o m _=>rowK h i fun _ _ _=>K i o m | _=>none
noncomputable def orSheets:Orc:=.mk fun args h K=>args2 args fun bp xv=>asP bp fun id off=>gd (Nat.beq off 0) (asI xv fun k x=>gd (Nat.beq (kNo k) (kNo .i64)) (jX h id fun E n t=>gd (Nat.ble 3 n) (getL t 0 3 fun r=>rd3 r fun so lo hi=>
 sliceS h so fun i o m=>csE i o m 2 h fun _ cs=>obn (prs cs) fun S=>gd (xc (-100) x && xc x 100 && xc 0 lo && xc lo 50 && xc 0 hi && xc hi 50 && Nat.ble 1 m && Nat.ble m 7 && S.all goodB && (!ieqB lo hi || ieqB lo 0)) (
 nI (Go.Cu.mostS ((m:Int)-1-(m:Int) / 2) lo S) fun q=>bldF (shF x lo hi) q (List.range (shN x lo hi)) fun l=>newB h (.o (.m l)) fun id h=>K (.x (.o (.m id))) h))))
def absE (e:Sm×Sm×Nat):AV×AV:=(.a [.i .i64 e.1.p,.i .i64 e.1.m],.a [.i .i64 e.2.1.p,.i .i64 e.2.1.m])
theorem bldF_eq {Z:Type} (f:Nat→Sm×Sm) (q:Int):∀ (l:List Nat) (K:List (AV×AV)→Option Z),bldF f q l K=K (((l.map fun j=>((f j).1,(f j).2,j)).filter (Go.Cu.inS q)).map absE)
 | [],K=>rfl
 | j::l,K=>by
  have e:bldF f q (j::l) K=nI (f j).1.p fun a=>kI (xc (-q) a && xc a q)
   (nI (f j).1.m fun b=>nI (f j).2.p fun c=>nI (f j).2.m fun d=>bldF f q l fun r=>K ((.a [.i .i64 a,.i .i64 b],.a [.i .i64 c,.i .i64 d])::r)) (bldF f q l K):=rfl
  rw[e,nI_eq,xu,xu,nI_eq,nI_eq,nI_eq,bldF_eq f q l,bldF_eq f q l]
  simp only[List.map_cons,List.filter_cons]
  by_cases c:Go.Cu.inS q ((f j).1,(f j).2,j)=true
  ·have c' : -q≤(f j).1.p∧(f j).1.p≤q:=by simpa [Go.Cu.inS]using c
   rw[if_pos c,decide_eq_true c'.1,decide_eq_true c'.2]
   rfl
  ·rw[if_neg c]
   have c':(decide (-q≤(f j).1.p) && decide ((f j).1.p≤q))=false:=by
    simp only[Go.Cu.inS,decide_eq_true_eq]at c
    rw[Bool.and_eq_false_iff,decide_eq_false_iff_not,decide_eq_false_iff_not]
    omega
   rw[c']
   rfl
theorem sh_ent (x lo hi:Int):(List.range (shN x lo hi)).map (fun j=>((shF x lo hi j).1,(shF x lo hi j).2,j))=Go.Cu.ent x lo hi:=by
 unfold shN shF Go.Cu.ent
 rw[ieqB_eq,ieqB_eq]
 by_cases hx:x=0
 ·rw[if_pos hx,decide_eq_true hx]; rfl
 ·rw[if_neg hx,decide_eq_false hx]
  by_cases hl:lo=hi
  ·rw[if_pos hl,decide_eq_true hl]; rfl
  ·rw[if_neg hl,decide_eq_false hl]; rfl
theorem prs_law {e:Env} : ∀ {cs:List Sc} {S:List Sm} {us:List Value},prs cs=some S→zN (DnC e) cs us→us=flat Go.Cu.sme S∧cs.length=S.length*2
 | [],S,us,h,ha=>by
  unfold prs at h
  cases h
  cases us with
  | nil=>exact⟨rfl,rfl⟩
  | cons _ _=>exact ha.elim
 | [a],S,us,h,ha=>by
  unfold prs at h
  split at h
  ·rename_i h2; cases h2
  ·rename_i h2; cases h2
  ·cases h
 | a::b::l,S,us,h,ha=>by
  unfold prs at h
  split at h
  ·rename_i a' b' l' h2
   cases h2
   split at h
   ·rename_i r hr
    cases h
    match us,ha with
    | u::v::us,ha=>
     obtain⟨h1,h2⟩:=prs_law hr ha.2.2
     have e1:u=.int .i64 a':=ha.1.1
     have e2:v=.int .i64 b':=ha.2.1.1
     subst e1; subst e2
     refine⟨by rw[h1]; rfl,by simp[h2]; omega⟩
    | [],ha=>exact ha.elim
    | [_],ha=>exact ha.2.elim
   ·cases h
  ·cases ‹_::_=[]›
  ·cases h
theorem ents_ok {e:Env} : ∀ M:List (Sm×Sm×Nat),zN (DnE e) (M.map absE) (M.map (mE Go.Cu.smv Go.Cu.smv))
 | []=>trivial
 | _::M=>⟨⟨⟨_,rfl,⟨rfl,rfl⟩,⟨rfl,rfl⟩,trivial⟩,⟨_,rfl,⟨rfl,rfl⟩,⟨rfl,rfl⟩,trivial⟩⟩,ents_ok M⟩
theorem csE_cells {w0:World} {e:Env} {h:H} {w:World} (R:zG w0 e h w) {id off n s:Nat} (hd:e.dom id) {Z:Type} {z:Z} {K:Nat→List Sc→Option Z} (hh:csE id off n s h K=some z):∃ l us,K n l=some z∧l.length=n*s∧zN (DnC e) l us∧∀ j u,us[j]? = some u→w.cell? ((adr e id off).add j)=some u:=by
 cases n with
 | zero=>exact⟨[],[],hh,by simp,trivial,fun j u hj=>by simp at hj⟩
 | succ n=>
  have h':(jX h id fun E q t=>gd (Nat.ble (off+(n+1)*s) q) (getL t off ((n+1)*s) fun r=>K (n+1) r))=some z:=hh
  obtain⟨E,q,t,hb,h'⟩:=jG h'
  obtain⟨h1,h'⟩:=zw h'
  have h1:=Nat.le_of_ble_eq_true h1
  obtain⟨l,h2,h3,h'⟩:=getL_law h'
  obtain⟨us,k1,k2,k3⟩:=R.row hd hb h3 (by omega)
  exact⟨l,us,h',h2,k2,k3⟩
theorem sliceS_law {w0:World} {e:Env} {h:H} {w:World} {z:List (AV×H)} (R:zG w0 e h w) {so:So} {v:Value} {K:Nat→Nat→Nat→Ev.R} (hh:sliceS h so K=some z) (hx:DnO e so v):∃ i o m c,v=.slice (some (adr e i o)) m c∧e.dom i∧m≤c∧c≤maxLen∧K i o m=some z:=by
 unfold sliceS at hh
 split at hh
 ·rename_i i o m c
  obtain⟨hd,rfl⟩:=hx
  obtain⟨g,hh⟩:=zw hh
  rw[Bool.and_eq_true]at g
  have g1:=Nat.le_of_ble_eq_true g.1
  have g2:=Nat.le_of_ble_eq_true g.2
  exact⟨i,o,m,c,rfl,hd,g1,by unfold maxLen; omega,hh⟩
 ·rename_i i o m c
  obtain⟨hd,rfl,hc⟩:=hx
  obtain⟨E,n,t,hb,hh⟩:=rowK_law hh
  have ok:=R.ok i hd
  rw[hb]at ok
  obtain⟨cs,zz,k1,k2,k3,k4,k5⟩:=ok
  exact⟨i,o,m,_,rfl,hd,by omega,by omega,hh⟩
 ·cases hh
theorem sheets_ok (w0:World):FOk w0 orSheets.g 268:=by
 intro e h K z args us w hh ha R
 refine⟨by rw[xn]; exact zu Tryz.func268 (by kernel_rfl) (by kernel_rfl),?_⟩
 have hh':args2 args _=some z:=hh
 obtain⟨bp,xv,rfl,hq⟩:=args2_law hh'
 obtain⟨id,off,rfl,hq⟩:=jP hq
 obtain⟨g1,hq⟩:=zw hq
 have:=Nat.eq_of_beq_eq_true g1; subst this
 obtain⟨k,x,rfl,hq⟩:=ja hq
 obtain⟨g2,hq⟩:=zw hq
 have hk:k=.i64:=by
  have:=Nat.eq_of_beq_eq_true g2
  cases k<;>first | rfl | cases this
 subst hk
 obtain⟨E,n,t,hb,hq⟩:=jG hq
 obtain⟨g3,hq⟩:=zw hq
 obtain⟨r,r1,r2,hq⟩:=getL_law hq
 unfold rd3 at hq
 split at hq
 rotate_left
 ·cases hq
 rename_i so lo hi
 match us,ha with
 | [u,v],ha=>
  obtain⟨hd,rfl⟩:e.dom id∧u=.pointer (some (adr e id 0)):=ha.1
  obtain rfl:v=.int .i64 x:=ha.2.1
  obtain⟨us3,u1,u2,u3⟩:=R.row hd hb r2 (by have:=Nat.le_of_ble_eq_true g3; simpa using this)
  match us3,u2 with
  | [v0,v1,v2],u2=>
   obtain rfl:v1=.int .i64 lo:=u2.2.1.1
   obtain rfl:v2=.int .i64 hi:=u2.2.2.1.1
   have hv0:DnO e so v0:=u2.1.1
   obtain⟨i,o,m,c,rfl,hdi,hmc,hcm,hq⟩:=sliceS_law R hq hv0
   obtain⟨cs,us,hq,hcl,hcu,hcc⟩:=csE_cells R hdi hq
   obtain⟨S,hS,hq⟩:=zO hq
   obtain⟨g4,hq⟩:=zw hq
   simp only[Bool.and_eq_true,xu,ieqB_eq,decide_eq_true_eq,Bool.or_eq_true,Bool.not_eq_true',decide_eq_false_iff_not]at g4
   obtain⟨⟨⟨⟨⟨⟨⟨⟨⟨a1,a2⟩,a3⟩,a4⟩,a5⟩,a6⟩,a7⟩,a8⟩,a9⟩,a10⟩:=g4
   have a7:=Nat.le_of_ble_eq_true a7
   have a8:=Nat.le_of_ble_eq_true a8
   rw[nI_eq,bldF_eq,sh_ent]at hq
   obtain⟨rfl,hlen⟩:=prs_law hS hcu
   have hm:m=S.length:=by omega
   subst hm
   have hsl:Sl (hp w) Go.Cu.sme 2 (.slice (some (adr e i o)) S.length c) S:=Sl.of_cells (fun _=>rfl) (fun j u hj=>by rw[vcell_hp]; exact hcc j u hj) hmc hcm
   have cell:∀ (j:Nat) (u:Value),[Value.slice (some (adr e i o)) S.length c,.int .i64 lo,.int .i64 hi][j]? = some u→Cells (hp w) ⟨e.blk id,j,none⟩ [u]:=fun j u hj q v hv=>by
    cases q with
    | zero=>
     simp at hv
     subst hv
     rw[vcell_hp,Addr.add_lit,Nat.add_zero]
     have:=u3 j u hj
     rwa[kN,Nat.zero_add]at this
    | succ q=>simp at hv
   have hgood:∀ s∈S,Go.Cu.good s:=fun s hs=>by
    have:=List.all_eq_true.1 a9 s hs
    unfold goodB at this
    simp only[Bool.and_eq_true,xu,decide_eq_true_eq]at this
    exact⟨this.1.1.1,this.1.1.2,this.1.2,this.2⟩
   have F:=YtmdcedioddchfaaGreatDoor.sheets_f x lo hi S (some (adr e i o)) c (e.blk id) ⟨by omega,by omega⟩ ⟨by omega,by omega⟩ ⟨by omega,by omega⟩ hgood ⟨by omega,by omega⟩ (hp w) (cell 0 _ rfl) (cell 1 _ rfl) (cell 2 _ rfl) hsl
   rw[xn]
   refine(F w (Le.refl _)).mono fun en w' ⟨q,V',h1,h2,h3,h4,h5,mb,h6,h7,h8⟩=>⟨q,h1,?_⟩
   subst h6
   have hb':w'.heap[mb]? = some (jC Go.Cu.smv Go.Cu.smv (Go.Cu.shM x lo hi (Go.Cu.mostS ((S.length:Int)-1-(S.length:Int) / 2) lo S)) (Go.Cu.MS x lo hi (Go.Cu.endK x)).2):=h4 _ _ h8
   have hlt:mb<w'.heap.size:=(Array.getElem?_eq_some_iff.1 hb').1
   have hge:w.heap.size≤mb:=by
    have:w.heap[mb]? = none:=h7
    simpa using this
   have hend:=Go.Cu.MS_end (x:=x) (lo:=lo) (hi:=hi) (fun h=>a10.resolve_left (fun h'=>h' h))
   have hok:=Go.Cu.MS_ok x lo hi (Go.Cu.endK x)
   refine R.alloc (al:=⟨.o (.m _),fun id=>.x (.o (.m id))⟩) ⟨h2,rfl,fun id hid=>⟨mb,0,.nilFunc,fun _=>⟨hge,hlt⟩,fun h=>⟨_,_,by rw[qJ]; exact hb',?_⟩,⟨.inl rfl,by rw[qJ]⟩⟩⟩ hq
   unfold Go.Cu.shM
   rw[hend]
   refine⟨ents_ok _,?_,?_⟩
   ·rw[List.map_map]
    have:=hok.borns
    rw[hend]at this
    exact this.sublist (List.filter_sublist.map _)
   ·intro en hen
    obtain⟨e1,he1,rfl⟩:=List.mem_map.1 hen
    have:=hok.lt e1 (by rw[hend]; exact(List.mem_filter.1 he1).1)
    exact this
  | [],u2=>exact u2.elim
  | [_],u2=>exact u2.2.elim
  | [_,_],u2=>exact u2.2.2.elim
  | _::_::_::_::_,u2=>exact u2.2.2.2.elim
 | [],ha=>exact ha.elim
 | [_],ha=>exact ha.2.elim
 | _::_::_::_,ha=>exact ha.2.2.elim
end Go.Ev
namespace Go.Ev
noncomputable def O2 (f:FuncId):Option Orc:=bif Nat.beq f 268 then some orSheets else O1 f
theorem oc2 (w0:World):OcOk w0 O2:=by
 intro f o h
 unfold O2 at h
 cases c:Nat.beq f 268 with
 | true=>
  rw[c]at h
  obtain rfl:=Nat.eq_of_beq_eq_true c
  cases h
  exact @sheets_ok w0
 | false=>rw[c]at h; exact oc1 w0 f o h
end Go.Ev
end
section
namespace Go.Proofs.YtmdcedioddchfaaGreatDoor.D
open Go.Lw
theorem tk1:tkB Tryz.prog 1=some (false,1):=by kernel_rfl
theorem z1:zx Tryz.prog 1=some Go.Value.nilFunc:=by kernel_rfl
theorem tk2:tkB Tryz.prog 2=some (false,1):=by kernel_rfl
theorem z2:zx Tryz.prog 2=some (Go.Value.int Go.IntKind.i64 0):=by kernel_rfl
theorem rw2:rowB Tryz.prog 2=some ((Go.Value.int Go.IntKind.i64 0),1,8):=by kernel_rfl
theorem tk3:tkB Tryz.prog 3=some (false,1):=by kernel_rfl
theorem z3:zx Tryz.prog 3=some (Go.Value.int Go.IntKind.i64 0):=by kernel_rfl
theorem rw3:rowB Tryz.prog 3=some ((Go.Value.int Go.IntKind.i64 0),1,8):=by kernel_rfl
theorem z4:zx Tryz.prog 4=some (Go.Value.bool Bool.false):=by kernel_rfl
theorem z5:zx Tryz.prog 5=some (Go.Value.int Go.IntKind.u8 0):=by kernel_rfl
theorem z9:zx Tryz.prog 9=some (Go.Value.string (ByteArray.mk #[])):=by kernel_rfl
theorem z20:zx Tryz.prog 20=some Go.Value.nilIface:=by kernel_rfl
theorem z21:zx Tryz.prog 21=some (Go.Value.int Go.IntKind.i32 0):=by kernel_rfl
theorem qH:tkB Tryz.prog 22=some (false,1):=by kernel_rfl
theorem qR:tkB Tryz.prog 24=some (true,2):=by kernel_rfl
theorem zI:foB Tryz.prog 24 0=some 0:=by kernel_rfl
theorem zB:foB Tryz.prog 24 1=some 1:=by kernel_rfl
theorem tk25:tkB Tryz.prog 25=some (false,1):=by kernel_rfl
theorem z31:zx Tryz.prog 31=some Go.Value.nilFunc:=by kernel_rfl
theorem tk32:tkB Tryz.prog 32=some (false,1):=by kernel_rfl
theorem z32:zx Tryz.prog 32=some (Go.Value.slice Option.none 0 0):=by kernel_rfl
theorem jk:tkB Tryz.prog 36=some (false,1):=by kernel_rfl
theorem tk37:tkB Tryz.prog 37=some (false,1):=by kernel_rfl
theorem z37:zx Tryz.prog 37=some (Go.Value.slice Option.none 0 0):=by kernel_rfl
theorem jR:tkB Tryz.prog 39=some (true,3):=by kernel_rfl
theorem z39:zx Tryz.prog 39=some (Go.Value.agg #[(Go.Value.slice Option.none 0 0),(Go.Value.slice Option.none 0 0),(Go.Value.slice Option.none 0 0)]):=by kernel_rfl
theorem qo:foB Tryz.prog 39 0=some 0:=by kernel_rfl
theorem qG:foB Tryz.prog 39 1=some 1:=by kernel_rfl
theorem qF:foB Tryz.prog 39 2=some 2:=by kernel_rfl
theorem kw:tkB Tryz.prog 41=some (true,3):=by kernel_rfl
theorem z41:zx Tryz.prog 41=some (Go.Value.agg #[(Go.Value.int Go.IntKind.i64 0),(Go.Value.int Go.IntKind.i64 0),(Go.Value.int Go.IntKind.i64 0)]):=by kernel_rfl
theorem zQ:foB Tryz.prog 41 0=some 0:=by kernel_rfl
theorem zA:foB Tryz.prog 41 1=some 1:=by kernel_rfl
theorem zT:foB Tryz.prog 41 2=some 2:=by kernel_rfl
theorem qY:tkB Tryz.prog 43=some (true,2):=by kernel_rfl
theorem z43:zx Tryz.prog 43=some (Go.Value.agg #[(Go.Value.int Go.IntKind.i64 0),(Go.Value.int Go.IntKind.i64 0)]):=by kernel_rfl
theorem rw43:rowB Tryz.prog 43=some ((Go.Value.agg #[(Go.Value.int Go.IntKind.i64 0),(Go.Value.int Go.IntKind.i64 0)]),2,16):=by kernel_rfl
theorem qW:foB Tryz.prog 43 0=some 0:=by kernel_rfl
theorem qm:foB Tryz.prog 43 1=some 1:=by kernel_rfl
theorem tk45:tkB Tryz.prog 45=some (true,2):=by kernel_rfl
theorem z45:zx Tryz.prog 45=some (Go.Value.agg #[(Go.Value.int Go.IntKind.i64 0),(Go.Value.int Go.IntKind.i64 0)]):=by kernel_rfl
theorem rw45:rowB Tryz.prog 45=some ((Go.Value.agg #[(Go.Value.int Go.IntKind.i64 0),(Go.Value.int Go.IntKind.i64 0)]),2,16):=by kernel_rfl
theorem jV:foB Tryz.prog 45 0=some 0:=by kernel_rfl
theorem fo45_1:foB Tryz.prog 45 1=some 1:=by kernel_rfl
theorem z46:zx Tryz.prog 46=some Go.Value.nilFunc:=by kernel_rfl
theorem z51:zx Tryz.prog 51=some Go.Value.nilFunc:=by kernel_rfl
theorem qD:tkB Tryz.prog 52=some (false,1):=by kernel_rfl
theorem z52:zx Tryz.prog 52=some (Go.Value.pointer Option.none):=by kernel_rfl
theorem fo59_0:foB Tryz.prog 59 0=some 0:=by kernel_rfl
theorem jU:foB Tryz.prog 59 1=some 2:=by kernel_rfl
theorem qK:foB Tryz.prog 59 2=some 3:=by kernel_rfl
theorem jf:foB Tryz.prog 59 3=some 28:=by kernel_rfl
theorem je:foB Tryz.prog 59 4=some 53:=by kernel_rfl
theorem tk63:tkB Tryz.prog 63=some (false,1):=by kernel_rfl
theorem tk68:tkB Tryz.prog 68=some (true,5):=by kernel_rfl
theorem z68:zx Tryz.prog 68=some (Go.Value.agg #[(Go.Value.int Go.IntKind.i64 0),(Go.Value.int Go.IntKind.i64 0),(Go.Value.int Go.IntKind.i64 0),(Go.Value.int Go.IntKind.i64 0),(Go.Value.int Go.IntKind.i64 0)]):=by kernel_rfl
theorem z70:zx Tryz.prog 70=some Go.Value.nilFunc:=by kernel_rfl
theorem z72:zx Tryz.prog 72=some Go.Value.nilFunc:=by kernel_rfl
theorem z75:zx Tryz.prog 75=some (Go.Value.slice Option.none 0 0):=by kernel_rfl
theorem z76:zx Tryz.prog 76=some Go.Value.nilFunc:=by kernel_rfl
theorem tk96:tkB Tryz.prog 96=some (false,1):=by kernel_rfl
theorem z96:zx Tryz.prog 96=some (Go.Value.map Option.none):=by kernel_rfl
theorem tk99:tkB Tryz.prog 99=some (true,2):=by kernel_rfl
theorem z99:zx Tryz.prog 99=some (Go.Value.agg #[(Go.Value.int Go.IntKind.i64 0),(Go.Value.int Go.IntKind.i64 0)]):=by kernel_rfl
theorem fo99_1:foB Tryz.prog 99 1=some 1:=by kernel_rfl
theorem tk105:tkB Tryz.prog 105=some (true,8):=by kernel_rfl
theorem z105:zx Tryz.prog 105=some (Go.Value.agg #[(Go.Value.slice Option.none 0 0),(Go.Value.slice Option.none 0 0),(Go.Value.slice Option.none 0 0),(Go.Value.int Go.IntKind.i64 0),(Go.Value.int Go.IntKind.i64 0),(Go.Value.int Go.IntKind.i64 0),(Go.Value.int Go.IntKind.i64 0),(Go.Value.int Go.IntKind.i64 0)]):=by kernel_rfl
theorem qC:foB Tryz.prog 105 0=some 0:=by kernel_rfl
theorem jm:foB Tryz.prog 105 1=some 3:=by kernel_rfl
theorem z116:zx Tryz.prog 116=some Go.Value.nilFunc:=by kernel_rfl
theorem z119:zx Tryz.prog 119=some Go.Value.nilFunc:=by kernel_rfl
theorem z124:zx Tryz.prog 124=some Go.Value.nilFunc:=by kernel_rfl
theorem z127:zx Tryz.prog 127=some Go.Value.nilFunc:=by kernel_rfl
theorem tk131:tkB Tryz.prog 131=some (false,1):=by kernel_rfl
theorem z131:zx Tryz.prog 131=some Go.Value.nilFunc:=by kernel_rfl
theorem z138:zx Tryz.prog 138=some Go.Value.nilFunc:=by kernel_rfl
theorem z139:zx Tryz.prog 139=some Go.Value.nilFunc:=by kernel_rfl
theorem tk146:tkB Tryz.prog 146=some (false,1):=by kernel_rfl
theorem z146:zx Tryz.prog 146=some (Go.Value.slice Option.none 0 0):=by kernel_rfl
theorem tk148:tkB Tryz.prog 148=some (true,2):=by kernel_rfl
theorem z148:zx Tryz.prog 148=some (Go.Value.agg #[(Go.Value.int Go.IntKind.i64 0),(Go.Value.int Go.IntKind.i64 0)]):=by kernel_rfl
theorem rw148:rowB Tryz.prog 148=some ((Go.Value.agg #[(Go.Value.int Go.IntKind.i64 0),(Go.Value.int Go.IntKind.i64 0)]),2,16):=by kernel_rfl
theorem jO:foB Tryz.prog 148 0=some 0:=by kernel_rfl
theorem fo148_1:foB Tryz.prog 148 1=some 1:=by kernel_rfl
theorem xz:foB Tryz.prog 150 0=some 0:=by kernel_rfl
theorem jN:foB Tryz.prog 150 1=some 1:=by kernel_rfl
theorem tk161:tkB Tryz.prog 161=some (true,2):=by kernel_rfl
theorem z161:zx Tryz.prog 161=some (Go.Value.agg #[(Go.Value.int Go.IntKind.i64 0),(Go.Value.int Go.IntKind.i64 0)]):=by kernel_rfl
theorem fo161_0:foB Tryz.prog 161 0=some 0:=by kernel_rfl
theorem fo161_1:foB Tryz.prog 161 1=some 1:=by kernel_rfl
theorem z164:zx Tryz.prog 164=some Go.Value.nilFunc:=by kernel_rfl
theorem qM:foB Tryz.prog 231 0=some 0:=by kernel_rfl
theorem ok10:zy Tryz.prog 10:=zu Tryz.func10 (by kernel_rfl) (by kernel_rfl)
theorem ok11:zy Tryz.prog 11:=zu Tryz.func11 (by kernel_rfl) (by kernel_rfl)
theorem ok12:zy Tryz.prog 12:=zu Tryz.func12 (by kernel_rfl) (by kernel_rfl)
theorem ok13:zy Tryz.prog 13:=zu Tryz.func13 (by kernel_rfl) (by kernel_rfl)
theorem ok20:zy Tryz.prog 20:=zu Tryz.func20 (by kernel_rfl) (by kernel_rfl)
theorem ok21:zy Tryz.prog 21:=zu Tryz.func21 (by kernel_rfl) (by kernel_rfl)
theorem ok22:zy Tryz.prog 22:=zu Tryz.func22 (by kernel_rfl) (by kernel_rfl)
theorem ok23:zy Tryz.prog 23:=zu Tryz.func23 (by kernel_rfl) (by kernel_rfl)
theorem ok24:zy Tryz.prog 24:=zu Tryz.func24 (by kernel_rfl) (by kernel_rfl)
theorem ok25:zy Tryz.prog 25:=zu Tryz.func25 (by kernel_rfl) (by kernel_rfl)
theorem ok49:zy Tryz.prog 49:=zu Tryz.func49 (by kernel_rfl) (by kernel_rfl)
theorem ok50:zy Tryz.prog 50:=zu Tryz.func50 (by kernel_rfl) (by kernel_rfl)
theorem ok51:zy Tryz.prog 51:=zu Tryz.func51 (by kernel_rfl) (by kernel_rfl)
theorem ok52:zy Tryz.prog 52:=zu Tryz.func52 (by kernel_rfl) (by kernel_rfl)
theorem ok53:zy Tryz.prog 53:=zu Tryz.func53 (by kernel_rfl) (by kernel_rfl)
theorem ok54:zy Tryz.prog 54:=zu Tryz.func54 (by kernel_rfl) (by kernel_rfl)
theorem ok55:zy Tryz.prog 55:=zu Tryz.func55 (by kernel_rfl) (by kernel_rfl)
theorem ok56:zy Tryz.prog 56:=zu Tryz.func56 (by kernel_rfl) (by kernel_rfl)
theorem ok83:zy Tryz.prog 83:=zu Tryz.func83 (by kernel_rfl) (by kernel_rfl)
theorem ok84:zy Tryz.prog 84:=zu Tryz.func84 (by kernel_rfl) (by kernel_rfl)
theorem ok100:zy Tryz.prog 100:=zu Tryz.func100 (by kernel_rfl) (by kernel_rfl)
theorem ok101:zy Tryz.prog 101:=zu Tryz.func101 (by kernel_rfl) (by kernel_rfl)
theorem ok102:zy Tryz.prog 102:=zu Tryz.func102 (by kernel_rfl) (by kernel_rfl)
theorem ok103:zy Tryz.prog 103:=zu Tryz.func103 (by kernel_rfl) (by kernel_rfl)
theorem ok104:zy Tryz.prog 104:=zu Tryz.func104 (by kernel_rfl) (by kernel_rfl)
theorem ok150:zy Tryz.prog 150:=zu Tryz.func150 (by kernel_rfl) (by kernel_rfl)
theorem ok155:zy Tryz.prog 155:=zu Tryz.func155 (by kernel_rfl) (by kernel_rfl)
theorem ok216:zy Tryz.prog 216:=zu Tryz.func216 (by kernel_rfl) (by kernel_rfl)
theorem jZ (x1:Int) (w:World):(Instr.buildSlice 36 1 #[(0,(.int .i64 x1))]).run Tryz.prog w=.ok (.slice (some ⟨w.heap.size,0,none⟩) 1 1) (w.alloc (LC [(.int .i64 x1)] 2)):=by kernel_rfl
theorem bd45_0_1 (x1:Int) (x2:Int) (w:World):(Instr.build 45 #[(0,(.int .i64 x1)),(1,(.int .i64 x2))]).run Tryz.prog w=.ok (.agg #[(.int .i64 x1),(.int .i64 x2)]) w:=by kernel_rfl
theorem bs37_1_0 (x1:Int) (x2:Int) (w:World):(Instr.buildSlice 37 1 #[(0,(.agg #[(.int .i64 x1),(.int .i64 x2)]))]).run Tryz.prog w=.ok (.slice (some ⟨w.heap.size,0,none⟩) 1 1) (w.alloc (LC [(.int .i64 x1),(.int .i64 x2)] 45)):=by kernel_rfl
theorem bd68  (w:World):(Instr.build 68 #[]).run Tryz.prog w=.ok (.agg #[(Go.Value.int Go.IntKind.i64 0),(Go.Value.int Go.IntKind.i64 0),(Go.Value.int Go.IntKind.i64 0),(Go.Value.int Go.IntKind.i64 0),(Go.Value.int Go.IntKind.i64 0)]) w:=by kernel_rfl
theorem bs22_1_0 (x1:Int) (w:World):(Instr.buildSlice 22 1 #[(0,(.int .i64 x1))]).run Tryz.prog w=.ok (.slice (some ⟨w.heap.size,0,none⟩) 1 1) (w.alloc (LC [(.int .i64 x1)] 3)):=by kernel_rfl
theorem bd99_0_1 (x1:Int) (x2:Int) (w:World):(Instr.build 99 #[(0,(.int .i64 x1)),(1,(.int .i64 x2))]).run Tryz.prog w=.ok (.agg #[(.int .i64 x1),(.int .i64 x2)]) w:=by kernel_rfl
theorem bd105_0 (x1:Option Addr) (x2:Nat) (x3:Nat) (x4:Option Addr) (x5:Nat) (x6:Nat) (x7:Option Addr) (x8:Nat) (x9:Nat) (w:World):(Instr.build 105 #[(0,(.agg #[(.slice x1 x2 x3),(.slice x4 x5 x6),(.slice x7 x8 x9)]))]).run Tryz.prog w=.ok (.agg #[(.slice x1 x2 x3),(.slice x4 x5 x6),(.slice x7 x8 x9),(Go.Value.int Go.IntKind.i64 0),(Go.Value.int Go.IntKind.i64 0),(Go.Value.int Go.IntKind.i64 0),(Go.Value.int Go.IntKind.i64 0),(Go.Value.int Go.IntKind.i64 0)]) w:=by kernel_rfl
theorem ffm:Tryz.prog.follows .mixedOrders=true:=by kernel_rfl
end Go.Proofs.YtmdcedioddchfaaGreatDoor.D
end
section
set_option linter.unusedVariables false
set_option linter.unusedSimpArgs false
namespace Go.Proofs.YtmdcedioddchfaaGreatDoor.D
open Go.Lw Go.RowKit
theorem eqS68 (x1:Int) (x2:Int) (x3:Int) (x4:Int) (x5:Int) (x6:Int) (x7:Int) (x8:Int) (x9:Int) (x10:Int):EqS Tryz.prog 68 [(.int .i64 x1),(.int .i64 x2),(.int .i64 x3),(.int .i64 x4),(.int .i64 x5)] [(.int .i64 x6),(.int .i64 x7),(.int .i64 x8),(.int .i64 x9),(.int .i64 x10)] (decide (x1=x6∧x2=x7∧x3=x8∧x4=x9∧x5=x10)):=by
 refine⟨by first | exact Tryz.eqGuardType68 | kernel_rfl,fun w=>?_⟩
 have u2:=Tryz.underlying2
 have a2:=Tryz.isAgg2
 have z2:=Tryz.sizeOf2
 rw[show(10000:Nat)=9999+1 from rfl,Op.equalIn]
 simp only[Sem.run_bind,run_underlying Tryz.underlying68,Result.andThen_ok]
 simp only[Std.Legacy.Range.forIn_eq_forIn_range',Std.Legacy.Range.size,Nat.sub_zero,Nat.add_sub_cancel,Nat.div_one,List.range'_succ,List.range'_zero,List.forIn_cons,List.forIn_nil]
 go_simp
 by_cases h0:x1=x6<;>by_cases h1:x2=x7<;>by_cases h2:x3=x8<;>by_cases h3:x4=x9<;>by_cases h4:x5=x10<;>simp[*]
theorem eqS99 (x1:Int) (x2:Int) (x3:Int) (x4:Int):EqS Tryz.prog 99 [(.int .i64 x1),(.int .i64 x2)] [(.int .i64 x3),(.int .i64 x4)] (decide (x1=x3∧x2=x4)):=by
 refine⟨by first | exact Tryz.eqGuardType99 | kernel_rfl,fun w=>?_⟩
 have u3:=Tryz.underlying3
 have a3:=Tryz.isAgg3
 have z3:=Tryz.sizeOf3
 have hS:Tryz.prog.underlying 99=some (.struct (Tryz.prog.fieldsOf 99)):=by kernel_rfl
 have hp:Tryz.prog.stoodInHeld 99=false:=by kernel_rfl
 rw[show(10000:Nat)=9999+1 from rfl,run_equalIn_agg w 9999 99 _ _ hS hp]
 simp only[Program.fieldsOf,Tryz.underlying99]
 go_simp
 by_cases h0:x1=x3<;>by_cases h1:x2=x4<;>simp[*]
end Go.Proofs.YtmdcedioddchfaaGreatDoor.D
end
section
set_option linter.unusedVariables false
namespace Go.Proofs.YtmdcedioddchfaaGreatDoor.D
open Go.Lw Go.Ps Go.Gr Go.RowKit
open Go.Gl (iv ivs qy)
abbrev odv (o:Od):Value:=.agg #[iv o.g,iv o.m]
theorem pindex_i (g:FuncId) (cap:List Value) (p:Int→Bool) (V:View) (vl:Value) (l:List Int) (hs:SlI V vl l) (hok:zy Tryz.prog g)
  (hc:∀ x,x∈l→Fnc Tryz.prog g ([]++[iv x]++cap) V (fun v _=>v=.bool (p x))) :
  Fnc Tryz.prog 104 [vl,.func (.func g) #[] cap.toArray] V fun v _=>∃ j:Int,v=iv j∧(decide (0≤j))=l.any p:=by
 have hlen:=hs.qV
 refine qa Tryz.func104 rfl Tryz.ntmps104 (Nat.le_of_ble_eq_true rfl) ?_
 intro w0 hw0
 refine At.nrm ?_
 refine At.zh (.q 0 .done) ?_
 refine AtT.zg ?_
 refine AtT.done ?_
 refine At.nrm ?_
 refine At.zh (.q 0 (.q 1 (.q 2 .done))) ?_
 refine AtT.zf ?_
 first | refine AtT.zW Tryz.underlying36 ?_ | refine AtT.zX Tryz.underlying36 ?_
 refine AtT.zf ?_
 refine AtT.done ?_
 refine At.nrm ?_
 refine At.lp (ι:=Nat) (KS:=fun k=>[(0,vl),(1,.func (.func g) #[] cap.toArray),(4,iv 0),(7,iv l.length),(8,iv k)]) (OS:=fun _=>[])
  (VS:=fun k V'=>V'=V∧k≤l.length∧(l.take k).any p=false) (μ:=fun k=>l.length-k) 0 ?_ ?_ ?_ ?_
 ·exact⟨rfl,rfl,rfl,rfl,rfl,trivial⟩
 ·exact Pt.zC
 ·exact⟨rfl,Nat.zero_le _,rfl⟩
 ·rintro k V' ks' O' ⟨rfl,hkl,hany⟩ hk hO hl
  subst hk hO
  refine At.nrm ?_
  refine At.zh (.q 0 .done) ?_
  refine AtT.qd ?_
  refine AtT.done ?_
  refine At.nrm ?_
  refine At.qb rfl (fun hp=>?_) (fun hp=>?_)
  ·refine At.nrm ?_
   refine At.zh (.q 0 (.q 1 .done)) ?_
   refine AtT.zf ?_
   refine AtT.zg ?_
   refine AtT.done ?_
   refine At.nrm ?_
   refine At.zh (.q 0 (.q 1 (.q 2 (.q 3 (.q 4 (.n false 5 .done)))))) ?_
   refine AtT.zf ?_
   refine AtT.zf ?_
   refine AtT.zf ?_
   refine AtT.qj Tryz.underlying36 tk2 ?_
   intro p14 e14 he14 hc14
   first | refine AtT.zn tk2 ?_ | refine AtT.zq tk2 ?_
   refine AtT.kcallV rfl rfl rfl hok (hc e14 (List.mem_of_getElem? he14)) ?_
   rintro _ rfl
   refine AtT.done ?_
   refine At.nrm ?_
   have hee:l[k]? = some e14:=by simpa using he14
   have hnx:l.take (k+1)=l.take k++[e14]:=by
    rw[List.take_succ_eq_append_getElem (by omega)]; congr 1; rw[List.getElem?_eq_getElem (by omega)]at hee; simpa using hee
   refine At.cond rfl (fun hb=>?_) (fun hb=>?_)
   ·refine At.nrm ?_
    refine At.zh (.q 0 (.q 1 .done)) ?_
    refine AtT.zf ?_
    refine AtT.zg ?_
    refine AtT.done ?_
    refine At.nrm ?_
    refine At.qf rfl (.tmp rfl) ⟨k,rfl,?_⟩
    have:l.any p=true:=List.any_eq_true.2 ⟨e14,List.mem_of_getElem? hee,hb⟩
    rw[this]; simp
   ·refine At.nrm ?_
    refine At.zh (.q 0 (.q 1 .done)) ?_
    first | refine AtT.ql ?_ | refine AtT.zP ?_
    refine AtT.zf ?_
    refine AtT.done ?_
    refine At.nrm ?_
    refine At.round (k+1) ?_ ?_ ?_ ?_
    ·show l.length-(k+1)<l.length-k; omega
    ·refine⟨rfl,by omega,?_⟩
     rw[hnx,List.any_append,hany]; simp[hb]
    ·exact⟨rfl,rfl,rfl,rfl,rfl,trivial⟩
    ·exact Pt.zC
  ·have hkk:k=l.length:=by omega
   subst hkk
   rw[List.take_length]at hany
   refine At.nrm ?_
   refine At.zh (.q 0 .done) ?_
   refine AtT.zg ?_
   refine AtT.done ?_
   refine At.nrm ?_
   refine At.qf rfl (.tmp rfl) ⟨-1,rfl,?_⟩
   rw[hany]; rfl
theorem pcontains_i (g:FuncId) (cap:List Value) (p:Int→Bool) (V:View) (vl:Value) (l:List Int) (hs:SlI V vl l) (hok:zy Tryz.prog g)
  (hc:∀ x,x∈l→Fnc Tryz.prog g ([]++[iv x]++cap) V (fun v _=>v=.bool (p x))) :
  Fnc Tryz.prog 55 [vl,.func (.func g) #[] cap.toArray] V fun v _=>v=.bool (l.any p):=by
 refine qa Tryz.func55 rfl Tryz.ntmps55 (Nat.le_of_ble_eq_true rfl) ?_
 intro w0 hw0
 refine At.nrm ?_
 refine At.zh (.q 0 .done) ?_
 refine AtT.zg ?_
 refine AtT.done ?_
 refine At.nrm ?_
 refine At.zh (.q 0 (.q 1 (.n false 2 (.q 3 (.q 4 .done))))) ?_
 refine AtT.zf ?_
 refine AtT.zf ?_
 refine AtT.zR rfl rfl ok104 (pindex_i g cap p V vl l hs hok hc) ?_
 rintro _ ⟨j,rfl,hj⟩
 refine AtT.kgeq ?_
 refine AtT.zg ?_
 refine AtT.done ?_
 refine At.nrm ?_
 refine At.qf rfl (.tmp rfl) ?_
 rw[hj]
theorem within1_f (lo hi y:Int) (V:View) (q1 q2:Addr) (h1:Cells V q1 [iv lo]) (h2:Cells V q2 [iv hi]):Fnc Tryz.prog 56 ([]++[iv y]++[.pointer (some q1),.pointer (some q2)]) V fun r _=>r=.bool (decide (y<lo∨hi<y)):=by
 refine qa Tryz.func56 rfl Tryz.ntmps56 (Nat.le_of_ble_eq_true rfl) ?_
 intro w0 hw0
 refine At.nrm ?_
 refine At.zh (.q 0 .done) ?_
 refine AtT.zg ?_
 refine AtT.done ?_
 refine At.nrm ?_
 by_cases h:y<lo
 ·refine At.zh (.q 0 (.q 1 (.q 2 (.q 3 (.q 4 (.q 5 (.q 6 (.q 7 (.q 8 .done))))))))) ?_
  refine AtT.zf ?_
  first | refine AtT.zn tk2 ?_ | refine AtT.zq tk2 ?_
  refine AtT.qd ?_
  refine AtT.kR (d:=7) rfl (h) ?_
  refine AtT.zf ?_
  all_goals (first | refine AtT.kL 8 ?_ | refine AtT.zF (d:=8) rfl (fun hg8=>?_) (fun hg8=>?_) | refine AtT.zD (d:=8) rfl (fun hg8=>?_) (fun hg8=>?_))
  all_goals first|refine AtT.zi ?_|refine AtT.ze ?_|(refine AtT.zf ?_)
  all_goals first|refine AtT.zi ?_|refine AtT.ze ?_|(first | refine AtT.zn tk2 ?_ | refine AtT.zq tk2 ?_)
  all_goals first|refine AtT.zi ?_|refine AtT.ze ?_|(refine AtT.qA ?_)
  all_goals (refine AtT.zH ?_)
  all_goals (refine AtT.zg ?_)
  all_goals refine AtT.done ?_
  all_goals (refine At.nrm ?_)
  all_goals (exact At.qf rfl (.tmp rfl) (by rw[decide_eq_true (Or.inl h)]; rfl))
 ·refine At.zh (.q 0 (.q 1 (.q 2 (.q 3 (.q 4 (.q 5 (.q 6 (.q 7 (.q 8 .done))))))))) ?_
  refine AtT.zf ?_
  first | refine AtT.zn tk2 ?_ | refine AtT.zq tk2 ?_
  refine AtT.qd ?_
  refine AtT.qx (d:=7) rfl (h) ?_
  refine AtT.zf ?_
  all_goals (first | refine AtT.kL 8 ?_ | refine AtT.zF (d:=8) rfl (fun hg8=>?_) (fun hg8=>?_) | refine AtT.zD (d:=8) rfl (fun hg8=>?_) (fun hg8=>?_))
  all_goals first|refine AtT.zi ?_|refine AtT.ze ?_|(refine AtT.zf ?_)
  all_goals first|refine AtT.zi ?_|refine AtT.ze ?_|(first | refine AtT.zn tk2 ?_ | refine AtT.zq tk2 ?_)
  all_goals first|refine AtT.zi ?_|refine AtT.ze ?_|(refine AtT.qA ?_)
  all_goals (refine AtT.zH ?_)
  all_goals (refine AtT.zg ?_)
  all_goals refine AtT.done ?_
  all_goals (refine At.nrm ?_)
  all_goals (exact At.qf rfl (.tmp rfl) (congrArg Value.bool (decide_eq_decide.2 ⟨fun h'=>.inr h',fun h'=>h'.resolve_left h⟩)))
theorem jJ (lo hi:Int) (l:List Int) (hl:∀ x∈l,lo≤x∧x≤hi) (V:View) (v:Value) (hs:SlI V v l):Fnc Tryz.prog 24 [iv lo,iv hi,v] V fun r _=>r=.bool true:=by
 refine qa Tryz.func24 rfl Tryz.ntmps24 (Nat.le_of_ble_eq_true rfl) ?_
 intro w0 hw0
 refine At.nrm ?_
 refine At.zh (.n false 0 (.n false 1 (.q 2 .done))) ?_
 refine AtT.jA ?_
 intro b3
 refine AtT.jA ?_
 intro b4
 refine AtT.zg ?_
 refine AtT.done ?_
 refine At.nrm ?_
 refine At.zh (.q 0 (.q 1 (.n false 2 (.q 3 (.q 4 .done))))) ?_
 refine AtT.zf ?_
 refine AtT.kfn ?_
 refine AtT.kcallL rfl rfl ok55 (fun VL hVL hOL=>pcontains_i 56 [.pointer (some ⟨b3,0,none⟩),.pointer (some ⟨b4,0,none⟩)] (fun y=>decide (y<lo∨hi<y)) VL _ l (hs.le hVL) ok56 (fun y hy=>within1_f lo hi y VL _ _ (qp (hOL b3 _ (List.mem_cons_of_mem _ (List.mem_cons_self ..)))) (qp (hOL b4 _ (List.mem_cons_self ..))))) ?_
 rintro _ rfl
 refine AtT.knot ?_
 refine AtT.zg ?_
 refine AtT.done ?_
 refine At.nrm ?_
 refine At.qf rfl (.tmp rfl) ?_
 have:(l.any fun y=>decide (y<lo∨hi<y))=false:=List.any_eq_false.2 fun y hy=>by have:=hl y hy; simp only[decide_eq_true_eq]; omega
 rw[this]; rfl
theorem stray_f (o:Od) (n:Int) (ho:0≤o.g∧o.g<n∧0≤o.m∧o.m≤20) (V:View) (q:Addr) (hq:Cells V q [iv (n-1)]):Fnc Tryz.prog 53 ([]++[odv o]++[.pointer (some q)]) V fun r _=>r=.bool false:=by
 refine qa Tryz.func53 rfl Tryz.ntmps53 (Nat.le_of_ble_eq_true rfl) ?_
 intro w0 hw0
 refine At.nrm ?_
 refine At.zh (.n false 0 (.q 1 .done)) ?_
 refine AtT.jA ?_
 intro b2
 refine AtT.zg ?_
 refine AtT.done ?_
 refine At.nrm ?_
 refine At.zh (.q 0 (.q 1 (.q 2 (.n false 3 (.n false 4 (.q 5 (.q 6 (.q 7 (.q 8 (.n false 9 (.n false 10 (.q 11 (.q 12 (.q 13 .done)))))))))))))) ?_
 first | refine AtT.zn tk2 ?_ | refine AtT.zq tk2 ?_
 first | refine AtT.zk jV ?_ | with_reducible refine AtT.zm jV ?_ | refine AtT.zo jV ?_
 first | refine AtT.zn tk3 ?_ | refine AtT.zq tk3 ?_
 refine AtT.qz (jZ _) ?_
 intro q7 V7 hV7 hq7
 have g7:Le V V7:=by first | exact hV7 | exact Le.trans (by assumption) hV7
 refine AtT.zR rfl rfl ok24 (jJ 0 (n-1) [o.g] (fun x hx=>by rw[List.mem_singleton]at hx; omega) _ _ (Sl.lit hq7 rfl (by simp))) ?_
 rintro _ rfl
 refine AtT.knot ?_
 refine AtT.setB (d:=9) rfl ((show(!true)=false from rfl)) ?_
 refine AtT.zf ?_
 all_goals (first | refine AtT.kL 10 ?_ | refine AtT.zF (d:=10) rfl (fun hg10=>?_) (fun hg10=>?_) | refine AtT.zD (d:=10) rfl (fun hg10=>?_) (fun hg10=>?_))
 all_goals first|refine AtT.zi ?_|refine AtT.ze ?_|(first | refine AtT.zk fo45_1 ?_ | with_reducible refine AtT.zm fo45_1 ?_ | refine AtT.zo fo45_1 ?_)
 all_goals first|refine AtT.zi ?_|refine AtT.ze ?_|(first | refine AtT.zn tk2 ?_ | refine AtT.zq tk2 ?_)
 all_goals first|refine AtT.jq ?_|refine AtT.qP ?_|((refine AtT.qz (jZ _) ?_);(intro q13 V13 hV13 hq13);(have g13:Le V V13:=by first | exact hV13 | exact Le.trans (by assumption) hV13))
 all_goals first|refine AtT.jq ?_|refine AtT.qP ?_|((refine AtT.zR rfl rfl ok24 (jJ 0 20 [o.m] (fun x hx=>by rw[List.mem_singleton]at hx; omega) _ _ (Sl.lit hq13 rfl (by simp))) ?_);(rintro _ rfl))
 all_goals first|refine AtT.zi ?_|refine AtT.ze ?_|(refine AtT.knot ?_)
 all_goals (refine AtT.setB (d:=15) rfl ((show(!true)=false from rfl)) ?_)
 all_goals (refine AtT.zH ?_)
 all_goals (refine AtT.zg ?_)
 all_goals refine AtT.done ?_
 all_goals (refine At.nrm ?_)
 exact At.qf rfl (.tmp rfl) rfl
theorem oindex_f (os:List Od) (n:Int) (ho:∀ o∈os,0≤o.g∧o.g<n∧0≤o.m∧o.m≤20) (V:View) (q:Addr) (hq:Cells V q [iv (n-1)]) (vl:Value) (hs:Sl V ode 2 vl os):Fnc Tryz.prog 103 [vl,.func (.func 53) #[] #[.pointer (some q)]] V fun v _=>v=iv (-1):=by
 have hlen:=hs.qV
 refine qa Tryz.func103 rfl Tryz.ntmps103 (Nat.le_of_ble_eq_true rfl) ?_
 intro w0 hw0
 refine At.nrm ?_
 refine At.zh (.q 0 .done) ?_
 refine AtT.zg ?_
 refine AtT.done ?_
 refine At.nrm ?_
 refine At.zh (.q 0 (.q 1 (.q 2 .done))) ?_
 refine AtT.zf ?_
 first | refine AtT.zW Tryz.underlying37 ?_ | refine AtT.zX Tryz.underlying37 ?_
 refine AtT.zf ?_
 refine AtT.done ?_
 refine At.nrm ?_
 refine At.lp (ι:=Nat) (KS:=fun k=>[(0,vl),(1,.func (.func 53) #[] #[.pointer (some q)]),(4,iv 0),(7,iv os.length),(8,iv k)]) (OS:=fun _=>[])
  (VS:=fun k V'=>V'=V∧k≤os.length) (μ:=fun k=>os.length-k) 0 ?_ ?_ ?_ ?_
 ·exact⟨rfl,rfl,rfl,rfl,rfl,trivial⟩
 ·exact Pt.zC
 ·exact⟨rfl,Nat.zero_le _⟩
 rintro k V' ks' O' ⟨rfl,hkl⟩ hk hO hl
 subst hk hO
 refine At.nrm ?_
 refine At.zh (.q 0 .done) ?_
 refine AtT.qd ?_
 refine AtT.done ?_
 refine At.nrm ?_
 refine At.qb rfl (fun hp=>?_) (fun hp=>?_)
 ·refine At.nrm ?_
  refine At.zh (.q 0 (.q 1 .done)) ?_
  refine AtT.zf ?_
  refine AtT.zg ?_
  refine AtT.done ?_
  refine At.nrm ?_
  refine At.zh (.q 0 (.q 1 (.q 2 (.q 3 (.q 4 (.n false 5 .done)))))) ?_
  refine AtT.zf ?_
  refine AtT.zf ?_
  refine AtT.zf ?_
  refine AtT.qj Tryz.underlying37 tk45 ?_
  intro p14 e14 he14 hc14
  first | refine AtT.zL tk45 ?_ | refine AtT.zS tk45 ?_ | refine AtT.zK tk45 ?_
  refine AtT.kcallV rfl rfl rfl ok53 (stray_f e14 n (ho e14 (List.mem_of_getElem? he14)) _ q hq) ?_
  rintro _ rfl
  refine AtT.done ?_
  refine At.nrm ?_
  refine At.qh rfl rfl ?_
  refine At.nrm ?_
  refine At.zh (.q 0 (.q 1 .done)) ?_
  first | refine AtT.ql ?_ | refine AtT.zP ?_
  refine AtT.zf ?_
  refine AtT.done ?_
  refine At.nrm ?_
  refine At.round (k+1) ?_ ?_ ?_ ?_
  ·show os.length-(k+1)<os.length-k; omega
  ·exact⟨rfl,by omega⟩
  ·exact⟨rfl,rfl,rfl,rfl,rfl,trivial⟩
  ·exact Pt.zC
 ·refine At.nrm ?_
  refine At.zh (.q 0 .done) ?_
  refine AtT.zg ?_
  refine AtT.done ?_
  refine At.nrm ?_
  exact At.qf rfl (.tmp rfl) rfl
theorem ocont_f (os:List Od) (n:Int) (ho:∀ o∈os,0≤o.g∧o.g<n∧0≤o.m∧o.m≤20) (V:View) (q:Addr) (hq:Cells V q [iv (n-1)]) (vl:Value) (hs:Sl V ode 2 vl os):Fnc Tryz.prog 54 [vl,.func (.func 53) #[] #[.pointer (some q)]] V fun v _=>v=.bool false:=by
 refine qa Tryz.func54 rfl Tryz.ntmps54 (Nat.le_of_ble_eq_true rfl) ?_
 intro w0 hw0
 refine At.nrm ?_
 refine At.zh (.q 0 .done) ?_
 refine AtT.zg ?_
 refine AtT.done ?_
 refine At.nrm ?_
 refine At.zh (.q 0 (.q 1 (.n false 2 (.q 3 (.q 4 .done))))) ?_
 refine AtT.zf ?_
 refine AtT.zf ?_
 refine AtT.zR rfl rfl ok103 (oindex_f os n ho _ q hq _ hs) ?_
 rintro _ rfl
 refine AtT.kgeq ?_
 refine AtT.zg ?_
 refine AtT.done ?_
 refine At.nrm ?_
 exact At.qf rfl (.tmp rfl) rfl
end Go.Proofs.YtmdcedioddchfaaGreatDoor.D
end
section
set_option linter.unusedVariables false
set_option linter.unusedSimpArgs false
namespace Go.Lw
open Go.RowKit
section
variable {cx:Cx} {n:Nat} {ks:List (Nat×Value)} {O O' R R':List Own} {V:View} {P:Program} {ops:Array Oper} {Qn:Act→World→Prop} {t:Tr} {i d:Nat} {T:TypeId} {pos:String} {after:Array Edge} {gd:Option (Nat×Bool)} {x y z:Operand} {u v:Value} {wr:Bool}
theorem flat_take {α:Type} {enc:α→List Value} (m:List α) (k:Nat):∃ r,flat enc m=flat enc (m.take k)++r:=⟨flat enc (m.drop k),by unfold flat; rw[←List.flatMap_append,List.take_append_drop]⟩
theorem AtT.copyAt {α:Type} {enc:α→List Value} {X Y E E':TypeId} {s b off dl c k:Nat} {ag:Bool} {m:List α} {cs xs:List Value} (ho:ops[i]? = some ⟨some d,.call ⟨.builtin .copy,#[x,y],#[X,Y]⟩,T,pos,after,gd⟩) (hg:Gd ks ops gd) (hX:P.underlying X=some (.slice E)) (hE:tkB P E=some (ag,s))
  (hx:ev ks x=some (.slice (some ⟨b,off,none⟩) dl c)) (hy:ev ks y=some v) (hv:Sl V enc s v m) (he:∀ x,(enc x).length=s) (h1:∀ x,(enc x).all Value.oneCell'=true) (hk':Nat.min m.length dl=k) (hl:off+k*s≤cs.length) (hxs:cs.take off++flat enc (m.take k)++cs.drop (off+k*s)=xs) (hup:Upd (.blk b (LC cs E')) (.blk b (LC xs E')) O O') (hn:d<n)
  (next:AtT cx n ((d,goInt k)::ks) O' V P ops Qn t):AtT cx n ks O V P ops Qn (.n true i t):=
 .x ho hg fun a w hk hm=>by
  obtain⟨R,p1,p2⟩:=hup.perm
  have hm1:=hm.perm p1
  have hkm:k≤m.length:=by rw[←hk']; exact Nat.min_le_left _ _
  have e0:(#[x,y]:Array Operand).map a.eval=#[.slice (some ⟨b,off,none⟩) dl c,v]:=by simp[hk.ev hx,hk.ev hy]
  have hfl:(flat enc (m.take k)).length=k*s:=by rw[zJ he,List.length_take,Nat.min_eq_left hkm]
  have hall:∀ u∈flat enc (m.take k),u.oneCell'=true:=by
   intro u hu
   simp only[flat,List.mem_flatMap]at hu
   obtain⟨q,_,hq⟩:=hu
   exact List.all_eq_true.1 (h1 q) u hq
  obtain⟨w',hr,hgr,hh⟩:=qi (P:=P) (flat enc (m.take k)) 0 off cs w hm1.blk (by omega) hall
  rw[Nat.add_zero,hfl,hxs]at hh
  have hload:∀ (w:World),Le V (hp w)→(Builtin.firstCells s k v).run P w=.ok (flat enc (m.take k)).toArray w:=fun w hw=>by
   obtain⟨a0,cap,rfl,h2,h3,h4,h5⟩:=hv
   cases a0 with
   | none=>
    have:m=[]:=by cases m with | nil=>rfl | cons _ _=>exact absurd (h4 (by simp)) (by simp)
    subst this
    simp[Builtin.firstCells,flat,Sem.run_pure]
   | some p=>
    have hc:Cells V p (flat enc m):=Sl.cells he ⟨some p,cap,rfl,h2,h3,h4,h5⟩
    obtain⟨r,hr⟩:=flat_take (enc:=enc) m k
    have hc2:Cells V p (flat enc (m.take k)):=fun j u hj=>hc j u (by rw[hr,List.getElem?_append_left (List.getElem?_eq_some_iff.1 hj).1]; exact hj)
    have:=run_loadCells_list (P:=P) w p (flat enc (m.take k)) (Cells.run hc2 hw)
    rw[hfl]at this
    simpa [Builtin.firstCells]using this
  obtain⟨a0,cap,hva,_⟩:=id hv
  have hlen:∀ w,(Builtin.lenOf v).run P w=.ok m.length w:=fun w=>by rw[hva]; rfl
  simp only[opW,execOp,resolve,e0,Sem.run_bind,Sem.run_pure,Result.andThen_ok,invoke,builtin,Builtin.copy_]
  have e1:(#[X,Y]:Array TypeId)[0]? = some X:=rfl
  have e2:(#[Value.slice (some ⟨b,off,none⟩) dl c,v]:Array Value)[0]? = some (Value.slice (some ⟨b,off,none⟩) dl c):=rfl
  have e3:(#[Value.slice (some ⟨b,off,none⟩) dl c,v]:Array Value)[1]? = some v:=rfl
  simp only[e1,e2,e3,Sem.run_bind,run_underlying hX,Result.andThen_ok,hlen,run_sizeOf hE,hk',hload w hm.view,Sem.run_pure,hr]
  exact⟨_,O',V,hk.put hn _,(hm1.set hgr hh).perm p2.symm,fun h=>(by cases h),next⟩
theorem AtT.slVH {X:TypeId} {u h:Value} {hi':Operand} (ho:ops[i]? = some ⟨some d,.slice X x none (some hi') none,T,pos,after,gd⟩) (hg:Gd ks ops gd) (hx:ev ks x=some v) (hh:ev ks hi'=some h) (hr:∀ w,(Instr.sliceAt X v none (some h) none).run P w=.ok u w) (hn:d<n)
  (next:AtT cx n ((d,u)::ks) O V P ops Qn t):AtT cx n ks O V P ops Qn (.q i t):=
 .q ho hg rfl hn (fun a w hk _=>by simp[execOp,hk.ev hx,hk.ev hh,hr,goInt,Sem.run_bind]) next
end
end Go.Lw
end
section
set_option linter.unusedVariables false
namespace Go.Proofs.YtmdcedioddchfaaGreatDoor.D
open Go.Lw Go.Ps Go.Gr Go.RowKit
open Go.Gl (iv ivs qy)
abbrev shv (s:Sp) (a1:Option Addr) (c1:Nat) (a2:Option Addr) (c2:Nat) (a3:Option Addr) (c3:Nat):Value:=.agg #[.slice a1 s.st.length c1,.slice a2 s.pr.length c2,.slice a3 s.os.length c3]
structure ShV (V:View) (s:Sp) (a1:Option Addr) (c1:Nat) (a2:Option Addr) (c2:Nat) (a3:Option Addr) (c3:Nat):Prop where
 st:SlI V (.slice a1 s.st.length c1) s.st
 pr:SlI V (.slice a2 s.pr.length c2) s.pr
 os:Sl V ode 2 (.slice a3 s.os.length c3) s.os
section
variable {s:Sp} {a1:Option Addr} {c1:Nat} {a2:Option Addr} {c2:Nat} {a3:Option Addr} {c3:Nat} {V:View}
theorem ShV.le {V':View} (h:ShV V s a1 c1 a2 c2 a3 c3) (hl:Le V V'):ShV V' s a1 c1 a2 c2 a3 c3:=⟨h.st.le hl,h.pr.le hl,h.os.le hl⟩
theorem checkShop_f (hs:SpOk s) (h:ShV V s a1 c1 a2 c2 a3 c3):Fnc Tryz.prog 23 [shv s a1 c1 a2 c2 a3 c3] V fun r _=>r=iv 0:=by
 have hn:=hs.n
 have hp:=hs.p
 have ho:=hs.o
 have hst:=h.st
 have hpr:=h.pr
 have hos:=h.os
 have hl1:=hst.qV
 have hl2:=hpr.qV
 have hl3:=hos.qV
 refine qa Tryz.func23 rfl Tryz.ntmps23 (Nat.le_of_ble_eq_true rfl) ?_
 intro w0 hw0
 refine At.nrm ?_
 refine At.zh (.n false 0 (.q 1 .done)) ?_
 refine AtT.jA ?_
 intro b1
 refine AtT.zg ?_
 refine AtT.done ?_
 refine At.nrm ?_
 refine At.zh (.q 0 (.q 1 (.q 2 (.q 3 (.n false 4 (.n true 5 .done)))))) ?_
 first | refine AtT.zk qo ?_ | with_reducible refine AtT.zm qo ?_ | refine AtT.zo qo ?_
 first | refine AtT.zn jk ?_ | refine AtT.zq jk ?_
 first | refine AtT.zW Tryz.underlying36 ?_ | refine AtT.zX Tryz.underlying36 ?_
 first | refine AtT.jD ?_ | refine AtT.jE ?_
 refine AtT.qE z2 ?_
 intro b3
 first | refine AtT.qX tk2 ?_ | refine AtT.zU tk2 ?_
 refine AtT.done ?_
 refine At.nrm ?_
 refine At.zh (.q 0 (.q 1 .done)) ?_
 refine AtT.kfn ?_
 refine AtT.zg ?_
 refine AtT.done ?_
 refine At.nrm ?_
 refine At.nrm ?_
 refine At.zh (.q 0 (.n false 1 (.n false 2 (.q 3 (.q 4 (.q 5 (.q 6 (.q 7 (.q 8 (.q 9 (.q 10 .done))))))))))) ?_
 first | refine AtT.zn tk2 ?_ | refine AtT.zq tk2 ?_
 refine AtT.qz (jZ _) ?_
 intro q13 V13 hV13 hq13
 have g13:Le V V13:=by first | exact hV13 | exact Le.trans (by assumption) hV13
 refine AtT.zR rfl rfl ok24 (jJ 0 4 [(s.st.length:Int)-1] (fun x hx=>by rw[List.mem_singleton]at hx; omega) _ _ (Sl.lit hq13 rfl (by simp))) ?_
 rintro _ rfl
 refine AtT.knot ?_
 refine AtT.setB (d:=15) rfl ((show(!true)=false from rfl)) ?_
 refine AtT.zf ?_
 all_goals (first | refine AtT.kL 16 ?_ | refine AtT.zF (d:=16) rfl (fun hg16=>?_) (fun hg16=>?_) | refine AtT.zD (d:=16) rfl (fun hg16=>?_) (fun hg16=>?_))
 all_goals first|refine AtT.zi ?_|refine AtT.ze ?_|(first | refine AtT.zk qF ?_ | with_reducible refine AtT.zm qF ?_ | refine AtT.zo qF ?_)
 all_goals first|refine AtT.zi ?_|refine AtT.ze ?_|(first | refine AtT.zn tk37 ?_ | refine AtT.zq tk37 ?_)
 all_goals first|refine AtT.zi ?_|refine AtT.ze ?_|(first | refine AtT.zW Tryz.underlying37 ?_ | refine AtT.zX Tryz.underlying37 ?_)
 all_goals first|refine AtT.zi ?_|refine AtT.ze ?_|(refine AtT.qA ?_)
 all_goals (refine AtT.qx (d:=20) rfl ((by omega)) ?_)
 all_goals (refine AtT.zH ?_)
 all_goals (refine AtT.zg ?_)
 all_goals refine AtT.done ?_
 all_goals (refine At.nrm ?_)
 refine At.qh rfl rfl ?_
 refine At.nrm ?_
 refine At.zh (.q 0 (.q 1 (.q 2 (.q 3 (.q 4 (.q 5 (.q 6 (.q 7 .done)))))))) ?_
 first | refine AtT.zk qG ?_ | with_reducible refine AtT.zm qG ?_ | refine AtT.zo qG ?_
 first | refine AtT.zn jk ?_ | refine AtT.zq jk ?_
 first | refine AtT.zW Tryz.underlying36 ?_ | refine AtT.zX Tryz.underlying36 ?_
 first | refine AtT.zk qo ?_ | with_reducible refine AtT.zm qo ?_ | refine AtT.zo qo ?_
 first | refine AtT.zn jk ?_ | refine AtT.zq jk ?_
 first | refine AtT.zW Tryz.underlying36 ?_ | refine AtT.zX Tryz.underlying36 ?_
 refine AtT.jT ?_
 refine AtT.zg ?_
 refine AtT.done ?_
 refine At.nrm ?_
 refine At.qh rfl (by rw[hp]; simp) ?_
 refine At.nrm ?_
 refine At.zh (.q 0 (.q 1 (.n false 2 (.q 3 (.q 4 (.q 5 (.q 6 (.n false 7 (.q 8 (.q 9 (.q 10 (.q 11 (.q 12 (.q 13 (.n false 14 (.q 15 (.q 16 .done))))))))))))))))) ?_
 first | refine AtT.zk qo ?_ | with_reducible refine AtT.zm qo ?_ | refine AtT.zo qo ?_
 first | refine AtT.zn jk ?_ | refine AtT.zq jk ?_
 refine AtT.zR rfl rfl ok24 (jJ 0 50 s.st hs.sb _ _ (hst.le (by first | assumption | exact Le.refl _))) ?_
 rintro _ rfl
 refine AtT.knot ?_
 refine AtT.setB (d:=34) rfl ((show(!true)=false from rfl)) ?_
 refine AtT.zf ?_
 all_goals (first | refine AtT.kL 35 ?_ | refine AtT.zF (d:=35) rfl (fun hg35=>?_) (fun hg35=>?_) | refine AtT.zD (d:=35) rfl (fun hg35=>?_) (fun hg35=>?_))
 all_goals first|refine AtT.zi ?_|refine AtT.ze ?_|(first | refine AtT.zk qG ?_ | with_reducible refine AtT.zm qG ?_ | refine AtT.zo qG ?_)
 all_goals first|refine AtT.zi ?_|refine AtT.ze ?_|(first | refine AtT.zn jk ?_ | refine AtT.zq jk ?_)
 all_goals first|refine AtT.jq ?_|refine AtT.qP ?_|((refine AtT.zR rfl rfl ok24 (jJ 0 100 s.pr hs.pb _ _ (hpr.le (by first | assumption | exact Le.refl _))) ?_);(rintro _ rfl))
 all_goals first|refine AtT.zi ?_|refine AtT.ze ?_|(refine AtT.knot ?_)
 all_goals (refine AtT.setB (d:=39) rfl ((show(!true)=false from rfl)) ?_)
 all_goals (refine AtT.zH ?_)
 all_goals (refine AtT.zf ?_)
 all_goals (first | refine AtT.kL 41 ?_ | refine AtT.zF (d:=41) rfl (fun hg41=>?_) (fun hg41=>?_) | refine AtT.zD (d:=41) rfl (fun hg41=>?_) (fun hg41=>?_))
 all_goals first|refine AtT.zi ?_|refine AtT.ze ?_|(first | refine AtT.zk qF ?_ | with_reducible refine AtT.zm qF ?_ | refine AtT.zo qF ?_)
 all_goals first|refine AtT.zi ?_|refine AtT.ze ?_|(first | refine AtT.zn tk37 ?_ | refine AtT.zq tk37 ?_)
 all_goals first|refine AtT.zi ?_|refine AtT.ze ?_|(refine AtT.zf ?_)
 all_goals first|refine AtT.jq ?_|refine AtT.qP ?_|((refine AtT.kcallL rfl rfl ok54 (fun VL hVL hOL=>ocont_f s.os s.st.length hs.ob VL ⟨b3,0,none⟩ (qp (hOL b3 _ (List.mem_cons_self ..))) _ (hos.le ((by first | assumption | exact Le.refl _:Le V _).trans hVL))) ?_);(rintro _ rfl))
 all_goals (refine AtT.zH ?_)
 all_goals (refine AtT.zg ?_)
 all_goals refine AtT.done ?_
 all_goals (refine At.nrm ?_)
 refine At.qh rfl rfl ?_
 refine At.nrm ?_
 refine At.zh (.q 0 (.q 1 (.q 2 (.q 3 (.q 4 .done))))) ?_
 first | refine AtT.zk qG ?_ | with_reducible refine AtT.zm qG ?_ | refine AtT.zo qG ?_
 first | refine AtT.zn jk ?_ | refine AtT.zq jk ?_
 have hpos1:(1:Int)≤(s.pr.length:Int):=by omega
 refine AtT.ktail Tryz.underlying36 tk2 ?_
 intro a49 c49 hs49
 first | refine AtT.zW Tryz.underlying36 ?_ | refine AtT.zX Tryz.underlying36 ?_
 refine AtT.zf ?_
 refine AtT.done ?_
 refine At.nrm ?_
 have hdl:(List.drop (Int.toNat 1) s.pr).length=s.pr.length-1:=by rw[List.length_drop]; rfl
 refine At.lp (ι:=Nat) (KS:=fun k=>[(1,.pointer (some ⟨b1,0,none⟩)),(50,iv (List.drop (Int.toNat 1) s.pr).length),(51,iv k)]) (OS:=fun _=>[.blk b1 (LC [.slice a1 s.st.length c1,.slice a2 s.pr.length c2,.slice a3 s.os.length c3] 39)])
  (VS:=fun k V'=>Le V V'∧k≤s.pr.length-1) (μ:=fun k=>s.pr.length-k) 0 ?_ ?_ ?_ ?_
 ·exact⟨rfl,rfl,rfl,trivial⟩
 ·exact Pt.zC
 ·exact⟨by first | assumption | exact Le.refl _,Nat.zero_le _⟩
 rintro k V1 ks' O' ⟨hV1,hk1⟩ hk hO hl
 subst hk hO
 have hpr1:=hpr.le hV1
 refine At.nrm ?_
 refine At.zh (.q 0 .done) ?_
 refine AtT.qd ?_
 refine AtT.done ?_
 refine At.nrm ?_
 refine At.qb rfl (fun hc=>?_) (fun hc=>?_)
 ·have hkl:k+1<s.pr.length:=by omega
  have e1:(k:Int)+1=((k+1:Nat):Int):=by omega
  obtain⟨x,hx⟩:∃ x,s.pr[k]? = some x:=⟨_,List.getElem?_eq_getElem (by omega)⟩
  obtain⟨y,hy⟩:∃ y,s.pr[k+1]? = some y:=⟨_,List.getElem?_eq_getElem hkl⟩
  have hd:=hs.pd k x y hx hy
  refine At.nrm ?_
  refine At.zh (.q 0 (.q 1 .done)) ?_
  refine AtT.zf ?_
  refine AtT.zg ?_
  refine AtT.done ?_
  refine At.nrm ?_
  refine At.draw (.q 0 (.q 1 (.q 2 (.q 3 (.q 4 (.q 5 (.q 6 (.q 7 (.q 8 (.q 9 (.q 10 (.q 11 .done)))))))))))) ffm (by kernel_rfl) ?_
  first | refine AtT.zk qG ?_ | with_reducible refine AtT.zm qG ?_ | refine AtT.zo qG ?_
  first | refine AtT.zn jk ?_ | refine AtT.zq jk ?_
  refine AtT.zf ?_
  first | refine AtT.ql ?_ | refine AtT.zP ?_
  rw[e1]
  refine AtT.qj Tryz.underlying36 tk2 ?_
  intro p58 e58 he58 hc58
  obtain rfl:y=e58:=by have:s.pr[k+1]? = some e58:=(by simpa using he58); rw[hy]at this; simpa using this
  first | refine AtT.zn tk2 ?_ | refine AtT.zq tk2 ?_
  first | refine AtT.zk qG ?_ | with_reducible refine AtT.zm qG ?_ | refine AtT.zo qG ?_
  first | refine AtT.zn jk ?_ | refine AtT.zq jk ?_
  refine AtT.zf ?_
  refine AtT.qj Tryz.underlying36 tk2 ?_
  intro p63 e63 he63 hc63
  obtain rfl:x=e63:=by have:s.pr[k]? = some e63:=(by simpa using he63); rw[hx]at this; simpa using this
  first | refine AtT.zn tk2 ?_ | refine AtT.zq tk2 ?_
  refine AtT.qA ?_
  refine AtT.done ?_
  refine At.nrm ?_
  refine At.qh rfl (by rw[decide_eq_false (by omega)]) ?_
  refine At.nrm ?_
  refine At.zh (.q 0 (.q 1 .done)) ?_
  first | refine AtT.ql ?_ | refine AtT.zP ?_
  refine AtT.zf ?_
  refine AtT.done ?_
  refine At.nrm ?_
  refine At.round (k+1) ?_ ?_ ?_ ?_
  ·show s.pr.length-(k+1)<s.pr.length-k; omega
  ·exact⟨hV1,by omega⟩
  ·exact⟨rfl,rfl,rfl,trivial⟩
  ·exact Pt.zC
 ·refine At.nrm ?_
  refine At.zh (.q 0 .done) ?_
  refine AtT.zg ?_
  refine AtT.done ?_
  refine At.nrm ?_
  exact At.qf rfl (.tmp rfl) rfl
abbrev stc (s:Sp) (a1:Option Addr) (c1:Nat) (a2:Option Addr) (c2:Nat) (a3:Option Addr) (c3:Nat) (S:List Int):List Value:=.slice a1 s.st.length c1::.slice a2 s.pr.length c2::.slice a3 s.os.length c3::flat ei S
structure StV (V:View) (b:Nat) (s:Sp) (a1:Option Addr) (c1:Nat) (a2:Option Addr) (c2:Nat) (a3:Option Addr) (c3:Nat) (S:List Int):Prop where
 blk:V b=some (LC (stc s a1 c1 a2 c2 a3 c3 S) 105)
 sh:ShV V s a1 c1 a2 c2 a3 c3
 ok:StB S
theorem StV.le {V V':View} {b:Nat} {s:Sp} {a1:Option Addr} {c1:Nat} {a2:Option Addr} {c2:Nat} {a3:Option Addr} {c3:Nat} {S:List Int} (h:StV V b s a1 c1 a2 c2 a3 c3 S) (hl:Le V V'):StV V' b s a1 c1 a2 c2 a3 c3 S:=⟨hl _ _ h.blk,h.sh.le hl,h.ok⟩
def st5 (s:Sp):List Int:=s.st++List.replicate (5-s.st.length) 0
theorem st5_ok (hs:SpOk s):StB (st5 s):=⟨by have:=hs.n; unfold st5; rw[List.length_append,List.length_replicate]; omega,fun x hx=>by
 rcases List.mem_append.1 hx with h | h
 ·have:=hs.sb x h; omega
 ·rw[List.mem_replicate]at h; omega⟩
theorem slice179 (b:Nat) (w:World):(Instr.sliceAt 68 (.pointer (some ⟨b,0+3,none⟩)) none none none).run Tryz.prog w=.ok (.slice (some ⟨b,3,none⟩) 5 5) w:=by kernel_rfl
abbrev zS5:List Int:=List.replicate 5 0
theorem st5_put (s:Sp) (hs:SpOk s) (a1:Option Addr) (c1:Nat) (a2:Option Addr) (c2:Nat) (a3:Option Addr) (c3:Nat):(stc s a1 c1 a2 c2 a3 c3 zS5).take 3++flat ei (s.st.take s.st.length)++(stc s a1 c1 a2 c2 a3 c3 zS5).drop (3+s.st.length*1)=stc s a1 c1 a2 c2 a3 c3 (st5 s):=by
 rw[List.take_length,Nat.mul_one,Nat.add_comm]
 show _::_::_::(flat ei s.st++(flat ei zS5).drop s.st.length)=_
 unfold stc st5
 congr 3
 rw[qw,qw,qw,←List.map_drop,List.drop_replicate,List.map_append]
theorem newStore_f (hs:SpOk s) (h:ShV V s a1 c1 a2 c2 a3 c3):Fnc Tryz.prog 100 [shv s a1 c1 a2 c2 a3 c3] V fun r V'=>∃ b,r=.pointer (some ⟨b,0,none⟩)∧StV V' b s a1 c1 a2 c2 a3 c3 (st5 s):=by
 have hn:=hs.n
 have hst:=h.st
 have hl1:=hst.qV
 have hput:=st5_put s hs a1 c1 a2 c2 a3 c3
 refine qa Tryz.func100 rfl Tryz.ntmps100 (Nat.le_of_ble_eq_true rfl) ?_
 intro w0 hw0
 refine At.nrm ?_
 refine At.zh (.n false 0 (.q 1 .done)) ?_
 refine AtT.jA ?_
 intro b1
 refine AtT.zg ?_
 refine AtT.done ?_
 refine At.nrm ?_
 refine At.zh (.q 0 (.q 1 (.n false 2 (.q 3 .done)))) ?_
 first | refine AtT.zL jR ?_ | refine AtT.zS jR ?_ | refine AtT.zK jR ?_
 refine AtT.kbuild (bd105_0 _ _ _ _ _ _ _ _ _) ?_
 refine AtT.jA ?_
 intro b6
 refine AtT.zg ?_
 refine AtT.done ?_
 refine At.nrm ?_
 refine At.draw (.q 0 (.q 1 (.q 2 (.q 3 (.q 4 (.q 5 (.n true 6 .done))))))) ffm (by kernel_rfl) ?_
 refine AtT.zf ?_
 refine AtT.qZ ?_
 first | refine AtT.zk jm ?_ | with_reducible refine AtT.zm jm ?_ | refine AtT.zo jm ?_
 refine AtT.slV rfl trivial rfl (slice179 b6) (by decide) ?_
 first | refine AtT.zk qo ?_ | with_reducible refine AtT.zm qo ?_ | refine AtT.zo qo ?_
 first | refine AtT.zn jk ?_ | refine AtT.zq jk ?_
 refine AtT.copyAt rfl trivial Tryz.underlying36 tk2 rfl rfl hst Lw.zZ (fun _=>rfl) (k:=s.st.length) (Nat.min_eq_left (by omega)) (by simp only[List.length_cons]; rw[zJ Lw.zZ]; simp only[List.length_replicate]; omega) hput (by repeat first|exact Upd.here|apply Upd.there) (by decide) ?_
 refine AtT.done ?_
 refine At.nrm ?_
 refine At.nrm ?_
 refine At.zh (.q 0 (.q 1 .done)) ?_
 refine AtT.zf ?_
 refine AtT.zg ?_
 refine AtT.done ?_
 refine At.nrm ?_
 refine At.giveB (b:=b6) zM.zC (fun V6 hV6 hb6=>?_)
 exact At.qf rfl (.tmp rfl) ⟨b6,rfl,hb6,h.le hV6,st5_ok hs⟩
theorem open_f (hs:SpOk s) (h:ShV V s a1 c1 a2 c2 a3 c3):Fnc Tryz.prog 49 [shv s a1 c1 a2 c2 a3 c3] V fun r V'=>∃ b,r=.tuple #[.pointer (some ⟨b,0,none⟩),iv 0]∧StV V' b s a1 c1 a2 c2 a3 c3 (st5 s):=by
 refine qa Tryz.func49 rfl Tryz.ntmps49 (Nat.le_of_ble_eq_true rfl) ?_
 intro w0 hw0
 refine At.nrm ?_
 refine At.zh (.n false 0 (.q 1 (.q 2 .done))) ?_
 refine AtT.jA ?_
 intro b1
 refine AtT.zg ?_
 refine AtT.zg ?_
 refine AtT.done ?_
 refine At.nrm ?_
 refine At.zh (.q 0 (.n false 1 (.q 2 .done))) ?_
 first | refine AtT.zL jR ?_ | refine AtT.zS jR ?_ | refine AtT.zK jR ?_
 refine AtT.zR rfl rfl ok23 (checkShop_f hs h) ?_
 rintro _ rfl
 refine AtT.zg ?_
 refine AtT.done ?_
 refine At.nrm ?_
 refine At.zh (.q 0 (.q 1 .done)) ?_
 refine AtT.zf ?_
 refine AtT.jT ?_
 refine AtT.done ?_
 refine At.nrm ?_
 refine At.qh rfl rfl ?_
 refine At.nrm ?_
 refine At.zh (.q 0 (.n false 1 (.q 2 (.q 3 .done)))) ?_
 first | refine AtT.zL jR ?_ | refine AtT.zS jR ?_ | refine AtT.zK jR ?_
 refine AtT.jM rfl rfl ok100 (newStore_f hs h) ?_
 rintro _ V11 hV11 ⟨b,rfl,hb⟩
 refine AtT.zg ?_
 refine AtT.zg ?_
 refine AtT.done ?_
 refine At.nrm ?_
 exact At.ret2 rfl (.tmp rfl) (.tmp rfl) ⟨b,rfl,hb⟩
variable {b:Nat} {S:List Int}
theorem vc_of {V:View} {b off:Nat} {cs:List Value} {E:TypeId} {fr:Nat×Nat} (h:V b=some (LC cs E fr)):jd V ⟨b,off,none⟩=cs[off]?:=by
 unfold jd
 rw[h]
 simp[LC]
theorem st_hd (h:StV V b s a1 c1 a2 c2 a3 c3 S):jd V ⟨b,0+0+0,none⟩=some (.slice a1 s.st.length c1)∧jd V ⟨b,0+0+1,none⟩=some (.slice a2 s.pr.length c2)∧jd V ⟨b,0+0+2,none⟩=some (.slice a3 s.os.length c3):=⟨by rw[vc_of h.blk]; rfl,by rw[vc_of h.blk]; rfl,by rw[vc_of h.blk]; rfl⟩
theorem slice179h (b:Nat):∀ (g:Nat),g≤5→∀ (w:World),(Instr.sliceAt 68 (.pointer (some ⟨b,0+3,none⟩)) none (some (.int .i64 g)) none).run Tryz.prog w=.ok (.slice (some ⟨b,3,none⟩) g 5) w
 | 0,_,w=>by kernel_rfl
 | 1,_,w=>by kernel_rfl
 | 2,_,w=>by kernel_rfl
 | 3,_,w=>by kernel_rfl
 | 4,_,w=>by kernel_rfl
 | 5,_,w=>by kernel_rfl
set_option maxHeartbeats 1600000 in
theorem short_f (hs:SpOk s) (h:StV V b s a1 c1 a2 c2 a3 c3 S) (g:Nat) (hg:g<5):Fnc Tryz.prog 83 [.pointer (some ⟨b,0,none⟩),iv g] V fun r _=>r=iv (shrt s.os S g):=by
 have hos:=h.sh.os
 have hl3:=hos.qV
 have ho:=hs.o
 have hh:=st_hd h
 have hS:=h.ok
 have hSl:=hS.len
 have hsl:SlI V (.slice (some ⟨b,3,none⟩) (S.take (g+1)).length 5) (S.take (g+1)):=by
  refine Sl.of_cells Lw.zZ ?_ (by rw[List.length_take]; omega) (by decide)
  have h0:=(qp h.blk).at (k:=3) (vs:=flat ei (S.take (g+1))) fun j u hj=>by
   show(stc s a1 c1 a2 c2 a3 c3 S)[3+j]? = _
   rw[show 3+j=j+1+1+1 by omega]
   simp only[List.getElem?_cons_succ]
   rw[qw,List.getElem?_map]at hj⊢
   cases hy:(S.take (g+1))[j]? with
   | none=>rw[hy]at hj; cases hj
   | some y=>
    rw[hy]at hj
    have hy2:S[j]? = some y:=by
     rw[List.getElem?_take]at hy
     split at hy
     ·exact hy
     ·cases hy
    rw[hy2]; exact hj
  rwa[Addr.add_lit]at h0
 have e1:(g:Int)+1=((g+1:Nat):Int):=by omega
 have htl:(S.take (g+1)).length=g+1:=by rw[List.length_take]; omega
 refine qa Tryz.func83 rfl Tryz.ntmps83 (Nat.le_of_ble_eq_true rfl) ?_
 intro w0 hw0
 refine At.nrm ?_
 refine At.zh (.q 0 .done) ?_
 refine AtT.zg ?_
 refine AtT.done ?_
 refine At.nrm ?_
 refine At.zh (.q 0 .done) ?_
 refine AtT.zg ?_
 refine AtT.done ?_
 refine At.nrm ?_
 refine At.zh (.q 0 (.q 1 (.q 2 (.q 3 (.q 4 (.q 5 (.q 6 .done))))))) ?_
 refine AtT.zf ?_
 refine AtT.qZ ?_
 first | refine AtT.zk qC ?_ | with_reducible refine AtT.zm qC ?_ | refine AtT.zo qC ?_
 first | refine AtT.zk qF ?_ | with_reducible refine AtT.zm qF ?_ | refine AtT.zo qF ?_
 refine AtT.load rfl trivial rfl tk37 hh.2.2 (by decide) ?_
 first | refine AtT.zW Tryz.underlying37 ?_ | refine AtT.zX Tryz.underlying37 ?_
 refine AtT.zf ?_
 refine AtT.done ?_
 refine At.nrm ?_
 refine At.lp (ι:=Nat) (KS:=fun k=>[(0,.pointer (some ⟨b,0,none⟩)),(1,iv g),(5,iv (ordLe (s.os.take k) g)),(14,.slice a3 s.os.length c3),(15,iv s.os.length),(16,iv k)]) (OS:=fun _=>[])
  (VS:=fun k V'=>V'=V∧k≤s.os.length) (μ:=fun k=>s.os.length-k) 0 ?_ ?_ ?_ ?_
 ·exact⟨rfl,rfl,rfl,rfl,rfl,rfl,trivial⟩
 ·exact Pt.zC
 ·exact⟨rfl,Nat.zero_le _⟩
 rintro k V1 ks' O' ⟨rfl,hk1⟩ hk hO hl
 subst hk hO
 refine At.nrm ?_
 refine At.zh (.q 0 .done) ?_
 refine AtT.qd ?_
 refine AtT.done ?_
 refine At.nrm ?_
 refine At.qb rfl (fun hc=>?_) (fun hc=>?_)
 ·have hkl:k<s.os.length:=by omega
  obtain⟨o,hx⟩:∃ o,s.os[k]? = some o:=⟨_,List.getElem?_eq_getElem hkl⟩
  have hob:=hs.ob o (List.mem_of_getElem? hx)
  have htk:s.os.take (k+1)=s.os.take k++[o]:=by rw[List.take_add_one,hx]; rfl
  have hsn:=ordLe_snoc (s.os.take k) o g
  have hbd:=ordLe_bd (os:=s.os.take k) (g:=g) fun o ho=>by have:=hs.ob o (List.mem_of_mem_take ho); omega
  rw[←htk]at hsn
  rw[List.length_take]at hbd
  refine At.nrm ?_
  refine At.zh (.q 0 (.q 1 (.n false 2 (.n true 3 .done)))) ?_
  refine AtT.qj Tryz.underlying37 tk45 ?_
  intro p18 e18 he18 hc18
  obtain rfl:o=e18:=by have:s.os[k]? = some e18:=(by simpa using he18); rw[hx]at this; simpa using this
  first | refine AtT.zL tk45 ?_ | refine AtT.zS tk45 ?_ | refine AtT.zK tk45 ?_
  refine AtT.qE z45 ?_
  intro b7
  refine AtT.zU tk45 ?_
  refine AtT.done ?_
  refine At.nrm ?_
  refine At.zh (.q 0 (.q 1 (.q 2 (.q 3 .done)))) ?_
  first | refine AtT.zk jV ?_ | with_reducible refine AtT.zm jV ?_ | refine AtT.zo jV ?_
  first | refine AtT.zn tk3 ?_ | refine AtT.zq tk3 ?_
  refine AtT.zf ?_
  refine AtT.kleq ?_
  refine AtT.done ?_
  refine At.nrm ?_
  refine At.qb rfl (fun hm=>?_) (fun hm=>?_)
  ·rw[if_pos hm]at hsn
   refine At.nrm ?_
   refine At.zh (.q 0 (.q 1 (.q 2 (.q 3 (.q 4 .done))))) ?_
   refine AtT.zf ?_
   first | refine AtT.zk fo45_1 ?_ | with_reducible refine AtT.zm fo45_1 ?_ | refine AtT.zo fo45_1 ?_
   first | refine AtT.zn tk2 ?_ | refine AtT.zq tk2 ?_
   first | refine AtT.ql ?_ | refine AtT.zP ?_
   refine AtT.zg ?_
   refine AtT.done ?_
   refine At.nrm ?_
   refine At.nrm ?_
   refine At.zh (.q 0 (.q 1 .done)) ?_
   first | refine AtT.ql ?_ | refine AtT.zP ?_
   refine AtT.zf ?_
   refine AtT.done ?_
   refine At.nrm ?_
   refine At.round (k+1) ?_ ?_ ?_ ?_
   ·show s.os.length-(k+1)<s.os.length-k; omega
   ·exact⟨rfl,hkl⟩
   ·exact⟨rfl,rfl,ivs (by rw[hsn]),rfl,rfl,rfl,trivial⟩
   ·exact Pt.zC
  ·rw[if_neg hm,Int.add_zero]at hsn
   refine At.nrm ?_
   refine At.zh (.q 0 (.q 1 .done)) ?_
   first | refine AtT.ql ?_ | refine AtT.zP ?_
   refine AtT.zf ?_
   refine AtT.done ?_
   refine At.nrm ?_
   refine At.round (k+1) ?_ ?_ ?_ ?_
   ·show s.os.length-(k+1)<s.os.length-k; omega
   ·exact⟨rfl,hkl⟩
   ·exact⟨rfl,rfl,ivs (by rw[hsn]),rfl,rfl,rfl,trivial⟩
   ·exact Pt.zC
 obtain rfl:k=s.os.length:=by omega
 rw[List.take_length]
 have hbd:=ordLe_bd (os:=s.os) (g:=g) fun o ho=>by have:=hs.ob o ho; omega
 refine At.nrm ?_
 refine At.zh (.q 0 (.q 1 (.q 2 (.q 3 (.q 4 (.q 5 (.q 6 (.q 7 .done)))))))) ?_
 refine AtT.zf ?_
 refine AtT.qZ ?_
 first | refine AtT.zk jm ?_ | with_reducible refine AtT.zm jm ?_ | refine AtT.zo jm ?_
 refine AtT.zf ?_
 first | refine AtT.ql ?_ | refine AtT.zP ?_
 rw[e1]
 refine AtT.slVH rfl trivial rfl rfl (slice179h b (g+1) (by omega)) (by decide) ?_
 first | refine AtT.zW Tryz.underlying36 ?_ | refine AtT.zX Tryz.underlying36 ?_
 refine AtT.zf ?_
 refine AtT.done ?_
 refine At.nrm ?_
 refine At.lp (ι:=Nat) (KS:=fun k=>[(5,iv (ordLe s.os g-((S.take (g+1)).take k).sum)),(34,.slice (some ⟨b,3,none⟩) (g+1) 5),(35,iv ((g+1:Nat):Int)),(36,iv k)]) (OS:=fun _=>[])
  (VS:=fun k V'=>V'=V1∧k≤g+1) (μ:=fun k=>g+1-k) 0 ?_ ?_ ?_ ?_
 ·exact⟨ivs (by simp),rfl,rfl,rfl,trivial⟩
 ·exact Pt.zC
 ·exact⟨rfl,Nat.zero_le _⟩
 rintro k V2 ks' O' ⟨rfl,hk1⟩ hk hO hl
 subst hk hO
 rw[htl]at hsl
 refine At.nrm ?_
 refine At.zh (.q 0 .done) ?_
 refine AtT.qd ?_
 refine AtT.done ?_
 refine At.nrm ?_
 refine At.qb rfl (fun hc=>?_) (fun hc=>?_)
 ·have hkl:k<(S.take (g+1)).length:=by omega
  obtain⟨x,hx⟩:∃ x,(S.take (g+1))[k]? = some x:=⟨_,List.getElem?_eq_getElem hkl⟩
  have hxb:=hS.bd x (List.mem_of_mem_take (List.mem_of_getElem? hx))
  have htk:(S.take (g+1)).take (k+1)=(S.take (g+1)).take k++[x]:=by rw[List.take_add_one,hx]; rfl
  have hsn:=sumI_snoc ((S.take (g+1)).take k) x
  have hsb:=sum_bd (B:=51) (by decide) (l:=(S.take (g+1)).take k) fun y hy=>hS.bd y (List.mem_of_mem_take (List.mem_of_mem_take hy))
  rw[←htk]at hsn
  rw[List.length_take]at hsb
  refine At.nrm ?_
  refine At.zh (.q 0 (.q 1 (.q 2 .done))) ?_
  refine AtT.qj Tryz.underlying36 tk2 ?_
  intro p38 e38 he38 hc38
  obtain rfl:x=e38:=by have:(S.take (g+1))[k]? = some e38:=(by simpa using he38); rw[hx]at this; simpa using this
  first | refine AtT.zn tk2 ?_ | refine AtT.zq tk2 ?_
  refine AtT.zg ?_
  refine AtT.done ?_
  refine At.nrm ?_
  refine At.zh (.q 0 (.q 1 (.q 2 (.q 3 .done)))) ?_
  refine AtT.zf ?_
  refine AtT.zf ?_
  first | refine AtT.jD ?_ | refine AtT.jE ?_
  refine AtT.zg ?_
  refine AtT.done ?_
  refine At.nrm ?_
  refine At.nrm ?_
  refine At.zh (.q 0 (.q 1 .done)) ?_
  first | refine AtT.ql ?_ | refine AtT.zP ?_
  refine AtT.zf ?_
  refine AtT.done ?_
  refine At.nrm ?_
  refine At.round (k+1) ?_ ?_ ?_ ?_
  ·show g+1-(k+1)<g+1-k; omega
  ·exact⟨rfl,by omega⟩
  ·exact⟨ivs (by omega),rfl,rfl,rfl,trivial⟩
  ·exact Pt.zC
 obtain rfl:k=g+1:=by omega
 rw[List.take_of_length_le (by omega)]
 refine At.nrm ?_
 refine At.zh (.q 0 (.q 1 .done)) ?_
 refine AtT.zf ?_
 refine AtT.zg ?_
 refine AtT.done ?_
 refine At.nrm ?_
 exact At.qf rfl (.tmp rfl) rfl
theorem can_f (hs:SpOk s) (h:StV V b s a1 c1 a2 c2 a3 c3 S):Fnc Tryz.prog 50 [.pointer (some ⟨b,0,none⟩)] V fun r _=>r=.bool (canF s.st.length s.os S):=by
 have hn:=hs.n
 have hh:=st_hd h
 refine qa Tryz.func50 rfl Tryz.ntmps50 (Nat.le_of_ble_eq_true rfl) ?_
 intro w0 hw0
 refine At.nrm ?_
 refine At.zh (.q 0 .done) ?_
 refine AtT.zg ?_
 refine AtT.done ?_
 refine At.nrm ?_
 refine At.zh (.q 0 (.q 1 (.q 2 (.q 3 (.q 4 (.q 5 (.q 6 .done))))))) ?_
 refine AtT.zf ?_
 refine AtT.qZ ?_
 first | refine AtT.zk qC ?_ | with_reducible refine AtT.zm qC ?_ | refine AtT.zo qC ?_
 first | refine AtT.zk qo ?_ | with_reducible refine AtT.zm qo ?_ | refine AtT.zo qo ?_
 refine AtT.load rfl trivial rfl jk hh.1 (by decide) ?_
 first | refine AtT.zW Tryz.underlying36 ?_ | refine AtT.zX Tryz.underlying36 ?_
 refine AtT.zf ?_
 refine AtT.done ?_
 refine At.nrm ?_
 refine At.lp (ι:=Nat) (KS:=fun k=>[(0,.pointer (some ⟨b,0,none⟩)),(9,iv s.st.length),(10,iv k)]) (OS:=fun _=>[])
  (VS:=fun k V'=>V'=V∧k≤s.st.length∧∀ g,g<k→shrt s.os S g≤0) (μ:=fun k=>s.st.length-k) 0 ?_ ?_ ?_ ?_
 ·exact⟨rfl,rfl,rfl,trivial⟩
 ·exact Pt.zC
 ·exact⟨rfl,Nat.zero_le _,fun g hg=>by omega⟩
 rintro k V1 ks' O' ⟨rfl,hk1,hup⟩ hk hO hl
 subst hk hO
 refine At.nrm ?_
 refine At.zh (.q 0 .done) ?_
 refine AtT.qd ?_
 refine AtT.done ?_
 refine At.nrm ?_
 refine At.qb rfl (fun hc=>?_) (fun hc=>?_)
 ·have hkl:k<s.st.length:=by omega
  refine At.nrm ?_
  refine At.zh (.q 0 (.q 1 .done)) ?_
  refine AtT.zf ?_
  refine AtT.zg ?_
  refine AtT.done ?_
  refine At.nrm ?_
  refine At.zh (.q 0 (.q 1 (.n false 2 (.q 3 .done)))) ?_
  refine AtT.zf ?_
  refine AtT.zf ?_
  refine AtT.zR rfl rfl ok83 (short_f hs h k (by omega)) ?_
  rintro _ rfl
  refine AtT.qA ?_
  refine AtT.done ?_
  refine At.nrm ?_
  refine At.qb rfl (fun hm=>?_) (fun hm=>?_)
  ·refine At.nrm ?_
   refine At.zh (.q 0 .done) ?_
   refine AtT.zg ?_
   refine AtT.done ?_
   refine At.nrm ?_
   refine At.qf rfl (.tmp rfl) ?_
   congr 1
   exact(Bool.eq_false_iff.2 fun hq=>by have:=canF_iff.1 hq k hkl; omega).symm
  ·refine At.nrm ?_
   refine At.zh (.q 0 (.q 1 .done)) ?_
   first | refine AtT.ql ?_ | refine AtT.zP ?_
   refine AtT.zf ?_
   refine AtT.done ?_
   refine At.nrm ?_
   refine At.round (k+1) ?_ ?_ ?_ ?_
   ·show s.st.length-(k+1)<s.st.length-k; omega
   ·exact⟨rfl,hkl,fun g hg=>by rcases Nat.lt_or_ge g k with c | c; exact hup g c; rw[show g=k by omega]; omega⟩
   ·exact⟨rfl,rfl,rfl,trivial⟩
   ·exact Pt.zC
 obtain rfl:k=s.st.length:=by omega
 refine At.nrm ?_
 refine At.zh (.q 0 .done) ?_
 refine AtT.zg ?_
 refine AtT.done ?_
 refine At.nrm ?_
 refine At.qf rfl (.tmp rfl) ?_
 congr 1
 exact(canF_iff.2 hup).symm
theorem filled_f (hs:SpOk s) (h:ShV V s a1 c1 a2 c2 a3 c3):Fnc Tryz.prog 20 [shv s a1 c1 a2 c2 a3 c3] V fun r V'=>(canF s.st.length s.os (st5 s)=true∧∃ b,r=.tuple #[.pointer (some ⟨b,0,none⟩),iv 0]∧StV V' b s a1 c1 a2 c2 a3 c3 (st5 s))∨(canF s.st.length s.os (st5 s)=false∧r=.tuple #[.pointer none,iv 25]):=by
 refine qa Tryz.func20 rfl Tryz.ntmps20 (Nat.le_of_ble_eq_true rfl) ?_
 intro w0 hw0
 refine At.nrm ?_
 refine At.zh (.n false 0 (.q 1 (.q 2 .done))) ?_
 refine AtT.jA ?_
 intro b1
 refine AtT.zg ?_
 refine AtT.zg ?_
 refine AtT.done ?_
 refine At.nrm ?_
 refine At.zh (.q 0 (.n false 1 (.q 2 (.q 3 (.q 4 (.q 5 (.q 6 .done))))))) ?_
 first | refine AtT.zL jR ?_ | refine AtT.zS jR ?_ | refine AtT.zK jR ?_
 refine AtT.jM rfl rfl ok49 (open_f hs h) ?_
 rintro _ V8 hV8 ⟨b,rfl,hb⟩
 refine AtT.zf ?_
 refine AtT.zV ?_
 refine AtT.zV ?_
 refine AtT.zg ?_
 refine AtT.zg ?_
 refine AtT.done ?_
 refine At.nrm ?_
 refine At.nrm ?_
 refine At.zh (.q 0 (.q 1 (.q 2 .done))) ?_
 refine AtT.zf ?_
 refine AtT.jT ?_
 refine AtT.zg ?_
 refine AtT.done ?_
 refine At.nrm ?_
 refine At.qh rfl rfl ?_
 refine At.nrm ?_
 cases hcan:canF s.st.length s.os (st5 s)with
 | true=>
  refine At.zh (.q 0 (.n false 1 (.q 2 (.q 3 .done)))) ?_
  refine AtT.zf ?_
  refine AtT.zR rfl rfl ok50 (can_f hs hb) ?_
  rintro _ rfl
  refine AtT.knot ?_
  refine AtT.setB (d:=18) rfl ((show(!(canF s.st.length s.os (st5 s)))=false by rw[hcan]; rfl)) ?_
  refine AtT.zg ?_
  refine AtT.done ?_
  refine At.nrm ?_
  refine At.qh rfl rfl ?_
  refine At.nrm ?_
  refine At.zh (.q 0 (.q 1 (.q 2 .done))) ?_
  refine AtT.zf ?_
  refine AtT.zg ?_
  refine AtT.zg ?_
  refine AtT.done ?_
  refine At.nrm ?_
  exact At.ret2 rfl (.tmp rfl) (.tmp rfl) (.inl ⟨rfl,b,rfl,hb⟩)
 | false=>
  refine At.zh (.q 0 (.n false 1 (.q 2 (.q 3 .done)))) ?_
  refine AtT.zf ?_
  refine AtT.zR rfl rfl ok50 (can_f hs hb) ?_
  rintro _ rfl
  refine AtT.knot ?_
  refine AtT.setB (d:=18) rfl ((show(!(canF s.st.length s.os (st5 s)))=true by rw[hcan]; rfl)) ?_
  refine AtT.zg ?_
  refine AtT.done ?_
  refine At.nrm ?_
  refine At.jo rfl rfl ?_
  refine At.nrm ?_
  refine At.zh (.q 0 (.q 1 .done)) ?_
  refine AtT.zg ?_
  refine AtT.zg ?_
  refine AtT.done ?_
  refine At.nrm ?_
  exact At.ret2 rfl (.tmp rfl) (.tmp rfl) (.inr ⟨rfl,rfl⟩)
theorem cost_f (hs:SpOk s) (h:StV V b s a1 c1 a2 c2 a3 c3 S) (t0 t1 t2 t3 t4:Int) (hT:StB [t0,t1,t2,t3,t4]):Fnc Tryz.prog 51 [.pointer (some ⟨b,0,none⟩),.agg #[iv t0,iv t1,iv t2,iv t3,iv t4]] V fun r _=>r=iv (kF s.pr [t0,t1,t2,t3,t4] s.pr.length):=by
 have hn:=hs.n
 have hp:=hs.p
 have hh:=st_hd h
 have hpr:=h.sh.pr
 obtain⟨T,hTe⟩:∃ T,T=[t0,t1,t2,t3,t4]:=⟨_,rfl⟩
 rw[←hTe]at hT⊢
 have hTl:=hT.len
 refine qa Tryz.func51 rfl Tryz.ntmps51 (Nat.le_of_ble_eq_true rfl) ?_
 intro w0 hw0
 refine At.nrm ?_
 refine At.zh (.n false 0 (.q 1 .done)) ?_
 refine AtT.jA ?_
 intro b3
 refine AtT.zg ?_
 refine AtT.done ?_
 refine At.nrm ?_
 refine At.zh (.q 0 .done) ?_
 refine AtT.zg ?_
 refine AtT.done ?_
 refine At.nrm ?_
 refine At.zh (.q 0 (.q 1 (.q 2 (.q 3 (.q 4 (.q 5 (.q 6 .done))))))) ?_
 refine AtT.zf ?_
 refine AtT.qZ ?_
 first | refine AtT.zk qC ?_ | with_reducible refine AtT.zm qC ?_ | refine AtT.zo qC ?_
 first | refine AtT.zk qG ?_ | with_reducible refine AtT.zm qG ?_ | refine AtT.zo qG ?_
 refine AtT.load rfl trivial rfl jk hh.2.1 (by decide) ?_
 first | refine AtT.zW Tryz.underlying36 ?_ | refine AtT.zX Tryz.underlying36 ?_
 refine AtT.zf ?_
 refine AtT.done ?_
 refine At.nrm ?_
 refine At.lp (ι:=Nat) (KS:=fun k=>[(3,.pointer (some ⟨b3,0,none⟩)),(5,iv (kF s.pr T k)),(12,.slice a2 s.pr.length c2),(13,iv s.pr.length),(14,iv k)]) (OS:=fun _=>[.blk b3 (LC (flat ei T) 68)])
  (VS:=fun k V'=>V'=V∧k≤s.pr.length) (μ:=fun k=>s.pr.length-k) 0 ?_ ?_ ?_ ?_
 ·exact⟨rfl,rfl,rfl,rfl,rfl,trivial⟩
 ·rw[hTe]
  ·exact Pt.zC
 ·exact⟨rfl,Nat.zero_le _⟩
 rintro k V1 ks' O' ⟨rfl,hk1⟩ hk hO hl
 subst hk hO
 refine At.nrm ?_
 refine At.zh (.q 0 .done) ?_
 refine AtT.qd ?_
 refine AtT.done ?_
 refine At.nrm ?_
 refine At.qb rfl (fun hc=>?_) (fun hc=>?_)
 ·have hkl:k<s.pr.length:=by omega
  obtain⟨x,hx⟩:∃ x,s.pr[k]? = some x:=⟨_,List.getElem?_eq_getElem hkl⟩
  obtain⟨y,hy⟩:∃ y,T[k]? = some y:=⟨_,List.getElem?_eq_getElem (by omega)⟩
  have hxb:=hs.pb x (List.mem_of_getElem? hx)
  have hyb:=hT.bd y (List.mem_of_getElem? hy)
  have hm:=mul_bd hxb hyb
  have hcb:=costK_bd hs.pb hT k
  have hat:(flat ei T)[0+k*1]? = some (iv y):=by rw[Nat.zero_add,Nat.mul_one,qw,List.getElem?_map,hy]; rfl
  have hsc:kF s.pr T (k+1)=kF s.pr T k+x*y:=by rw[costK_succ,List.getD_eq_getElem?_getD,List.getD_eq_getElem?_getD,hx,hy]; rfl
  refine At.nrm ?_
  refine At.zh (.q 0 (.q 1 (.q 2 (.q 3 (.q 4 .done))))) ?_
  refine AtT.zf ?_
  refine AtT.qj Tryz.underlying36 tk2 ?_
  intro p17 e17 he17 hc17
  obtain rfl:x=e17:=by have:s.pr[k]? = some e17:=(by simpa using he17); rw[hx]at this; simpa using this
  first | refine AtT.zn tk2 ?_ | refine AtT.zq tk2 ?_
  refine AtT.zg ?_
  refine AtT.zg ?_
  refine AtT.done ?_
  refine At.nrm ?_
  refine At.zh (.q 0 (.q 1 (.q 2 (.q 3 (.q 4 (.q 5 (.q 6 (.q 7 .done)))))))) ?_
  refine AtT.zf ?_
  refine AtT.zf ?_
  refine AtT.zf ?_
  refine AtT.jh Tryz.underlying68 tk2 ?_
  rw[Int.toNat_natCast]
  refine AtT.jK rfl trivial rfl tk2 zM.zC hat (by decide) ?_
  first | refine AtT.kmul ?_ | refine AtT.kmulW ?_
  first | refine AtT.ql ?_ | refine AtT.zP ?_
  refine AtT.zg ?_
  refine AtT.done ?_
  refine At.nrm ?_
  refine At.nrm ?_
  refine At.zh (.q 0 (.q 1 .done)) ?_
  first | refine AtT.ql ?_ | refine AtT.zP ?_
  refine AtT.zf ?_
  refine AtT.done ?_
  refine At.nrm ?_
  refine At.round (k+1) ?_ ?_ ?_ ?_
  ·show s.pr.length-(k+1)<s.pr.length-k; omega
  ·exact⟨rfl,hkl⟩
  ·exact⟨rfl,ivs (by rw[hsc]),rfl,rfl,rfl,trivial⟩
  ·exact Pt.zC
 obtain rfl:k=s.pr.length:=by omega
 refine At.nrm ?_
 refine At.zh (.q 0 (.q 1 .done)) ?_
 refine AtT.zf ?_
 refine AtT.zg ?_
 refine AtT.done ?_
 refine At.nrm ?_
 exact At.qf rfl (.tmp rfl) rfl
end
end Go.Proofs.YtmdcedioddchfaaGreatDoor.D
end
section
set_option linter.unusedVariables false
namespace Go.Lw
theorem AtT.loud {cx:Cx} {n:Nat} {ks:List (Nat×Value)} {O:List Own} {V:View} {P:Program} {ops:Array Oper} {Qn:Act→World→Prop} {t:Tr} {i:Nat} {wr:Bool} (h:AtT cx n ks O V P ops Qn (.q i t)):AtT cx n ks O V P ops Qn (.n wr i t):=fun a w hk hm=>by
 obtain⟨o,v,ho,hy,hr⟩:=h a w hk hm
 exact⟨o,ho,hy.stW hm ⟨_,fun _ u hu=>hu,hm,hr⟩⟩
end Go.Lw
end
section
set_option linter.unusedVariables false
namespace Go.Proofs.YtmdcedioddchfaaGreatDoor.D
open Go.Lw Go.Ps Go.Gr Go.RowKit
open Go.Gl (iv ivs qy)
section
variable {s:Sp} {a1:Option Addr} {c1:Nat} {a2:Option Addr} {c2:Nat} {a3:Option Addr} {c3:Nat} {V:View} {b:Nat} {S:List Int}
theorem cmp_f (hs:SpOk s) (h:StV V b s a1 c1 a2 c2 a3 c3 S) (q:Addr) (hq:Cells V q [.pointer (some ⟨b,0,none⟩)]) (i j:Nat) (x y:Od) (hx:s.os[i]? = some x) (hy:s.os[j]? = some y) :
  Fnc Tryz.prog 102 ([]++[iv i,iv j]++[.pointer (some q)]) V fun r _=>r=iv (x.g-y.g):=by
 have hh:=st_hd h
 have hos:=h.sh.os
 have hl3:=hos.qV
 have hi:=(List.getElem?_eq_some_iff.1 hx).1
 have hj:=(List.getElem?_eq_some_iff.1 hy).1
 have hxb:=hs.ob x (List.mem_of_getElem? hx)
 have hyb:=hs.ob y (List.mem_of_getElem? hy)
 have hn:=hs.n
 refine qa Tryz.func102 rfl Tryz.ntmps102 (Nat.le_of_ble_eq_true rfl) ?_
 intro w0 hw0
 refine At.nrm ?_
 refine At.zh (.q 0 .done) ?_
 refine AtT.zg ?_
 refine AtT.done ?_
 refine At.nrm ?_
 refine At.draw (.q 0 (.q 1 (.q 2 (.q 3 (.q 4 (.q 5 (.q 6 (.q 7 (.q 8 (.q 9 (.q 10 (.q 11 (.q 12 (.q 13 (.q 14 (.q 15 (.q 16 (.q 17 (.q 18 (.q 19 .done)))))))))))))))))))) ffm (by kernel_rfl) ?_
 first | refine AtT.zn tk63 ?_ | refine AtT.zq tk63 ?_
 refine AtT.qZ ?_
 first | refine AtT.zk qC ?_ | with_reducible refine AtT.zm qC ?_ | refine AtT.zo qC ?_
 first | refine AtT.zk qF ?_ | with_reducible refine AtT.zm qF ?_ | refine AtT.zo qF ?_
 refine AtT.load rfl trivial rfl tk37 hh.2.2 (by decide) ?_
 refine AtT.zf ?_
 refine AtT.qj Tryz.underlying37 tk45 ?_
 intro p12 e12 he12 hc12
 obtain rfl:x=e12:=by have:s.os[i]? = some e12:=(by simpa using he12); rw[hx]at this; simpa using this
 first | refine AtT.zk jV ?_ | with_reducible refine AtT.zm jV ?_ | refine AtT.zo jV ?_
 first | refine AtT.zn tk3 ?_ | refine AtT.zq tk3 ?_
 first | refine AtT.zn tk63 ?_ | refine AtT.zq tk63 ?_
 refine AtT.qZ ?_
 first | refine AtT.zk qC ?_ | with_reducible refine AtT.zm qC ?_ | refine AtT.zo qC ?_
 first | refine AtT.zk qF ?_ | with_reducible refine AtT.zm qF ?_ | refine AtT.zo qF ?_
 refine AtT.load rfl trivial rfl tk37 hh.2.2 (by decide) ?_
 refine AtT.zf ?_
 refine AtT.qj Tryz.underlying37 tk45 ?_
 intro p21 e21 he21 hc21
 obtain rfl:y=e21:=by have:s.os[j]? = some e21:=(by simpa using he21); rw[hy]at this; simpa using this
 first | refine AtT.zk jV ?_ | with_reducible refine AtT.zm jV ?_ | refine AtT.zo jV ?_
 first | refine AtT.zn tk3 ?_ | refine AtT.zq tk3 ?_
 first | refine AtT.jD ?_ | refine AtT.jE ?_
 refine AtT.zg ?_
 refine AtT.done ?_
 refine At.nrm ?_
 exact At.qf rfl (.tmp rfl) rfl
set_option maxHeartbeats 3200000 in
theorem isort_f {cx:Cx} {O:List Go.Lw.Own} (hs:SpOk s) (h:StV V b s a1 c1 a2 c2 a3 c3 S) (q:Addr) (hq:Cells V q [.pointer (some ⟨b,0,none⟩)]) (l:List Int) (rest:List Value) (bb cap:Nat) (hl:∀ x∈l,0≤x∧x.toNat<s.os.length) (hl8:1≤l.length∧l.length≤8) :
  FncM Tryz.prog cx 216 [.slice (some ⟨bb,0,none⟩) l.length cap,iv 0,iv l.length,.func (.func 102) #[] #[.pointer (some q)]] (.blk bb (LC (flat ei l++rest) 3)::O) V fun r O' V'=>Le V V'∧r=.tuple #[]∧∃ l':List Int,l'.Perm l∧l'.Pairwise (fun a b=>kG s.os a≤kG s.os b)∧O'=.blk bb (LC (flat ei l'++rest) 3)::O:=by
 refine fncM_of Tryz.func216 rfl Tryz.ntmps216 (Nat.le_of_ble_eq_true rfl) ?_
 refine At.nrm ?_
 refine At.zh (.q 0 (.q 1 (.q 2 .done))) ?_
 refine AtT.zf ?_
 first | refine AtT.ql ?_ | refine AtT.zP ?_
 refine AtT.zg ?_
 refine AtT.done ?_
 refine At.nrm ?_
 refine At.lp (ι:=Nat×List Int) (KS:=fun g=>[(0,.slice (some ⟨bb,0,none⟩) l.length cap),(1,iv 0),(2,iv l.length),(3,.func (.func 102) #[] #[.pointer (some q)]),(8,iv g.1)]) (OS:=fun g=>.blk bb (LC (flat ei g.2++rest) 3)::O)
  (VS:=fun g V'=>Le V V'∧1≤g.1∧g.1≤l.length∧g.2.Perm l∧SrtK (kG s.os) g.2 g.1) (μ:=fun g=>l.length-g.1) (1,l) ?_ ?_ ?_ ?_
 ·exact⟨rfl,rfl,rfl,rfl,rfl,trivial⟩
 ·exact Pt.qg
 ·exact⟨Le.refl _,Nat.le_refl _,hl8.1,List.Perm.refl _,⟨fun p q x y h1 h2=>by omega⟩⟩
 rintro⟨i,L⟩ V2 ks' O' ⟨hV2,hi1,hin,hperm,hsrt⟩ hk hO hl3
 dsimp only at hi1 hin hperm hsrt hk hO
 subst hk hO
 have hLl:=hperm.length_eq
 refine At.nrm ?_
 refine At.zh (.q 0 (.q 1 (.q 2 .done))) ?_
 refine AtT.zf ?_
 refine AtT.zf ?_
 refine AtT.qd ?_
 refine AtT.done ?_
 refine At.nrm ?_
 refine At.qb rfl (fun hp2=>?_) (fun hp2=>?_)
 rotate_left
 ·obtain rfl:i=l.length:=by omega
  rw[←hLl]at hsrt
  refine At.nrm ?_
  exact At.retM0 (.inl rfl) rfl ⟨hV2,rfl,L,hperm,hsrt.pw,rfl⟩
 have hiL:i<L.length:=by omega
 refine At.nrm ?_
 refine At.zh (.q 0 (.q 1 .done)) ?_
 refine AtT.zf ?_
 refine AtT.zg ?_
 refine AtT.done ?_
 refine At.nrm ?_
 refine At.lp (ι:=Nat×List Int) (KS:=fun g=>[(0,.slice (some ⟨bb,0,none⟩) l.length cap),(1,iv 0),(2,iv l.length),(3,.func (.func 102) #[] #[.pointer (some q)]),(8,iv i),(9,iv g.1)]) (OS:=fun g=>.blk bb (LC (flat ei g.2++rest) 3)::O)
  (VS:=fun g V'=>Le V V'∧g.1≤i∧g.2.Perm l∧InsK (kG s.os) g.2 g.1 i) (μ:=fun g=>g.1) (i,L) ?_ ?_ ?_ ?_
 ·exact⟨rfl,rfl,rfl,rfl,rfl,rfl,trivial⟩
 ·exact Pt.qg
 ·exact⟨hV2,Nat.le_refl _,hperm,hsrt.start⟩
 rintro⟨k,L2⟩ V3 ks' O' ⟨hV3,hki,hperm2,hins⟩ hk hO hl4
 dsimp only at hki hperm2 hins hk hO
 subst hk hO
 have hL2:=hperm2.length_eq
 refine At.nrm ?_
 by_cases d1:0<(k:Int)
 rotate_left
 ·refine At.draw (.q 0 (.q 1 (.q 2 (.q 3 (.q 4 (.q 5 (.q 6 (.q 7 (.q 8 (.q 9 (.q 10 (.q 11 (.q 12 (.q 13 (.n false 14 (.q 15 (.q 16 .done))))))))))))))))) ffm (by kernel_rfl) ?_
  refine AtT.zf ?_
  refine AtT.zf ?_
  refine AtT.qA ?_
  refine AtT.qx (d:=20) rfl (d1) ?_
  refine AtT.zf ?_
  all_goals (first | refine AtT.kL 21 ?_ | refine AtT.zF (d:=21) rfl (fun hg21=>?_) (fun hg21=>?_) | refine AtT.zD (d:=21) rfl (fun hg21=>?_) (fun hg21=>?_))
  all_goals first|refine AtT.zi ?_|refine AtT.ze ?_|(refine AtT.zf ?_)
  all_goals first|refine AtT.zi ?_|refine AtT.ze ?_|(refine AtT.zf ?_)
  all_goals first|refine AtT.zi ?_|refine AtT.ze ?_|(refine AtT.zf ?_)
  all_goals first|refine AtT.zi ?_|refine AtT.ze ?_|(refine AtT.qj Tryz.underlying22 tk3 ?_);(intro p25 e25 he25 hc25)
  all_goals first|refine AtT.zi ?_|refine AtT.ze ?_|(first | refine AtT.zn tk3 ?_ | refine AtT.zq tk3 ?_)
  all_goals first|refine AtT.zi ?_|refine AtT.ze ?_|(refine AtT.zf ?_)
  all_goals first|refine AtT.zi ?_|refine AtT.ze ?_|(refine AtT.zf ?_)
  all_goals first|refine AtT.zi ?_|refine AtT.ze ?_|(first | refine AtT.jD ?_ | refine AtT.jE ?_)
  all_goals first|refine AtT.zi ?_|refine AtT.ze ?_|(refine AtT.qj Tryz.underlying22 tk3 ?_);(intro p30 e30 he30 hc30)
  all_goals first|refine AtT.zi ?_|refine AtT.ze ?_|(first | refine AtT.zn tk3 ?_ | refine AtT.zq tk3 ?_)
  all_goals first|refine AtT.jq ?_|refine AtT.qP ?_|((fail))
  all_goals first|refine AtT.zi ?_|refine AtT.ze ?_|(refine AtT.qd ?_)
  all_goals (refine AtT.zH ?_)
  all_goals refine AtT.done ?_
  all_goals (refine At.nrm ?_)
  refine At.qh rfl rfl ?_
  refine At.nrm ?_
  refine At.zh (.q 0 (.q 1 (.q 2 .done))) ?_
  refine AtT.zf ?_
  first | refine AtT.ql ?_ | refine AtT.zP ?_
  refine AtT.zg ?_
  refine AtT.done ?_
  refine At.nrm ?_
  refine At.round (i+1,L2) ?_ ?_ ?_ ?_
  ·show l.length-(i+1)<l.length-i; omega
  ·exact⟨hV3,by dsimp only; omega,by dsimp only; omega,hperm2,hins.stop (by omega) hki (.inl (by omega))⟩
  ·exact⟨rfl,rfl,rfl,rfl,ivs (by dsimp only; omega),trivial⟩
  ·exact Pt.qg
 obtain⟨y,hy⟩:∃ y,L2[k]? = some y:=⟨_,List.getElem?_eq_getElem (by omega)⟩
 obtain⟨x,hx⟩:∃ x,L2[k-1]? = some x:=⟨_,List.getElem?_eq_getElem (by omega)⟩
 have hyl:=hl y ((hperm2.mem_iff).1 (List.mem_of_getElem? hy))
 have hxl:=hl x ((hperm2.mem_iff).1 (List.mem_of_getElem? hx))
 have hk1:(k:Int)-1=((k-1:Nat):Int):=by omega
 obtain⟨oy,hoy⟩:∃ o,s.os[y.toNat]? = some o:=⟨_,List.getElem?_eq_getElem hyl.2⟩
 obtain⟨ox,hox⟩:∃ o,s.os[x.toNat]? = some o:=⟨_,List.getElem?_eq_getElem hxl.2⟩
 have hcmp:=cmp_f hs (h.le hV3) q (hq.le hV3) y.toNat x.toNat oy ox hoy hox
 rw[Int.toNat_of_nonneg hyl.1,Int.toNat_of_nonneg hxl.1]at hcmp
 have hky:kG s.os y=oy.g:=by unfold kG; rw[hoy]; rfl
 have hkx:kG s.os x=ox.g:=by unfold kG; rw[hox]; rfl
 have hat:∀ (j:Nat) (z:Int),L2[j]? = some z→(flat ei L2++rest)[j*1]? = some (iv z):=fun j z hz=>by
  have hj:=(List.getElem?_eq_some_iff.1 hz).1
  rw[Nat.mul_one,List.getElem?_append_left (by rw[zJ Lw.zZ]; omega),qw,List.getElem?_map,hz]; rfl
 have hyk:=hat k y hy
 have hxk:=hat (k-1) x hx
 have ht:decide (0<(k:Int))=true:=decide_eq_true d1
 refine At.cutG (ι:=Unit) (fun _=>[(0,.slice (some ⟨bb,0,none⟩) l.length cap),(1,iv 0),(2,iv l.length),(3,.func (.func 102) #[] #[.pointer (some q)]),(8,iv i),(9,iv k),(34,.bool (decide (oy.g-ox.g<0)))]) (fun _=>.blk bb (LC (flat ei L2++rest) 3)::O) (fun _ V''=>Le V3 V'') ?_ ?_
 ·refine At.draw (.q 0 (.q 1 (.q 2 (.q 3 (.q 4 (.q 5 (.q 6 (.q 7 (.q 8 (.q 9 (.q 10 (.q 11 (.q 12 (.q 13 (.n false 14 (.q 15 (.q 16 .done))))))))))))))))) ffm (by kernel_rfl) ?_
  refine AtT.zf ?_
  refine AtT.zf ?_
  refine AtT.qA ?_
  refine AtT.kR (d:=20) rfl (d1) ?_
  refine AtT.zf ?_
  all_goals (first | refine AtT.kL 21 ?_ | refine AtT.zF (d:=21) rfl (fun hg21=>?_) (fun hg21=>?_) | refine AtT.zD (d:=21) rfl (fun hg21=>?_) (fun hg21=>?_))
  all_goals first|refine AtT.zi ?_|refine AtT.ze ?_|(refine AtT.zf ?_)
  all_goals first|refine AtT.zi ?_|refine AtT.ze ?_|(refine AtT.zf ?_)
  all_goals first|refine AtT.zi ?_|refine AtT.ze ?_|(refine AtT.zf ?_)
  all_goals first|refine AtT.zi ?_|refine AtT.ze ?_|(refine AtT.idxZ rfl ⟨_,_,rfl,rfl,rfl⟩ Tryz.underlying22 tk3 rfl rfl (by omega) (by decide) ?_)
  all_goals first|refine AtT.zi ?_|refine AtT.ze ?_|(refine AtT.jK rfl ⟨_,_,rfl,rfl,rfl⟩ rfl tk3 zM.zC hyk (by decide) ?_)
  all_goals first|refine AtT.zi ?_|refine AtT.ze ?_|(refine AtT.zf ?_)
  all_goals first|refine AtT.zi ?_|refine AtT.ze ?_|(refine AtT.zf ?_)
  all_goals first|refine AtT.zi ?_|refine AtT.ze ?_|(first | refine AtT.jD ?_ | refine AtT.jE ?_)
  all_goals (rw[hk1])
  all_goals first|refine AtT.zi ?_|refine AtT.ze ?_|(refine AtT.idxZ rfl ⟨_,_,rfl,rfl,rfl⟩ Tryz.underlying22 tk3 rfl rfl (by omega) (by decide) ?_)
  all_goals first|refine AtT.zi ?_|refine AtT.ze ?_|(refine AtT.jK rfl ⟨_,_,rfl,rfl,rfl⟩ rfl tk3 zM.zC hxk (by decide) ?_)
  all_goals first|refine AtT.jq ?_|refine AtT.qP ?_|((refine AtT.kcallV rfl rfl rfl ok102 (hcmp) ?_);(rintro _ rfl))
  all_goals first|refine AtT.zi ?_|refine AtT.ze ?_|(refine AtT.qd ?_)
  all_goals (refine AtT.zH ?_)
  all_goals refine AtT.done ?_
  all_goals (refine At.nrm ?_)
  all_goals (exact At.meetG () (Le.refl _) ⟨rfl,rfl,rfl,rfl,rfl,rfl,rfl,trivial⟩ Pt.qg)
 rintro _ V4 ks' O' hV4 hk hO hl5
 subst hk hO
 refine At.qb rfl (fun hc=>?_) (fun hc=>?_)
 rotate_left
 ·refine At.nrm ?_
  refine At.zh (.q 0 (.q 1 (.q 2 .done))) ?_
  refine AtT.zf ?_
  first | refine AtT.ql ?_ | refine AtT.zP ?_
  refine AtT.zg ?_
  refine AtT.done ?_
  refine At.nrm ?_
  refine At.round (i+1,L2) ?_ ?_ ?_ ?_
  ·show l.length-(i+1)<l.length-i; omega
  ·exact⟨hV3.trans hV4,by dsimp only; omega,by dsimp only; omega,hperm2,hins.stop (by omega) hki (.inr fun x' y' h1 h2=>by rw[hx]at h1; rw[hy]at h2; cases h1; cases h2; omega)⟩
  ·exact⟨rfl,rfl,rfl,rfl,ivs (by dsimp only; omega),trivial⟩
  ·exact Pt.qg
 have hs1:=flat_setR Lw.zZ L2 k x rest (by omega)
 have hs2:=flat_setR Lw.zZ (L2.set k x) (k-1) y rest (by rw[List.length_set]; omega)
 have hin2:=hins.swap (by omega) hki (by omega) hx hy (by omega)
 have hpe2:=swapI_perm (by omega) hx hy
 have hb1:k*1+1≤(flat ei L2++rest).length:=by rw[List.length_append,zJ Lw.zZ]; omega
 have hb2:(k-1)*1+1≤(flat ei (L2.set k x)++rest).length:=by rw[List.length_append,zJ Lw.zZ,List.length_set]; omega
 refine At.nrm ?_
 refine At.cutG (ι:=Unit) (fun _=>[(0,.slice (some ⟨bb,0,none⟩) l.length cap),(1,iv 0),(2,iv l.length),(3,.func (.func 102) #[] #[.pointer (some q)]),(8,iv i),(9,iv k)]) (fun _=>.blk bb (LC (flat ei ((L2.set k x).set (k-1) y)++rest) 3)::O) (fun _ V''=>Le V4 V'') ?_ ?_
 ·refine At.drawC O (.q 0 (.q 1 (.q 2 (.q 3 (.q 4 (.q 5 (.q 6 (.q 7 (.q 8 (.q 10 (.q 11 (.q 12 (.two 9 (.n false 13 (.q 14 (.n false 15 (.q 16 (.n false 17 .done))))) 13 (.n false 9 (.q 14 (.n false 15 (.q 16 (.n false 17 .done)))))))))))))))))) ffm (by kernel_rfl) Pt.qg ?_
  refine AtC.pre (fun hle0=>?_)
  refine AtC.kq (hp:=Pt.qg) (by(refine AtT.zf ?_); exact At.knows) ?_
  refine AtC.kq (hp:=Pt.qg) (by(refine AtT.zf ?_); exact At.knows) ?_
  refine AtC.kq (hp:=Pt.qg) (by(refine AtT.zf ?_); exact At.knows) ?_
  refine AtC.kq (hp:=Pt.qg) (by(refine AtT.zf ?_); exact At.knows) ?_
  refine AtC.kq (hp:=Pt.qg) (by(first | refine AtT.jD ?_ | refine AtT.jE ?_); exact At.knows) ?_
  rw[hk1]
  refine AtC.kq (hp:=Pt.qg) (by(refine AtT.zf ?_); exact At.knows) ?_
  refine AtC.kq (hp:=Pt.qg) (by(refine AtT.zf ?_); exact At.knows) ?_
  refine AtC.kq (hp:=Pt.qg) (by(first | refine AtT.jD ?_ | refine AtT.jE ?_); exact At.knows) ?_
  rw[hk1]
  refine AtC.kq (hp:=Pt.qg) (by(refine AtT.idxZ rfl trivial Tryz.underlying22 tk3 rfl rfl (by omega) (by decide) ?_); exact At.knows) ?_
  refine AtC.kq (hp:=Pt.qg) (by(refine AtT.zf ?_); exact At.knows) ?_
  refine AtC.kq (hp:=Pt.qg) (by(refine AtT.zf ?_); exact At.knows) ?_
  refine AtC.kq (hp:=Pt.qg) (by(refine AtT.idxZ rfl trivial Tryz.underlying22 tk3 rfl rfl (by omega) (by decide) ?_); exact At.knows) ?_
  refine AtC.two ?_ ?_
  focus
   refine AtC.nz ?_
   refine AtT.loud ?_
   refine AtT.jK rfl trivial rfl tk3 zM.zC hxk (by decide) ?_
   refine AtC.kgo (hp:=Pt.qg) ?_
   refine AtC.nz ?_
   refine AtT.loud ?_
   refine AtT.jK rfl trivial rfl tk3 zM.zC hyk (by decide) ?_
   refine AtC.kgo (hp:=Pt.qg) ?_
   refine AtC.kq (hp:=Pt.qg) (by(refine AtT.idxZ rfl trivial Tryz.underlying22 tk3 rfl rfl (by omega) (by decide) ?_); exact At.knows) ?_
   refine AtC.nz ?_
   refine AtT.store rfl trivial rfl rfl tk3 rfl rfl hb1 rfl hs1 (by repeat first|exact Upd.here|apply Upd.there) ?_
   refine AtC.kgo (hp:=Pt.qg) ?_
   refine AtC.kq (hp:=Pt.qg) (by(refine AtT.idxZ rfl trivial Tryz.underlying22 tk3 rfl rfl (by omega) (by decide) ?_); exact At.knows) ?_
   refine AtC.nz ?_
   refine AtT.store rfl trivial rfl rfl tk3 rfl rfl hb2 rfl hs2 (by repeat first|exact Upd.here|apply Upd.there) ?_
   refine AtC.kgo (hp:=Pt.qg) ?_
   refine AtC.done ?_
  rotate_right
  focus
   refine AtC.nz ?_
   refine AtT.loud ?_
   refine AtT.jK rfl trivial rfl tk3 zM.zC hyk (by decide) ?_
   refine AtC.kgo (hp:=Pt.qg) ?_
   refine AtC.nz ?_
   refine AtT.loud ?_
   refine AtT.jK rfl trivial rfl tk3 zM.zC hxk (by decide) ?_
   refine AtC.kgo (hp:=Pt.qg) ?_
   refine AtC.kq (hp:=Pt.qg) (by(refine AtT.idxZ rfl trivial Tryz.underlying22 tk3 rfl rfl (by omega) (by decide) ?_); exact At.knows) ?_
   refine AtC.nz ?_
   refine AtT.store rfl trivial rfl rfl tk3 rfl rfl hb1 rfl hs1 (by repeat first|exact Upd.here|apply Upd.there) ?_
   refine AtC.kgo (hp:=Pt.qg) ?_
   refine AtC.kq (hp:=Pt.qg) (by(refine AtT.idxZ rfl trivial Tryz.underlying22 tk3 rfl rfl (by omega) (by decide) ?_); exact At.knows) ?_
   refine AtC.nz ?_
   refine AtT.store rfl trivial rfl rfl tk3 rfl rfl hb2 rfl hs2 (by repeat first|exact Upd.here|apply Upd.there) ?_
   refine AtC.kgo (hp:=Pt.qg) ?_
   refine AtC.done ?_
  all_goals (refine At.nrm ?_)
  all_goals (exact At.meetG () (Le.refl _) ⟨rfl,rfl,rfl,rfl,rfl,rfl,trivial⟩ Pt.qg)
 rintro _ V5 ks' O' hV5 hk hO hl6
 subst hk hO
 refine At.nrm ?_
 refine At.zh (.q 0 (.q 1 (.q 2 .done))) ?_
 refine AtT.zf ?_
 first | refine AtT.jD ?_ | refine AtT.jE ?_
 refine AtT.zg ?_
 refine AtT.done ?_
 refine At.nrm ?_
 refine At.round (k-1,(L2.set k x).set (k-1) y) ?_ ?_ ?_ ?_
 ·show k-1<k; omega
 ·exact⟨(hV3.trans hV4).trans hV5,by dsimp only; omega,hpe2.trans hperm2,hin2⟩
 ·exact⟨rfl,rfl,rfl,rfl,rfl,ivs (by dsimp only; omega),trivial⟩
 ·exact Pt.qg
end
end Go.Proofs.YtmdcedioddchfaaGreatDoor.D
end
section
set_option linter.unusedVariables false
namespace Go.Proofs.YtmdcedioddchfaaGreatDoor.D
open Go.Lw Go.Ps Go.Gr Go.RowKit
open Go.Gl (iv ivs qy)
section
variable {s:Sp} {a1:Option Addr} {c1:Nat} {a2:Option Addr} {c2:Nat} {a3:Option Addr} {c3:Nat} {V:View} {b:Nat} {S:List Int}
theorem stable_f {cx:Cx} {O:List Go.Lw.Own} (hs:SpOk s) (h:StV V b s a1 c1 a2 c2 a3 c3 S) (q:Addr) (hq:Cells V q [.pointer (some ⟨b,0,none⟩)]) (l:List Int) (rest:List Value) (bb cap:Nat) (hl:∀ x∈l,0≤x∧x.toNat<s.os.length) (hl8:1≤l.length∧l.length≤8) :
  FncM Tryz.prog cx 155 [.slice (some ⟨bb,0,none⟩) l.length cap,iv l.length,.func (.func 102) #[] #[.pointer (some q)]] (.blk bb (LC (flat ei l++rest) 3)::O) V fun r O' V'=>Le V V'∧r=.tuple #[]∧∃ l':List Int,l'.Perm l∧l'.Pairwise (fun a b=>kG s.os a≤kG s.os b)∧O'=.blk bb (LC (flat ei l'++rest) 3)::O:=by
 refine fncM_of Tryz.func155 rfl Tryz.ntmps155 (Nat.le_of_ble_eq_true rfl) ?_
 refine At.nrm ?_
 refine At.zh (.q 0 .done) ?_
 refine AtT.zg ?_
 refine AtT.done ?_
 refine At.nrm ?_
 refine At.zh (.q 0 (.q 1 (.q 2 .done))) ?_
 refine AtT.zf ?_
 refine AtT.zg ?_
 refine AtT.zg ?_
 refine AtT.done ?_
 refine At.nrm ?_
 refine At.lp (ι:=Unit) (KS:=fun g=>[(0,.slice (some ⟨bb,0,none⟩) l.length cap),(1,iv l.length),(2,.func (.func 102) #[] #[.pointer (some q)]),(6,iv 20),(7,iv 0),(8,iv 20)]) (OS:=fun g=>.blk bb (LC (flat ei l++rest) 3)::O)
  (VS:=fun g V'=>V'=V) (μ:=fun g=>0) () ?_ ?_ ?_ ?_
 ·exact⟨rfl,rfl,rfl,rfl,rfl,rfl,trivial⟩
 ·exact Pt.qg
 ·rfl
 rintro _ V2 ks' O' rfl hk hO hl3
 subst hk hO
 refine At.nrm ?_
 refine At.zh (.q 0 (.q 1 (.q 2 .done))) ?_
 refine AtT.zf ?_
 refine AtT.zf ?_
 refine AtT.kleq ?_
 refine AtT.done ?_
 refine At.nrm ?_
 refine At.qh rfl (decide_eq_false (by omega)) ?_
 refine At.nrm ?_
 refine At.zh (.q 0 (.q 1 (.q 2 (.q 3 (.n true 4 .done))))) ?_
 refine AtT.zf ?_
 refine AtT.zf ?_
 refine AtT.zf ?_
 refine AtT.zf ?_
 refine AtT.callM rfl trivial rfl ok216 (by decide) (zM.perm zM.zC) (isort_f hs h q hq l rest bb cap hl hl8) ?_
 rintro _ _ V3 ⟨hV3,rfl,l',hp',hs',rfl⟩
 refine AtT.done ?_
 refine At.nrm ?_
 refine At.lp (ι:=Unit) (KS:=fun g=>[(0,.slice (some ⟨bb,0,none⟩) l.length cap),(1,iv l.length),(2,.func (.func 102) #[] #[.pointer (some q)]),(6,iv 20)]) (OS:=fun g=>.blk bb (LC (flat ei l'++rest) 3)::O)
  (VS:=fun g V'=>V'=V3) (μ:=fun g=>0) () ?_ ?_ ?_ ?_
 ·exact⟨rfl,rfl,rfl,rfl,trivial⟩
 ·exact Pt.qg
 ·rfl
 rintro _ V4 ks' O' rfl hk hO hl4
 subst hk hO
 refine At.nrm ?_
 refine At.zh (.q 0 (.q 1 (.q 2 .done))) ?_
 refine AtT.zf ?_
 refine AtT.zf ?_
 refine AtT.qd ?_
 refine AtT.done ?_
 refine At.nrm ?_
 refine At.qh rfl (decide_eq_false (by omega)) ?_
 refine At.nrm ?_
 exact At.retM0 (.inl rfl) rfl ⟨hV3,rfl,l',hp',hs',rfl⟩
theorem sort_f {cx:Cx} {O:List Go.Lw.Own} (hs:SpOk s) (h:StV V b s a1 c1 a2 c2 a3 c3 S) (q:Addr) (hq:Cells V q [.pointer (some ⟨b,0,none⟩)]) (l:List Int) (rest:List Value) (bb cap:Nat) (hl:∀ x∈l,0≤x∧x.toNat<s.os.length) (hl8:1≤l.length∧l.length≤8) :
  FncM Tryz.prog cx 101 [.slice (some ⟨bb,0,none⟩) l.length cap,.func (.func 102) #[] #[.pointer (some q)]] (.blk bb (LC (flat ei l++rest) 3)::O) V fun r O' V'=>Le V V'∧r=.tuple #[]∧∃ l':List Int,l'.Perm l∧l'.Pairwise (fun a b=>kG s.os a≤kG s.os b)∧O'=.blk bb (LC (flat ei l'++rest) 3)::O:=by
 refine fncM_of Tryz.func101 rfl Tryz.ntmps101 (Nat.le_of_ble_eq_true rfl) ?_
 refine At.nrm ?_
 refine At.zh (.q 0 (.q 1 (.q 2 (.q 3 (.n true 4 .done))))) ?_
 refine AtT.zf ?_
 refine AtT.zf ?_
 first | refine AtT.zW Tryz.underlying22 ?_ | refine AtT.zX Tryz.underlying22 ?_
 refine AtT.zf ?_
 refine AtT.callM rfl trivial rfl ok155 (by decide) (zM.perm zM.zC) (stable_f hs h q hq l rest bb cap hl hl8) ?_
 rintro _ _ V3 ⟨hV3,rfl,l',hp',hs',rfl⟩
 refine AtT.done ?_
 refine At.nrm ?_
 exact At.retM0 (.inl rfl) rfl ⟨hV3,rfl,l',hp',hs',rfl⟩
abbrev ysG (g:Nat):List (List Value):=(dn (g+1)).map fun(j:Nat)=>[iv (j:Int)]
theorem grades_f (i:Nat):Fnc Tryz.prog 84 [.pointer (some ⟨b,0,none⟩),iv i] V fun r V'=>∃ q2 q3,r=.func (.func 150) #[] #[.pointer (some q2),.pointer (some q3)]∧Cells V' q2 [.pointer (some ⟨b,0,none⟩)]∧Cells V' q3 [iv i]:=by
 refine qa Tryz.func84 rfl Tryz.ntmps84 (Nat.le_of_ble_eq_true rfl) ?_
 intro w0 hw0
 refine At.nrm ?_
 refine At.zh (.n false 0 (.n false 1 (.q 2 .done))) ?_
 refine AtT.jA ?_
 intro b2
 refine AtT.jA ?_
 intro b3
 refine AtT.zg ?_
 refine AtT.done ?_
 refine At.nrm ?_
 refine At.zh (.q 0 (.q 1 .done)) ?_
 refine AtT.kfn ?_
 refine AtT.zg ?_
 refine AtT.done ?_
 refine At.nrm ?_
 refine At.giveB (b:=b2) zM.zC (fun V2 hV2 hb2=>?_)
 refine At.giveB (b:=b3) zM.zC (fun V3 hV3 hb3=>?_)
 exact At.qf rfl (.tmp rfl) ⟨_,_,rfl,(qp hb2).le hV3,qp hb3⟩
theorem iterG_f (hs:SpOk s) (h:StV V b s a1 c1 a2 c2 a3 c3 S) (i:Nat) (o:Od) (ho:s.os[i]? = some o) (q2 q3:Addr) (hq2:Cells V q2 [.pointer (some ⟨b,0,none⟩)]) (hq3:Cells V q3 [iv i]):It Tryz.prog 150 [.pointer (some q2),.pointer (some q3)] V (ysG o.g.toNat):=by
 have hh:=st_hd h
 have hos:=h.sh.os
 have hl3:=hos.qV
 have hi:=(List.getElem?_eq_some_iff.1 ho).1
 have hob:=hs.ob o (List.mem_of_getElem? ho)
 have hn:=hs.n
 refine it_of Tryz.func150 rfl Tryz.ntmps150 (Nat.le_of_ble_eq_true rfl) rfl ?_
 intro l J E w0 H hJ
 refine At.nrm ?_
 refine At.draw (.q 0 (.q 1 (.q 2 (.q 3 (.q 4 (.q 5 (.q 6 (.q 7 (.q 8 (.q 9 .done)))))))))) ffm (by kernel_rfl) ?_
 first | refine AtT.zn tk63 ?_ | refine AtT.zq tk63 ?_
 refine AtT.qZ ?_
 first | refine AtT.zk qC ?_ | with_reducible refine AtT.zm qC ?_ | refine AtT.zo qC ?_
 first | refine AtT.zk qF ?_ | with_reducible refine AtT.zm qF ?_ | refine AtT.zo qF ?_
 refine AtT.load rfl trivial rfl tk37 hh.2.2 (by decide) ?_
 first | refine AtT.zn tk3 ?_ | refine AtT.zq tk3 ?_
 refine AtT.qj Tryz.underlying37 tk45 ?_
 intro p11 e11 he11 hc11
 obtain rfl:o=e11:=by have:s.os[i]? = some e11:=(by simpa using he11); rw[ho]at this; simpa using this
 first | refine AtT.zk jV ?_ | with_reducible refine AtT.zm jV ?_ | refine AtT.zo jV ?_
 first | refine AtT.zn tk3 ?_ | refine AtT.zq tk3 ?_
 refine AtT.zg ?_
 refine AtT.done ?_
 refine At.nrm ?_
 refine At.lpY H (ι:=Nat) (fun k=>k≤o.g.toNat+1) (fun k=>[(0,.func (.yield l) #[] #[]),(1,.pointer (some q2)),(2,.pointer (some q3)),(4,iv (o.g-(k:Int)))]) (fun k=>k) (fun k=>o.g.toNat+1-k) 0 (Nat.zero_le _) ⟨rfl,rfl,rfl,ivs (by omega),trivial⟩ hJ ?_
 rintro k w ks' hkl hJ rfl
 refine At.nrm ?_
 refine At.zh (.q 0 (.q 1 .done)) ?_
 refine AtT.zf ?_
 refine AtT.kgeq ?_
 refine AtT.done ?_
 refine At.nrm ?_
 refine At.qb rfl (fun hp=>?_) (fun hp=>?_)
 rotate_left
 ·obtain rfl:k=o.g.toNat+1:=by omega
  refine At.nrm ?_
  exact At.itEnd H (.inl rfl) rfl (.inl (by rw[ysG,List.length_map,dn_len]; exact hJ))
 have hys:(ysG o.g.toNat)[k]? = some [iv (o.g-(k:Int))]:=by
  rw[ysG,List.getElem?_map,dn_at (by omega)]
  simp only[Option.map_some]
  rw[show((o.g.toNat+1-1-k:Nat):Int)=o.g-(k:Int) by omega]
 refine At.nrm ?_
 refine At.zh (.q 0 (.q 1 (.n true 2 (.q 3 .done)))) ?_
 refine AtT.zf ?_
 refine AtT.zf ?_
 refine AtT.yield rfl trivial rfl rfl H (hys) (hJ) (by decide) ?_ ?_
 all_goals (intro w20 hJ20)
 all_goals (refine AtT.knot ?_)
 all_goals refine AtT.done ?_
 all_goals (refine At.nrm ?_)
 rotate_left
 ·refine At.jo rfl rfl ?_
  refine At.nrm ?_
  exact At.itEnd H (.inr rfl) rfl (.inr hJ20)
 refine At.qh rfl rfl ?_
 refine At.nrm ?_
 refine At.zh (.q 0 (.q 1 (.q 2 .done))) ?_
 refine AtT.zf ?_
 first | refine AtT.jD ?_ | refine AtT.jE ?_
 refine AtT.zg ?_
 refine AtT.done ?_
 refine At.nrm ?_
 refine At.roundY H (k+1) ?_ (by omega) ?_ hJ20
 ·show o.g.toNat+1-(k+1)<o.g.toNat+1-k; omega
 ·exact⟨rfl,rfl,rfl,ivs (by push_cast; omega),trivial⟩
end
end Go.Proofs.YtmdcedioddchfaaGreatDoor.D
end
section
set_option linter.unusedVariables false
namespace Go.Proofs.YtmdcedioddchfaaGreatDoor.D
open Go.Lw Go.Ps Go.Gr Go.RowKit
open Go.Gl (iv ivs qy)
abbrev plk (x:Int×Int):Value:=.agg #[iv x.1,iv x.2]
theorem key191:KeyL Tryz.prog 99 plk where
 eq a b w:=by
  have:=(eqS99 a.1 a.2 b.1 b.2).2 w
  have e:decide (a=b)=decide (a.1=b.1∧a.2=b.2):=by
   cases a; cases b; simp
  rw[e]; exact this
 ck e a w:=by
  have u3:=Tryz.underlying3
  have ci:∀ (x:Int) (w:World),(Instr.checkKey e 9999 3 (.int .i64 x)).run Tryz.prog w=.ok () w:=fun x w=>by
   rw[show(9999:Nat)=9998+1 from rfl,Instr.checkKey]
   simp[run_underlying u3,Sem.run_bind,Result.andThen_ok,Sem.run_pure]
  rw[show(10000:Nat)=9999+1 from rfl,Instr.checkKey]
  simp only[Sem.run_bind,run_underlying Tryz.underlying99,Result.andThen_ok]
  rw[←Array.forIn_toList]
  simp only[List.forIn_cons,List.forIn_nil,Sem.run_bind,Sem.run_pure,Result.andThen_ok]
  generalize (9999:Nat)=q at ci⊢
  go_simp
 sb a:=by simp[Instr.sameBits]
 now:=⟨_,Tryz.underlying99,.inl fun a b=>rfl⟩
section
variable {s:Sp} {a1:Option Addr} {c1:Nat} {a2:Option Addr} {c2:Nat} {a3:Option Addr} {c3:Nat} {V:View} {b:Nat} {S:List Int}
theorem isort0_f (V:View) (a:Option Addr) (c:Nat) (g:Value):Fnc Tryz.prog 216 [.slice a 0 c,iv 0,iv 0,g] V fun r _=>r=.tuple #[]:=by
 refine qa Tryz.func216 rfl Tryz.ntmps216 (Nat.le_of_ble_eq_true rfl) ?_
 intro w0 hw0
 refine At.nrm ?_
 refine At.zh (.q 0 (.q 1 (.q 2 .done))) ?_
 refine AtT.zf ?_
 first | refine AtT.ql ?_ | refine AtT.zP ?_
 refine AtT.zg ?_
 refine AtT.done ?_
 refine At.nrm ?_
 refine At.lp (ι:=Unit) (KS:=fun _=>[(2,iv 0),(8,iv 1)]) (OS:=fun _=>[]) (VS:=fun g V'=>V'=V) (μ:=fun g=>0) () ?_ ?_ ?_ ?_
 ·exact⟨rfl,rfl,trivial⟩
 ·exact Pt.zC
 ·rfl
 rintro _ V2 ks' O' rfl hk hO hl3
 subst hk hO
 refine At.nrm ?_
 refine At.zh (.q 0 (.q 1 (.q 2 .done))) ?_
 refine AtT.zf ?_
 refine AtT.zf ?_
 refine AtT.qd ?_
 refine AtT.done ?_
 refine At.nrm ?_
 refine At.qh rfl (by decide) ?_
 refine At.nrm ?_
 exact At.end0 rfl rfl
theorem stable0_f (V:View) (a:Option Addr) (c:Nat) (g:Value):Fnc Tryz.prog 155 [.slice a 0 c,iv 0,g] V fun r _=>r=.tuple #[]:=by
 refine qa Tryz.func155 rfl Tryz.ntmps155 (Nat.le_of_ble_eq_true rfl) ?_
 intro w0 hw0
 refine At.nrm ?_
 refine At.zh (.q 0 .done) ?_
 refine AtT.zg ?_
 refine AtT.done ?_
 refine At.nrm ?_
 refine At.zh (.q 0 (.q 1 (.q 2 .done))) ?_
 refine AtT.zf ?_
 refine AtT.zg ?_
 refine AtT.zg ?_
 refine AtT.done ?_
 refine At.nrm ?_
 refine At.lp (ι:=Unit) (KS:=fun _=>[(0,.slice a 0 c),(1,iv 0),(2,g),(6,iv 20),(7,iv 0),(8,iv 20)]) (OS:=fun _=>[]) (VS:=fun g V'=>V'=V) (μ:=fun g=>0) () ?_ ?_ ?_ ?_
 ·exact⟨rfl,rfl,rfl,rfl,rfl,rfl,trivial⟩
 ·exact Pt.zC
 ·rfl
 rintro _ V2 ks' O' rfl hk hO hl3
 subst hk hO
 refine At.nrm ?_
 refine At.zh (.q 0 (.q 1 (.q 2 .done))) ?_
 refine AtT.zf ?_
 refine AtT.zf ?_
 refine AtT.kleq ?_
 refine AtT.done ?_
 refine At.nrm ?_
 refine At.qh rfl (by decide) ?_
 refine At.nrm ?_
 refine At.zh (.q 0 (.q 1 (.q 2 (.q 3 (.n false 4 .done))))) ?_
 refine AtT.zf ?_
 refine AtT.zf ?_
 refine AtT.zf ?_
 refine AtT.zf ?_
 refine AtT.zR rfl rfl ok216 (isort0_f _ a c g) ?_
 rintro _ rfl
 refine AtT.done ?_
 refine At.nrm ?_
 refine At.lp (ι:=Unit) (KS:=fun _=>[(1,iv 0),(6,iv 20)]) (OS:=fun _=>[]) (VS:=fun g V'=>V'=V2) (μ:=fun g=>0) () ?_ ?_ ?_ ?_
 ·exact⟨rfl,rfl,trivial⟩
 ·exact Pt.zC
 ·rfl
 rintro _ V3 ks' O' rfl hk hO hl3
 subst hk hO
 refine At.nrm ?_
 refine At.zh (.q 0 (.q 1 (.q 2 .done))) ?_
 refine AtT.zf ?_
 refine AtT.zf ?_
 refine AtT.qd ?_
 refine AtT.done ?_
 refine At.nrm ?_
 refine At.qh rfl (by decide) ?_
 refine At.nrm ?_
 exact At.end0 rfl rfl
theorem sort0_f (V:View) (a:Option Addr) (c:Nat) (g:Value):Fnc Tryz.prog 101 [.slice a 0 c,g] V fun r _=>r=.tuple #[]:=by
 refine qa Tryz.func101 rfl Tryz.ntmps101 (Nat.le_of_ble_eq_true rfl) ?_
 intro w0 hw0
 refine At.nrm ?_
 refine At.zh (.q 0 (.q 1 (.q 2 (.q 3 (.n false 4 .done))))) ?_
 refine AtT.zf ?_
 refine AtT.zf ?_
 first | refine AtT.zW Tryz.underlying22 ?_ | refine AtT.zX Tryz.underlying22 ?_
 refine AtT.zf ?_
 refine AtT.zR rfl rfl ok155 (stable0_f _ a c g) ?_
 rintro _ rfl
 refine AtT.done ?_
 refine At.nrm ?_
 exact At.end0 rfl rfl
end
end Go.Proofs.YtmdcedioddchfaaGreatDoor.D
end
section
set_option linter.unusedVariables false
namespace Go.Proofs.YtmdcedioddchfaaGreatDoor.D
open Go.Lw Go.Ps Go.Gr Go.RowKit
open Go.Gl (iv ivs qy)
structure GvR (V:View) (os:List Od) (S:List Int) (bm:Nat) (N:GM) (c:Nat):Prop where
 blk:V bm=some (jC plk iv N c)
 ok:MOk N c
 bd:∀ e∈N,0≤e.1.2∧e.1.2<5∧0≤e.2.1
 ex:∃ os':List Od,os'.Perm os∧os'.Pairwise (fun a b=>a.g≤b.g)∧∀ h,h<5→sumG N h=S.getD h 0-(filL S os').getD h 0
structure GvG where
 k:Nat
 Ds:List Nat
 T:List Int
 N:GM
 c:Nat
structure GvH where
 m:Nat
 T:List Int
 w:Int
 N:GM
 c:Nat
section
variable {s:Sp} {a1:Option Addr} {c1:Nat} {a2:Option Addr} {c2:Nat} {a3:Option Addr} {c3:Nat} {V:View} {b:Nat} {S:List Int}
set_option maxHeartbeats 6400000 in
theorem give_f (hs:SpOk s) (h:StV V b s a1 c1 a2 c2 a3 c3 S):Fnc Tryz.prog 52 [.pointer (some ⟨b,0,none⟩)] V fun r V'=>∃ bm N c,r=.map (some bm)∧GvR V' s.os S bm N c:=by
 have hh:=st_hd h
 have hos:=h.sh.os
 have hl3:=hos.qV
 have ho8:=hs.o
 have hS:=h.ok
 have hSl:=hS.len
 obtain⟨s0,s1,s2,s3,s4,hSe⟩:∃ s0 s1 s2 s3 s4,S=[s0,s1,s2,s3,s4]:=by
  match S,hSl with
  | [s0,s1,s2,s3,s4],_=>exact⟨_,_,_,_,_,rfl⟩
 have hcS:Cells V ⟨b,0+3,none⟩ [iv s0,iv s1,iv s2,iv s3,iv s4]:=by
  have h0:=(qp h.blk).at (k:=3) (vs:=[iv s0,iv s1,iv s2,iv s3,iv s4]) fun j u hj=>by
   rw[hSe]
   rw[show 3+j=j+1+1+1 by omega]
   exact hj
  rwa[Addr.add_lit]at h0
 refine fn_ofM Tryz.func52 rfl Tryz.ntmps52 (Nat.le_of_ble_eq_true rfl) ?_
 intro w0 hw0
 refine At.nrm ?_
 refine At.zh (.n false 0 (.q 1 .done)) ?_
 refine AtT.jA ?_
 intro b1
 refine AtT.zg ?_
 refine AtT.done ?_
 refine At.nrm ?_
 refine At.giveB (b:=b1) zM.zC (fun V1 hV1 hb1=>?_)
 have hq1:=qp hb1
 have h1:=h.le hV1
 have hh1:=st_hd h1
 have hos1:=hos.le hV1
 have hv1:jd V1 ⟨b1,0,none⟩=some (.pointer (some ⟨b,0,none⟩)):=by rw[vc_of hb1]; rfl
 refine At.nrm ?_
 refine At.zh (.q 0 (.q 1 (.q 2 (.q 3 (.n false 4 (.n true 5 .done)))))) ?_
 refine AtT.load rfl trivial rfl tk63 hv1 (by decide) ?_
 refine AtT.qZ ?_
 first | refine AtT.zk jm ?_ | with_reducible refine AtT.zm jm ?_ | refine AtT.zo jm ?_
 refine AtT.loadA rfl trivial rfl tk68 (hcS.le hV1) rfl (by decide) ?_
 refine AtT.qE z68 ?_
 intro b3
 refine AtT.zU tk68 ?_
 refine AtT.done ?_
 refine At.nrm ?_
 refine At.zh (.q 0 .done) ?_
 refine AtT.zg ?_
 refine AtT.done ?_
 refine At.nrm ?_
 refine At.zh (.q 0 (.q 1 (.q 2 (.q 3 (.q 4 (.q 5 (.q 6 .done))))))) ?_
 refine AtT.load rfl trivial rfl tk63 hv1 (by decide) ?_
 refine AtT.qZ ?_
 first | refine AtT.zk qC ?_ | with_reducible refine AtT.zm qC ?_ | refine AtT.zo qC ?_
 first | refine AtT.zk qF ?_ | with_reducible refine AtT.zm qF ?_ | refine AtT.zo qF ?_
 refine AtT.load rfl trivial rfl tk37 hh1.2.2 (by decide) ?_
 first | refine AtT.zW Tryz.underlying37 ?_ | refine AtT.zX Tryz.underlying37 ?_
 refine AtT.zf ?_
 refine AtT.done ?_
 refine At.nrm ?_
 refine At.newRow 3 1 ?_
 refine At.lp (ι:=Nat×Option Addr×Nat) (KS:=fun g=>[(1,.pointer (some ⟨b1,0,none⟩)),(3,.pointer (some ⟨b3,0,none⟩)),(4,.slice g.2.1 (orL g.1).length g.2.2),(23,iv s.os.length),(24,iv g.1)])
  (OS:=fun g=>[.blk b3 (LC (flat ei S) 68),.row (.slice g.2.1 (orL g.1).length g.2.2) 3 1 (orL g.1).length (flat ei (orL g.1))])
  (VS:=fun g V'=>Le V1 V'∧g.1≤s.os.length) (μ:=fun g=>s.os.length-g.1) (0,none,0) ?_ ?_ ?_ ?_
 ·exact⟨rfl,rfl,rfl,rfl,rfl,trivial⟩
 ·rw[hSe]
  ·exact Pt.zC
 ·exact⟨Le.refl _,Nat.zero_le _⟩
 rintro⟨k,ao,co⟩ V2 ks' O' ⟨hV2,hk1⟩ hk hO hl2
 dsimp only at hk1 hk hO
 subst hk hO
 refine At.nrm ?_
 refine At.zh (.q 0 .done) ?_
 refine AtT.qd ?_
 refine AtT.done ?_
 refine At.nrm ?_
 have hok:=orL_len k
 refine At.qb rfl (fun hc=>?_) (fun hc=>?_)
 ·refine At.nrm ?_
  refine At.zh (.q 0 (.q 1 .done)) ?_
  refine AtT.zf ?_
  refine AtT.zg ?_
  refine AtT.done ?_
  refine At.nrm ?_
  refine At.zh (.q 0 (.q 1 (.n false 2 (.n true 3 (.q 4 .done))))) ?_
  refine AtT.zf ?_
  refine AtT.zf ?_
  refine AtT.qz (bs22_1_0 _) ?_
  intro q29 V29 hV29 hq29
  have g29:Le V V29:=by first | exact hV29 | exact Le.trans (by assumption) hV29
  first | refine AtT.kappend Tryz.underlying22 rw3 ?_
  intro a30 c30
  refine AtT.zg ?_
  refine AtT.done ?_
  refine At.nrm ?_
  refine At.nrm ?_
  refine At.zh (.q 0 (.q 1 .done)) ?_
  first | refine AtT.ql ?_ | refine AtT.zP ?_
  refine AtT.zf ?_
  refine AtT.done ?_
  refine At.nrm ?_
  refine At.round (k+1,a30,c30) ?_ ?_ ?_ ?_
  ·show s.os.length-(k+1)<s.os.length-k; omega
  ·exact⟨hV2.trans (by first | assumption | exact Le.refl _),by dsimp only; omega⟩
  ·dsimp only
   rw[orL_succ,List.length_append]
   exact⟨rfl,rfl,rfl,rfl,ivs (by push_cast; omega),trivial⟩
  dsimp only
  rw[orL_succ,qy,List.length_append]
  ·exact Pt.zC
 obtain rfl:k=s.os.length:=by omega
 have hol:=orL_len s.os.length
 refine At.nrm ?_
 refine At.cutG (ι:=Option Addr×Nat×List Int) (fun g=>[(1,.pointer (some ⟨b1,0,none⟩)),(3,.pointer (some ⟨b3,0,none⟩)),(4,.slice g.1 g.2.2.length g.2.1)]) (fun g=>[.blk b3 (LC (flat ei S) 68)])
  (fun g V'=>Le V2 V'∧SlI V' (.slice g.1 g.2.2.length g.2.1) g.2.2∧g.2.2.Perm (orL s.os.length)∧g.2.2.Pairwise (fun a b=>kG s.os a≤kG s.os b)) ?_ ?_
 ·by_cases hz:s.os.length=0
  ·have h0:(orL s.os.length)=[]:=List.eq_nil_of_length_eq_zero (by omega)
   rw[h0]
   refine At.zh (.q 0 (.q 1 (.n false 2 .done))) ?_
   refine AtT.zf ?_
   refine AtT.kfn ?_
   refine AtT.zR rfl rfl ok101 (sort0_f _ ao co _) ?_
   rintro _ rfl
   refine AtT.done ?_
   refine At.nrm ?_
   refine At.giveSl (l:=([]:List Int)) Lw.zZ rfl rfl zM.zC (fun V6 hV6 hs6=>?_)
   exact At.meetG (ao,co,[]) ⟨hV6,hs6,List.Perm.refl _,List.Pairwise.nil⟩ ⟨rfl,rfl,rfl,trivial⟩ Pt.zC
  ·refine At.rowBlk2 (v:=.slice ao (orL s.os.length).length co) zM.zC (by omega) (fun bb cap rest hbb hcap hcm hrl=>?_)
   cases hbb
   refine At.zh (.q 0 (.q 1 (.n true 2 .done))) ?_
   refine AtT.zf ?_
   refine AtT.kfn ?_
   refine AtT.callM rfl trivial rfl ok101 (by decide) (zM.perm zM.zC) (sort_f hs (h1.le hV2) ⟨b1,0,none⟩ (hq1.le hV2) (orL s.os.length) rest bb co (fun x hx=>by obtain⟨i,hi,rfl⟩:=orL_mem.1 hx; omega) (by omega)) ?_
   rintro _ _ V3 ⟨hV3,rfl,l',hp',hs',rfl⟩
   refine AtT.done ?_
   refine At.nrm ?_
   refine At.giveB (b:=bb) zM.zC (fun V6 hV6 hb6=>?_)
   have hll:=hp'.length_eq
   refine At.meetG (some ⟨bb,0,none⟩,co,l') ⟨hV3.trans hV6,Sl.of_cells Lw.zZ (cells_pre hb6) (by rw[hll]; exact hcap) hcm,hp',hs'⟩ ⟨rfl,rfl,?_,trivial⟩ Pt.zC
   dsimp only
   rw[hll]; rfl
 rintro⟨al,cl,L⟩ V3 ks' O' ⟨hV3,hsL,hpL,hsrt⟩ hk hO hl3
 dsimp only at hsL hpL hsrt hk hO
 subst hk hO
 have hLn:=hpL.length_eq
 have hV13:=hV2.trans hV3
 have hLlen:=hsL.qV
 refine At.nrm ?_
 refine At.zh (.n false 0 (.n false 1 (.n true 2 .done))) ?_
 refine AtT.makeMap rfl trivial plk iv (by decide) ?_
 intro b35
 refine AtT.qE z96 ?_
 intro b6
 first | refine AtT.qX tk96 ?_ | refine AtT.zU tk96 ?_
 refine AtT.done ?_
 refine At.nrm ?_
 refine At.zh (.q 0 (.q 1 (.q 2 .done))) ?_
 refine AtT.zf ?_
 first | refine AtT.zW Tryz.underlying22 ?_ | refine AtT.zX Tryz.underlying22 ?_
 refine AtT.zf ?_
 refine AtT.done ?_
 refine At.nrm ?_
 refine At.lpD (ι:=GvG) (DS:=fun g=>g.Ds.map mkD) (KS:=fun g=>[(1,.pointer (some ⟨b1,0,none⟩)),(3,.pointer (some ⟨b3,0,none⟩)),(6,.pointer (some ⟨b6,0,none⟩)),(36,.slice al L.length cl),(37,iv L.length),(38,iv g.k)])
  (OS:=fun g=>.blk b3 (LC (flat ei g.T) 68)::.blk b6 (LC [.map (some b35)] 96)::.blk b35 (jC plk iv g.N g.c)::g.Ds.map dfB)
  (VS:=fun g V'=>Le V3 V'∧g.k≤L.length∧RI S g.N g.c g.T∧(∀ e∈g.N,e.1.1∈L.take g.k)∧g.T=filL S ((L.take g.k).map (oA s.os))) (μ:=fun g=>L.length-g.k) ⟨0,[],S,[],0⟩ rfl ?_ ?_ ?_ ?_
 ·exact⟨rfl,rfl,rfl,rfl,rfl,rfl,trivial⟩
 ·exact Pt.qg
 ·exact⟨Le.refl _,Nat.zero_le _,RI.nil hS,fun e he=>(by cases he),rfl⟩
 rintro⟨k,Ds,T,N,c⟩ V4 ks' O' ⟨hV4,hkl,hR,hkeys,hT⟩ hk hO hl4
 dsimp only at hkl hR hkeys hT hk hO
 subst hk hO
 have hV14:=hV13.trans hV4
 refine At.nrm ?_
 refine At.zh (.q 0 .done) ?_
 refine AtT.qd ?_
 refine AtT.done ?_
 refine At.nrm ?_
 refine At.qb rfl (fun hc=>?_) (fun hc=>?_)
 ·have hkL:k<L.length:=by omega
  have hn:=hs.n
  obtain⟨x,hx⟩:∃ x,L[k]? = some x:=⟨_,List.getElem?_eq_getElem hkL⟩
  obtain⟨j,hj,rfl⟩:=orL_mem.1 ((hpL.mem_iff).1 (List.mem_of_getElem? hx))
  obtain⟨o,ho⟩:∃ o,s.os[j]? = some o:=⟨_,List.getElem?_eq_getElem hj⟩
  have hob:=hs.ob o (List.mem_of_getElem? ho)
  have hoA:=oA_at ho
  have hsL4:=hsL.le hV4
  have h4:=h1.le hV14
  have hh4:=st_hd h4
  have hos4:=h4.sh.os
  have hv4:jd V4 ⟨b1,0,none⟩=some (.pointer (some ⟨b,0,none⟩)):=by rw[vc_of (hV14 _ _ hb1)]; rfl
  have hndL:L.Nodup:=hpL.nodup_iff.2 (orL_nodup _)
  have htkL:L.take (k+1)=L.take k++[(j:Int)]:=by rw[List.take_add_one,hx]; rfl
  have hjn:(j:Int)∉L.take k:=fun hm=>by
   have:=hndL.sublist (List.take_sublist (k+1) L)
   rw[htkL]at this
   exact(List.nodup_append.1 this).2.2 _ hm _ (by simp) rfl
  refine At.nrm ?_
  refine At.zh (.q 0 (.q 1 (.n false 2 (.n true 3 .done)))) ?_
  refine AtT.qj Tryz.underlying22 tk3 ?_
  intro p40 e40 he40 hc40
  obtain rfl:(j:Int)=e40:=by have:L[k]? = some e40:=(by simpa using he40); rw[hx]at this; simpa using this
  first | refine AtT.zn tk3 ?_ | refine AtT.zq tk3 ?_
  refine AtT.qE z3 ?_
  intro b8
  first | refine AtT.qX tk3 ?_ | refine AtT.zU tk3 ?_
  refine AtT.done ?_
  refine At.nrm ?_
  refine At.draw (.q 0 (.q 1 (.q 2 (.q 3 (.q 4 (.q 5 (.q 6 (.q 7 (.q 8 (.n false 9 (.n true 10 .done))))))))))) ffm (by kernel_rfl) ?_
  refine AtT.load rfl trivial rfl tk63 hv4 (by decide) ?_
  refine AtT.qZ ?_
  first | refine AtT.zk qC ?_ | with_reducible refine AtT.zm qC ?_ | refine AtT.zo qC ?_
  first | refine AtT.zk qF ?_ | with_reducible refine AtT.zm qF ?_ | refine AtT.zo qF ?_
  refine AtT.load rfl trivial rfl tk37 hh4.2.2 (by decide) ?_
  first | refine AtT.zn tk3 ?_ | refine AtT.zq tk3 ?_
  refine AtT.qj Tryz.underlying37 tk45 ?_
  intro p48 e48 he48 hc48
  obtain rfl:o=e48:=by have:s.os[j]? = some e48:=(by simpa using he48); rw[ho]at this; simpa using this
  first | refine AtT.zk fo45_1 ?_ | with_reducible refine AtT.zm fo45_1 ?_ | refine AtT.zo fo45_1 ?_
  first | refine AtT.zn tk2 ?_ | refine AtT.zq tk2 ?_
  refine AtT.qE z2 ?_
  intro b9
  first | refine AtT.qX tk2 ?_ | refine AtT.zU tk2 ?_
  refine AtT.done ?_
  refine At.nrm ?_
  refine At.zh (.q 0 (.q 1 (.n false 2 .done))) ?_
  refine AtT.load rfl trivial rfl tk63 hv4 (by decide) ?_
  first | refine AtT.zn tk3 ?_ | refine AtT.zq tk3 ?_
  refine AtT.jM rfl rfl ok84 (grades_f j) ?_
  rintro _ V53 hV53 ⟨q2,q3,rfl,hq2,hq3⟩
  refine AtT.done ?_
  refine At.nrm ?_
  have hV53':=hV14.trans hV53
  have hit:=iterG_f hs (h1.le hV53') j o ho q2 q3 hq2 hq3
  have hRn:RnB (T,o.m):=⟨hR.st,by dsimp only; omega⟩
  refine At.rangeFuncD (Vi:=V53) (ys:=ysG o.g.toNat) (ι:=GvH) (fun g=>g.m)
   (fun g=>.blk b9 (LC [iv g.w] 2)::.blk b8 (LC [iv j] 3)::.blk b3 (LC (flat ei g.T) 68)::.blk b6 (LC [.map (some b35)] 96)::.blk b35 (jC plk iv g.N g.c)::Ds.map dfB)
   (fun g V'=>Le V53 V'∧(g.T,g.w)=rnS (T,o.m) ((dn (o.g.toNat+1)).take g.m)∧RI S g.N g.c g.T∧∀ e∈g.N,e.1.1∈L.take k∨(e.1.1=(j:Int)∧o.g-g.m<e.1.2)) (fun _ _ _=>False) rfl ok150 ⟨0,T,o.m,N,c⟩ rfl ?_ ⟨Le.refl _,rfl,hR,fun e he=>.inl (hkeys e he)⟩ hit (fun _ _ h=>h.1) (by decide) (fun y hy=>by obtain⟨j,_,rfl⟩:=List.mem_map.1 hy; rfl) ?_ ?_ (fun _ _ _ _ h=>h.elim)
  ·exact Pt.qg
  ·rintro⟨m,T',w',N',c'⟩ y l D r V6 ks' O' hy ⟨hV6,hrn,hR',hk'⟩ hl rfl rfl
   dsimp only at hy hrn hR' hk'⊢
   have hm:m<o.g.toNat+1:=by
    have:=(List.getElem?_eq_some_iff.1 hy).1
    rwa[ysG,List.length_map,dn_len]at this
   obtain⟨hG,hGe⟩:∃ hG:Nat,hG=o.g.toNat-m:=⟨_,rfl⟩
   have hdm:(dn (o.g.toNat+1))[m]? = some hG:=by rw[dn_at hm,hGe]; congr 1
   obtain rfl:y=[iv (hG:Int)]:=by rw[ysG,List.getElem?_map,hdm]at hy; exact(Option.some.inj hy).symm
   have htk:(dn (o.g.toNat+1)).take (m+1)=(dn (o.g.toNat+1)).take m++[hG]:=by rw[List.take_add_one,hdm]; rfl
   have hb:=hRn.rn ((dn (o.g.toNat+1)).take m)
   rw[←hrn]at hb
   have ht:=hb.tk hG
   have htw:=hb.w
   have hTb:=hb.st.at hG
   dsimp only at ht htw hTb
   have hTl:=hR'.st.len
   have hG5:hG<5:=by omega
   have hsn:=rnS_snoc (T,o.m) ((dn (o.g.toNat+1)).take m) hG
   rw[←htk,←hrn]at hsn
   obtain⟨v,hv⟩:∃ v,v=Gr.tk1 (T',w') hG:=⟨_,rfl⟩
   have hvm:v=min w' (T'.getD hG 0):=hv
   rw[←hv]at ht
   have hat:(flat ei T')[0+hG*1]? = some (iv (T'.getD hG 0)):=by rw[Nat.zero_add,Nat.mul_one,qw,List.getElem?_map,List.getD_eq_getElem?_getD,List.getElem?_eq_getElem (by omega)]; rfl
   have hset:SetAt (flat ei T') (0+hG*1) (iv (T'.getD hG 0-v)) (flat ei (T'.set hG (T'.getD hG 0-v))):=setAt_of (by rw[zJ Lw.zZ]; omega) (by rw[Nat.zero_add,Nat.mul_one,qw,qw,List.map_set])
   have hnew:∀ e∈N',e.1≠((j:Int),(hG:Int)):=fun e he h=>by
    rcases hk' e he with h1 | ⟨h1,h2⟩
    ·rw[h]at h1; exact hjn h1
    ·rw[h]at h2; dsimp only at h2; omega
   have hst:=hR'.step hb hG5 hnew
   rw[←hv]at hst
   show At _ _ ((54,iv (hG:Int))::_) _ _ _
   refine At.nrm ?_
   refine At.zh (.q 0 .done) ?_
   refine AtT.zg ?_
   refine AtT.done ?_
   refine At.nrm ?_
   refine At.begin zM.zC ?_
   refine At.nrm ?_
   refine At.draw (.q 0 (.q 1 (.q 2 (.q 3 (.q 4 (.q 5 .done)))))) ffm (by kernel_rfl) ?_
   first | refine AtT.zn tk2 ?_ | refine AtT.zq tk2 ?_
   refine AtT.zf ?_
   refine AtT.jh Tryz.underlying68 tk2 ?_
   rw[Int.toNat_natCast]
   refine AtT.jK rfl trivial rfl tk2 zM.zC hat (by decide) ?_
   refine AtT.kmin2 ?_
   rw[←hvm]
   refine AtT.zg ?_
   refine AtT.done ?_
   refine At.nrm ?_
   refine At.zh (.q 0 (.q 1 (.q 2 (.q 3 (.q 4 (.n true 5 .done)))))) ?_
   first | refine AtT.zn tk96 ?_ | refine AtT.zq tk96 ?_
   first | refine AtT.zn tk3 ?_ | refine AtT.zq tk3 ?_
   refine AtT.zf ?_
   refine AtT.kbuild (bd99_0_1 _ _) ?_
   refine AtT.zf ?_
   refine AtT.mapNew rfl trivial key191 ((j:Int),(hG:Int)) v Tryz.underlying96 rfl rfl rfl (fk_new hnew) (by repeat first|exact Upd.here|apply Upd.there) ?_
   refine AtT.done ?_
   refine At.nrm ?_
   refine At.zh (.q 0 (.q 1 (.q 2 (.q 3 (.q 4 (.q 5 (.n true 6 .done))))))) ?_
   refine AtT.zf ?_
   refine AtT.jh Tryz.underlying68 tk2 ?_
   rw[Int.toNat_natCast]
   refine AtT.jK rfl trivial rfl tk2 zM.zC hat (by decide) ?_
   refine AtT.zf ?_
   first | refine AtT.jD ?_ | refine AtT.jE ?_
   refine AtT.jh Tryz.underlying68 tk2 ?_
   rw[Int.toNat_natCast]
   refine AtT.store1 rfl trivial rfl rfl tk2 rfl rfl (by repeat first|exact Upd.here|apply Upd.there) hset ?_
   refine AtT.done ?_
   refine At.nrm ?_
   refine At.zh (.q 0 (.q 1 (.q 2 (.n true 3 .done)))) ?_
   first | refine AtT.zn tk2 ?_ | refine AtT.zq tk2 ?_
   refine AtT.zf ?_
   first | refine AtT.jD ?_ | refine AtT.jE ?_
   first | refine AtT.qX tk2 ?_ | refine AtT.zU tk2 ?_
   refine AtT.done ?_
   refine At.nrm ?_
   refine At.roundN ⟨m+1,T'.set hG (T'.getD hG 0-v),w'-v,N'++[(((j:Int),(hG:Int)),v,c')],c'+1⟩ rfl ⟨hV6,?_,?_,fun e he=>?_⟩ zM.zC ?_
   ·rw[hsn,hv]; rfl
   ·have he2:(stp (T',w') hG).1=T'.set hG (T'.getD hG 0-v):=by rw[hv]; rfl
    rw[he2]at hst; exact hst
   ·rcases List.mem_append.1 he with h1 | h1
    ·rcases hk' e h1 with h2 | ⟨h2,h3⟩
     ·exact .inl h2
     ·exact .inr ⟨h2,by dsimp only; omega⟩
    ·rw[List.mem_singleton]at h1; subst h1
     exact .inr ⟨rfl,by dsimp only; omega⟩
   ·exact Pt.qg
  ·rintro⟨m,T',w',N',c'⟩ D V6 O' hm ⟨hV6,hrn,hR',hk'⟩ hl rfl
   dsimp only at hm hrn hR' hk'⊢
   rw[ysG,List.length_map,dn_len]at hm
   subst hm
   rw[List.take_of_length_le (by rw[dn_len]; exact Nat.le_refl _)]at hrn
   have hfil:T'=fil T o:=congrArg Prod.fst hrn
   refine At.sub (ks':=[(1,.pointer (some ⟨b1,0,none⟩)),(3,.pointer (some ⟨b3,0,none⟩)),(6,.pointer (some ⟨b6,0,none⟩)),(36,.slice al L.length cl),(37,iv L.length),(38,iv k)]) ⟨rfl,rfl,rfl,rfl,rfl,rfl,trivial⟩ ?_
   refine At.nrm ?_
   refine At.zh (.q 0 (.q 1 .done)) ?_
   first | refine AtT.ql ?_ | refine AtT.zP ?_
   refine AtT.zf ?_
   refine AtT.done ?_
   refine At.nrm ?_
   refine At.roundD (cx:=⟨w0,V,[]⟩) (ι:=GvG) (DS:=fun g=>g.Ds.map mkD) (i:=⟨k,Ds,T,N,c⟩) ⟨k+1,D::Ds,T',N',c'⟩ ?_ ?_ rfl ?_ ?_
   ·show L.length-(k+1)<L.length-k; omega
   ·refine⟨(hV4.trans hV53).trans hV6,hkL,hR',fun e he=>?_,?_⟩
    ·dsimp only
     rw[htkL,List.mem_append,List.mem_singleton]
     rcases hk' e he with h1 | ⟨h1,_⟩
     ·exact .inl h1
     ·exact .inr h1
    ·dsimp only
     rw[htkL,List.map_append,List.map_cons,List.map_nil,hoA,filL_snoc,←hT]; exact hfil
   ·exact⟨rfl,rfl,rfl,rfl,rfl,ivs (by push_cast; omega),trivial⟩
   ·exact Pt.qg
 obtain rfl:k=L.length:=by omega
 rw[List.take_length]at hT
 have hborn:=hR.ok.borns
 have hkeysN:=hR.ok.keys
 refine At.nrm ?_
 refine At.zh (.q 0 (.n false 1 .done)) ?_
 first | refine AtT.zn tk96 ?_ | refine AtT.zq tk96 ?_
 refine AtT.range rfl trivial Tryz.underlying96 rfl zM.zC (by decide) ?_
 intro b76
 refine AtT.done ?_
 refine At.nrm ?_
 refine At.lp (ι:=Array Nat) (KS:=fun _=>[(6,.pointer (some ⟨b6,0,none⟩)),(76,.pointer (some ⟨b76,0,none⟩))])
  (OS:=fun seen=>.blk b76 (.mapIter (some b35) c seen c)::.blk b6 (LC [.map (some b35)] 96)::.blk b35 (jC plk iv (left (fun e=>!decide (e.2.1=0)) N seen) c)::Ds.map dfB)
  (VS:=fun _ V'=>V'=V4) (μ:=fun seen=>(N.filter fun e=>!seen.contains e.2.2).length) #[] ?_ ?_ ?_ ?_
 ·exact⟨rfl,rfl,trivial⟩
 ·rw[left_nil]
  exact Pt.qg
 ·rfl
 rintro seen _ ks' O' rfl hk hO hl5
 subst hk hO
 have hsub:∀ e∈left (fun e=>!decide (e.2.1=0)) N seen,e∈N:=fun e he=>(List.mem_filter.1 he).1
 refine At.nrm ?_
 refine At.zh (.n true 0 (.q 1 .done)) ?_
 all_goals (refine AtT.next rfl trivial rfl zM.zC zM.zC (fun e he=>hR.ok.lt e (hsub e he)) (Nat.le_refl _) (by decide) (fun hall=>?_) (fun e he hns=>?_))
 all_goals (refine AtT.zV ?_)
 all_goals refine AtT.done ?_
 all_goals (refine At.nrm ?_)
 ·refine At.qh rfl rfl ?_
  rw[left_end hall]
  refine At.nrm ?_
  refine At.zh (.q 0 (.q 1 .done)) ?_
  first | refine AtT.zn tk96 ?_ | refine AtT.zq tk96 ?_
  refine AtT.zg ?_
  refine AtT.done ?_
  refine At.nrm ?_
  refine At.giveB (b:=b35) zM.zC (fun V5 hV5 hb35=>?_)
  refine At.unmarks Ds (R:=[.blk b76 (.mapIter (some b35) c seen c),.blk b6 (LC [.map (some b35)] 96)]) (.inl rfl) rfl (List.perm_append_comm (l₁:=[_,_])) ?_
  refine At.qf rfl (.tmp rfl) ⟨b35,_,c,rfl,hb35,⟨hkeysN.sublist (List.filter_sublist.map _),hborn.sublist (List.filter_sublist.map _),fun e he=>hR.ok.lt e (List.mem_filter.1 he).1⟩,fun e he=>hR.bd e (List.mem_filter.1 he).1,L.map (oA s.os),?_,?_,fun g hg=>?_⟩
  ·have:=hpL.map (oA s.os)
   rwa[orL_os]at this
  ·exact List.pairwise_map.2 (hsrt.imp fun {a b} h=>by rw[oA_g,oA_g]at h; exact h)
  ·rw[sumG_filter,hR.sum g hg,hT]
 ·refine At.jo rfl rfl ?_
  have heM:=hsub e he
  have hun:=unseen_lt heM hns
  have hnd2:((left (fun e=>!decide (e.2.1=0)) N seen).map (·.2.2)).Nodup:=hborn.sublist (List.filter_sublist.map _)
  refine At.nrm ?_
  refine At.zh (.n false 0 (.q 1 (.q 2 (.n false 3 (.n true 4 (.q 5 .done)))))) ?_
  refine AtT.entry rfl trivial rfl zM.zC zM.zC he hnd2 (by decide) ?_
  refine AtT.zV ?_
  refine AtT.zV ?_
  refine AtT.qE z99 ?_
  intro b12
  refine AtT.zU tk99 ?_
  refine AtT.zg ?_
  refine AtT.done ?_
  refine At.nrm ?_
  refine At.zh (.q 0 (.q 1 .done)) ?_
  refine AtT.zf ?_
  refine AtT.keqI ?_
  refine AtT.done ?_
  refine At.nrm ?_
  refine At.qb rfl (fun hm=>?_) (fun hm=>?_)
  ·have hg:(!decide (e.2.1=0))=false:=by rw[decide_eq_true hm]; rfl
   have hdel:=left_del (g:=fun e:(Int×Int)×Int×Nat=>!decide (e.2.1=0)) (seen:=seen) hborn hkeysN heM hg
   refine At.nrm ?_
   refine At.zh (.q 0 (.q 1 (.n true 2 .done))) ?_
   first | refine AtT.zn tk96 ?_ | refine AtT.zq tk96 ?_
   first | refine AtT.zL tk99 ?_ | refine AtT.zS tk99 ?_ | refine AtT.zK tk99 ?_
   refine AtT.mapDel rfl trivial key191 e.1 iv rfl Tryz.underlying96 rfl rfl (by repeat first|exact Upd.here|apply Upd.there) ?_
   refine AtT.done ?_
   refine At.nrm ?_
   refine At.round (seen.push e.2.2) hun rfl ⟨rfl,rfl,trivial⟩ ?_
   rw[hdel]
   exact Pt.qg
  ·have hg:(!decide (e.2.1=0))=true:=by rw[decide_eq_false hm]; rfl
   have hkeep:=left_keep (g:=fun e:(Int×Int)×Int×Nat=>!decide (e.2.1=0)) (seen:=seen) hborn heM hg
   refine At.nrm ?_
   refine At.round (seen.push e.2.2) hun rfl ⟨rfl,rfl,trivial⟩ ?_
   rw[hkeep]
   exact Pt.qg
end
end Go.Proofs.YtmdcedioddchfaaGreatDoor.D
end
section
set_option linter.unusedVariables false
namespace Go.Proofs.YtmdcedioddchfaaGreatDoor.D
open Go.Lw Go.Ps Go.Gr Go.RowKit
open Go.Gl (iv ivs qy)
structure SpI (N:GM) (seen:Array Nat) (T:List Int):Prop where
 len:T.length=5
 nn:∀ h,0≤T.getD h 0
 sum:∀ h,h<5→T.getD h 0+sumU N seen h=sumG N h
theorem SpI.step {N:GM} {seen:Array Nat} {T:List Int} {e:(Int×Int)×Int×Nat} (hI:SpI N seen T) (hb:(N.map (·.2.2)).Nodup) (he:e∈N) (hs:e.2.2∉seen) (h1:0≤e.1.2∧e.1.2<5) (h2:0≤e.2.1) :
  SpI N (seen.push e.2.2) (T.set e.1.2.toNat (T.getD e.1.2.toNat 0+e.2.1)):=by
 have hl:=hI.len
 refine⟨by rw[List.length_set]; exact hl,fun h=>?_,fun h hh=>?_⟩
 ·rw[getD_set _ _ _ _ (by omega)]
  have:=hI.nn h
  have:=hI.nn e.1.2.toNat
  split<;>omega
 ·have h3:=hI.sum h hh
  have h4:=sumU_push hb he hs h
  rw[getD_set _ _ _ _ (by omega)]
  by_cases c:h=e.1.2.toNat
  ·rw[if_pos c]; rw[if_pos (by omega)]at h4; rw[←c]; omega
  ·rw[if_neg c]; rw[if_neg (by omega)]at h4; omega
section
variable {s:Sp} {a1:Option Addr} {c1:Nat} {a2:Option Addr} {c2:Nat} {a3:Option Addr} {c3:Nat} {V:View} {b:Nat} {S:List Int}
set_option maxHeartbeats 3200000 in
theorem spent_f (hs:SpOk s) (h:StV V b s a1 c1 a2 c2 a3 c3 S):Fnc Tryz.prog 22 [.pointer (some ⟨b,0,none⟩)] V fun r _=>∃ t0 t1 t2 t3 t4,r=.agg #[iv t0,iv t1,iv t2,iv t3,iv t4]∧Spn S s.os [t0,t1,t2,t3,t4]:=by
 have hS:=h.ok
 refine qa Tryz.func22 rfl Tryz.ntmps22 (Nat.le_of_ble_eq_true rfl) ?_
 intro w0 hw0
 refine At.nrm ?_
 refine At.zh (.n false 0 .done) ?_
 refine AtT.qE z68 ?_
 intro b2
 refine AtT.done ?_
 refine At.nrm ?_
 refine At.zh (.n false 0 .done) ?_
 refine AtT.qE z68 ?_
 intro b3
 refine AtT.done ?_
 refine At.nrm ?_
 refine At.zh (.q 0 (.n false 1 (.n false 2 .done))) ?_
 refine AtT.zf ?_
 refine AtT.jM rfl rfl ok52 (give_f hs h) ?_
 rintro _ V7 hV7 ⟨bm,N,c,rfl,hg⟩
 refine AtT.rangeV rfl trivial Tryz.underlying96 rfl (hg.blk) (by decide) ?_
 intro b8
 refine AtT.done ?_
 refine At.nrm ?_
 obtain⟨os',hp',hw',hsum⟩:=hg.ex
 have hom:∀ o∈os',0≤o.m∧o.m≤20:=fun o ho=>by have:=hs.ob o (hp'.mem_iff.1 ho); omega
 have hF:=hS.filL hom
 have hbd:∀ h,h<5→sumG N h≤51:=fun h hh=>by have:=hsum h hh; have:=hS.at h; have:=hF.at h; omega
 have hnn:∀ e∈N,0≤e.2.1:=fun e he=>(hg.bd e he).2.2
 refine At.lp (ι:=Array Nat×List Int) (KS:=fun _=>[(2,.pointer (some ⟨b2,0,none⟩)),(3,.pointer (some ⟨b3,0,none⟩)),(8,.pointer (some ⟨b8,0,none⟩))])
  (OS:=fun g=>[.blk b8 (.mapIter (some bm) c g.1 c),.blk b2 (LC [iv 0,iv 0,iv 0,iv 0,iv 0] 68),.blk b3 (LC (flat ei g.2) 68)])
  (VS:=fun g V'=>Le V7 V'∧SpI N g.1 g.2) (μ:=fun g=>(N.filter fun e=>!g.1.contains e.2.2).length) (#[],[0,0,0,0,0]) ?_ ?_ ?_ ?_
 ·exact⟨rfl,rfl,rfl,trivial⟩
 ·exact Pt.zC
 ·refine⟨Le.refl _,rfl,fun h=>?_,fun h hh=>?_⟩
  ·match h with
   | 0 | 1 | 2 | 3 | 4=>exact Int.le_refl 0
   | h+5=>exact Int.le_refl 0
  ·rw[sumU_nil]
   match h,hh with
   | 0,_ | 1,_ | 2,_ | 3,_ | 4,_=>exact Int.zero_add _
 rintro⟨seen,T⟩ V2 ks' O' ⟨hV2,hI⟩ hk hO hl2
 dsimp only at hI hk hO
 subst hk hO
 have hmb2:=hV2 _ _ hg.blk
 have hTl:=hI.len
 refine At.nrm ?_
 refine At.zh (.n true 0 (.q 1 .done)) ?_
 all_goals (refine AtT.nextV rfl trivial rfl zM.zC hmb2 (fun e he=>hg.ok.lt e he) (Nat.le_refl _) (by decide) (fun hall=>?_) (fun e he hns=>?_))
 all_goals (refine AtT.zV ?_)
 all_goals refine AtT.done ?_
 all_goals (refine At.nrm ?_)
 rotate_left
 ·refine At.jo rfl rfl ?_
  have hun:=unseen_lt he hns
  have heb:=hg.bd e he
  have hst:=hI.step hg.ok.borns he hns ⟨heb.1,heb.2.1⟩ heb.2.2
  have hT0:=hI.nn e.1.2.toNat
  have hT1:=hI.sum e.1.2.toNat (by omega)
  have hT2:=sumU_push hg.ok.borns he hns e.1.2.toNat
  rw[if_pos (by omega)]at hT2
  have hT3:=sumU_nonneg hnn (seen.push e.2.2) e.1.2.toNat
  have hT4:=hbd e.1.2.toNat (by omega)
  have hat:(flat ei T)[0+e.1.2.toNat*1]? = some (iv (T.getD e.1.2.toNat 0)):=by rw[Nat.zero_add,Nat.mul_one,qw,List.getElem?_map,List.getD_eq_getElem?_getD,List.getElem?_eq_getElem (by omega)]; rfl
  have hset:SetAt (flat ei T) (0+e.1.2.toNat*1) (iv (T.getD e.1.2.toNat 0+e.2.1)) (flat ei (T.set e.1.2.toNat (T.getD e.1.2.toNat 0+e.2.1))):=setAt_of (by rw[zJ Lw.zZ]; omega) (by rw[Nat.zero_add,Nat.mul_one,qw,qw,List.map_set])
  refine At.nrm ?_
  refine At.zh (.n false 0 (.q 1 (.q 2 (.n false 3 (.n true 4 (.q 5 .done)))))) ?_
  refine AtT.entryV rfl trivial rfl zM.zC hmb2 he hg.ok.borns (by decide) ?_
  refine AtT.zV ?_
  refine AtT.zV ?_
  refine AtT.qE z99 ?_
  intro b4
  refine AtT.zU tk99 ?_
  refine AtT.zg ?_
  refine AtT.done ?_
  refine At.nrm ?_
  refine At.zh (.q 0 (.q 1 (.q 2 (.q 3 (.q 4 (.q 5 (.q 6 (.n true 7 .done)))))))) ?_
  first | refine AtT.zk fo99_1 ?_ | with_reducible refine AtT.zm fo99_1 ?_ | refine AtT.zo fo99_1 ?_
  first | refine AtT.zn tk3 ?_ | refine AtT.zq tk3 ?_
  refine AtT.jh Tryz.underlying68 tk2 ?_
  refine AtT.jK rfl trivial rfl tk2 zM.zC hat (by decide) ?_
  refine AtT.zf ?_
  first | refine AtT.ql ?_ | refine AtT.zP ?_
  refine AtT.jh Tryz.underlying68 tk2 ?_
  refine AtT.store1 rfl trivial rfl rfl tk2 rfl rfl (by repeat first|exact Upd.here|apply Upd.there) hset ?_
  refine AtT.done ?_
  refine At.nrm ?_
  refine At.round (seen.push e.2.2,T.set e.1.2.toNat (T.getD e.1.2.toNat 0+e.2.1)) hun ⟨hV2,hst⟩ ⟨rfl,rfl,rfl,trivial⟩ ?_
  ·exact Pt.zC
 refine At.qh rfl rfl ?_
 have hfin:∀ h,h<5→T.getD h 0=S.getD h 0-(filL S os').getD h 0:=fun h hh=>by
  have h1:=hI.sum h hh
  rw[sumU_end hall,Int.add_zero]at h1
  rw[h1]; exact hsum h hh
 have hTb:StB T:=⟨hTl,fun x hx=>by
  obtain⟨i,hi,rfl⟩:=List.mem_iff_getElem.1 hx
  have h1:=hI.nn i
  have h2:=hI.sum i (by omega)
  rw[sumU_end hall,Int.add_zero]at h2
  have h3:=hbd i (by omega)
  rw[List.getD_eq_getElem?_getD,List.getElem?_eq_getElem hi,Option.getD_some]at h1 h2
  omega⟩
 have hspn:Spn S s.os T:=⟨hTb,os',hp',hw',hfin⟩
 obtain⟨t0,t1,t2,t3,t4,hTe⟩:∃ t0 t1 t2 t3 t4,T=[t0,t1,t2,t3,t4]:=by
  match T,hTl with
  | [s0,s1,s2,s3,s4],_=>exact⟨_,_,_,_,_,rfl⟩
 subst hTe
 refine At.pt (O':=[.blk b3 (LC [iv t0,iv t1,iv t2,iv t3,iv t4] 68),.blk b2 (LC [iv 0,iv 0,iv 0,iv 0,iv 0] 68)]) Pt.zC ?_
 refine At.nrm ?_
 refine At.zh (.q 0 (.q 1 (.q 2 .done))) ?_
 first | refine AtT.zL tk68 ?_ | refine AtT.zS tk68 ?_ | refine AtT.zK tk68 ?_
 refine AtT.kbuild (bd68) ?_
 refine AtT.keqS (eqS68 _ _ _ _ _ _ _ _ _ _) ?_
 refine AtT.done ?_
 refine At.nrm ?_
 refine At.qb rfl (fun hz=>?_) (fun hz=>?_)
 ·obtain⟨rfl,rfl,rfl,rfl,rfl⟩:=hz
  refine At.nrm ?_
  refine At.zh (.q 0 (.n true 1 .done)) ?_
  refine AtT.kbuild (bd68) ?_
  refine AtT.zU tk68 ?_
  refine AtT.done ?_
  refine At.nrm ?_
  exact At.qf rfl (.agg rfl tk68 zM.zC rfl) ⟨0,0,0,0,0,rfl,hspn⟩
 ·refine At.nrm ?_
  refine At.zh (.q 0 (.n true 1 .done)) ?_
  first | refine AtT.zL tk68 ?_ | refine AtT.zS tk68 ?_ | refine AtT.zK tk68 ?_
  refine AtT.zU tk68 ?_
  refine AtT.done ?_
  refine At.nrm ?_
  exact At.qf rfl (.agg rfl tk68 zM.zC rfl) ⟨t0,t1,t2,t3,t4,rfl,hspn⟩
theorem least_f (hs:SpOk s) (h:StV V b s a1 c1 a2 c2 a3 c3 S):Fnc Tryz.prog 21 [.pointer (some ⟨b,0,none⟩)] V fun r _=>∃ T,Spn S s.os T∧r=iv (kF s.pr T s.pr.length):=by
 refine qa Tryz.func21 rfl Tryz.ntmps21 (Nat.le_of_ble_eq_true rfl) ?_
 intro w0 hw0
 refine At.nrm ?_
 refine At.zh (.q 0 .done) ?_
 refine AtT.zg ?_
 refine AtT.done ?_
 refine At.nrm ?_
 refine At.zh (.q 0 (.q 1 (.n false 2 (.n false 3 (.q 4 .done))))) ?_
 refine AtT.zf ?_
 refine AtT.zf ?_
 refine AtT.jM rfl rfl ok22 (spent_f hs h) ?_
 rintro _ V5 hV5 ⟨t0,t1,t2,t3,t4,rfl,hT⟩
 refine AtT.zR rfl rfl ok51 (cost_f hs (h.le hV5) t0 t1 t2 t3 t4 hT.st) ?_
 rintro _ rfl
 refine AtT.zg ?_
 refine AtT.done ?_
 refine At.nrm ?_
 exact At.qf rfl (.tmp rfl) ⟨_,hT,rfl⟩
abbrev incS (S:List Int) (g:Nat):List Int:=S.set g (S.getD g 0+1)
theorem worth_f (hs:SpOk s) (h:StV V b s a1 c1 a2 c2 a3 c3 S) (hS50:∀ x∈S,x≤50) (g:Nat) (hg:g<5):Fnc Tryz.prog 25 [.pointer (some ⟨b,0,none⟩),iv g] V fun r _=>∃ T T',Spn S s.os T∧Spn (incS S g) s.os T'∧r=iv (kF s.pr T s.pr.length-kF s.pr T' s.pr.length):=by
 have hS:=h.ok
 have hSl:=hS.len
 have hp:=hs.p
 have hn:=hs.n
 obtain⟨s0,s1,s2,s3,s4,hSe⟩:∃ s0 s1 s2 s3 s4,S=[s0,s1,s2,s3,s4]:=by
  match S,hSl with
  | [s0,s1,s2,s3,s4],_=>exact⟨_,_,_,_,_,rfl⟩
 have hc0:Cells V ⟨b,0,none⟩ [.slice a1 s.st.length c1,.slice a2 s.pr.length c2,.slice a3 s.os.length c3,iv s0,iv s1,iv s2,iv s3,iv s4]:=by
  have:=qp h.blk
  rw[hSe]at this
  exact this
 have hg0:=hS.at g
 have hg1:S.getD g 0≤50:=by
  rw[List.getD_eq_getElem?_getD,List.getElem?_eq_getElem (by omega)]; exact hS50 _ (List.getElem_mem _)
 have hat:(stc s a1 c1 a2 c2 a3 c3 S)[0+3+g*1]? = some (iv (S.getD g 0)):=by
  rw[show 0+3+g*1=g+1+1+1 by omega]
  simp only[List.getElem?_cons_succ]
  rw[qw,List.getElem?_map,List.getD_eq_getElem?_getD,List.getElem?_eq_getElem (by omega)]; rfl
 have hset:SetAt (stc s a1 c1 a2 c2 a3 c3 S) (0+3+g*1) (iv (S.getD g 0+1)) (stc s a1 c1 a2 c2 a3 c3 (incS S g)):=by
  refine setAt_of (by simp only[List.length_cons]; rw[zJ Lw.zZ]; omega) ?_
  rw[show 0+3+g*1=g+1+1+1 by omega,List.set_cons_succ,List.set_cons_succ,List.set_cons_succ]
  show _::_::_::(flat ei S).set g (iv _)=_::_::_::flat ei (S.set g _)
  rw[qw,qw,List.map_set]
 have hSi:StB (incS S g):=⟨by rw[List.length_set]; exact hSl,fun x hx=>by
  rcases List.mem_or_eq_of_mem_set hx with h | h
  ·exact hS.bd x h
  ·omega⟩
 refine qa Tryz.func25 rfl Tryz.ntmps25 (Nat.le_of_ble_eq_true rfl) ?_
 intro w0 hw0
 refine At.nrm ?_
 refine At.zh (.q 0 .done) ?_
 refine AtT.zg ?_
 refine AtT.done ?_
 refine At.nrm ?_
 refine At.zh (.q 0 (.q 1 (.q 2 (.n false 3 (.n true 4 .done))))) ?_
 refine AtT.zf ?_
 refine AtT.qZ ?_
 refine AtT.loadA rfl trivial rfl tk105 hc0 rfl (by decide) ?_
 refine AtT.qE z105 ?_
 intro b5
 refine AtT.zU tk105 ?_
 refine AtT.done ?_
 refine At.nrm ?_
 refine At.pt (O':=[.blk b5 (LC (stc s a1 c1 a2 c2 a3 c3 S) 105)]) (by rw[hSe]; exact Pt.zC) ?_
 refine At.zh (.q 0 (.q 1 (.q 2 (.q 3 (.q 4 (.q 5 (.q 6 (.n true 7 .done)))))))) ?_
 refine AtT.zf ?_
 first | refine AtT.zk jm ?_ | with_reducible refine AtT.zm jm ?_ | refine AtT.zo jm ?_
 refine AtT.jh Tryz.underlying68 tk2 ?_
 rw[Int.toNat_natCast]
 refine AtT.jK rfl trivial rfl tk2 zM.zC hat (by decide) ?_
 first | refine AtT.ql ?_ | refine AtT.zP ?_
 first | refine AtT.zk jm ?_ | with_reducible refine AtT.zm jm ?_ | refine AtT.zo jm ?_
 refine AtT.jh Tryz.underlying68 tk2 ?_
 rw[Int.toNat_natCast]
 refine AtT.store1 rfl trivial rfl rfl tk2 rfl rfl (by repeat first|exact Upd.here|apply Upd.there) hset ?_
 refine AtT.done ?_
 refine At.nrm ?_
 refine At.giveB (b:=b5) zM.zC (fun V5 hV5 hb5=>?_)
 have hx5:StV V5 b5 s a1 c1 a2 c2 a3 c3 (incS S g):=⟨hb5,h.sh.le hV5,hSi⟩
 refine At.zh (.q 0 (.n false 1 (.n false 2 (.q 3 (.q 4 .done))))) ?_
 refine AtT.zf ?_
 refine AtT.jM rfl rfl ok21 (least_f hs (h.le hV5)) ?_
 rintro _ V17 hV17 ⟨T,hT,rfl⟩
 refine AtT.jM rfl rfl ok21 (least_f hs (hx5.le hV17)) ?_
 rintro _ V18 hV18 ⟨T',hT',rfl⟩
 have hb1:=costK_bd hs.pb hT.st s.pr.length
 have hb2:=costK_bd hs.pb hT'.st s.pr.length
 first | refine AtT.jD ?_ | refine AtT.jE ?_
 refine AtT.zg ?_
 refine AtT.done ?_
 refine At.nrm ?_
 exact At.qf rfl (.tmp rfl) ⟨T,T',hT,hT',rfl⟩
end
end Go.Proofs.YtmdcedioddchfaaGreatDoor.D
end
section
set_option linter.unusedVariables false
namespace Go.Proofs.YtmdcedioddchfaaGreatDoor.D
open Go.Lw Go.Ps Go.Gr Go.RowKit
open Go.Gl (iv ivs qy)
section
variable {s:Sp} {a1:Option Addr} {c1:Nat} {a2:Option Addr} {c2:Nat} {a3:Option Addr} {c3:Nat} {V:View}
theorem fil2_f (hs:SpOk s) (h:ShV V s a1 c1 a2 c2 a3 c3):Fnc Tryz.prog 20 [shv s a1 c1 a2 c2 a3 c3] V fun r V'=>∃ p e,r=.tuple #[.pointer p,iv e]∧((canF s.st.length s.os (st5 s)=true∧e=0∧∃ b,p=some ⟨b,0,none⟩∧StV V' b s a1 c1 a2 c2 a3 c3 (st5 s))∨(canF s.st.length s.os (st5 s)=false∧e=25)):=
 (filled_f hs h).mono fun r V' _ hr=>by
  rcases hr with ⟨hc,b,rfl,hb⟩ | ⟨hc,rfl⟩
  ·exact⟨_,_,rfl,.inl ⟨hc,rfl,b,rfl,hb⟩⟩
  ·exact⟨_,_,rfl,.inr ⟨hc,rfl⟩⟩
theorem gLeast_f (hs:SpOk s) (h:ShV V s a1 c1 a2 c2 a3 c3):Fnc Tryz.prog 10 [shv s a1 c1 a2 c2 a3 c3] V fun r _=>(canF s.st.length s.os (st5 s)=true∧∃ T,Spn (st5 s) s.os T∧r=.tuple #[iv (kF s.pr T s.pr.length),iv 0])∨(canF s.st.length s.os (st5 s)=false∧r=.tuple #[iv 0,iv 25]):=by
 refine qa Tryz.func10 rfl Tryz.ntmps10 (Nat.le_of_ble_eq_true rfl) ?_
 intro w0 hw0
 refine At.nrm ?_
 refine At.zh (.n false 0 (.q 1 (.q 2 .done))) ?_
 refine AtT.jA ?_
 intro b1
 refine AtT.zg ?_
 refine AtT.zg ?_
 refine AtT.done ?_
 refine At.nrm ?_
 refine At.zh (.q 0 (.n false 1 (.q 2 (.q 3 (.q 4 (.q 5 (.q 6 .done))))))) ?_
 first | refine AtT.zL jR ?_ | refine AtT.zS jR ?_ | refine AtT.zK jR ?_
 refine AtT.jM rfl rfl ok20 (fil2_f hs h) ?_
 rintro _ V8 hV8 ⟨p,e,rfl,hr⟩
 refine AtT.zf ?_
 refine AtT.zV ?_
 refine AtT.zV ?_
 refine AtT.zg ?_
 refine AtT.zg ?_
 refine AtT.done ?_
 refine At.nrm ?_
 rcases hr with ⟨hc,rfl,b,rfl,hb⟩ | ⟨hc,rfl⟩
 ·refine At.nrm ?_
  refine At.zh (.q 0 (.q 1 .done)) ?_
  refine AtT.zf ?_
  refine AtT.jT ?_
  refine AtT.done ?_
  refine At.nrm ?_
  refine At.qh rfl rfl ?_
  refine At.nrm ?_
  refine At.zh (.q 0 (.n false 1 (.q 2 (.q 3 .done)))) ?_
  refine AtT.zf ?_
  refine AtT.jM rfl rfl ok21 (least_f hs hb) ?_
  rintro _ V15 hV15 ⟨T,hT,rfl⟩
  refine AtT.zg ?_
  refine AtT.zg ?_
  refine AtT.done ?_
  refine At.nrm ?_
  exact At.ret2 rfl (.tmp rfl) (.tmp rfl) (.inl ⟨hc,T,hT,rfl⟩)
 ·refine At.nrm ?_
  refine At.zh (.q 0 (.q 1 .done)) ?_
  refine AtT.zf ?_
  refine AtT.jT ?_
  refine AtT.done ?_
  refine At.nrm ?_
  refine At.jo rfl rfl ?_
  refine At.nrm ?_
  refine At.zh (.q 0 (.q 1 (.q 2 .done))) ?_
  refine AtT.zf ?_
  refine AtT.zg ?_
  refine AtT.zg ?_
  refine AtT.done ?_
  refine At.nrm ?_
  exact At.ret2 rfl (.tmp rfl) (.tmp rfl) (.inr ⟨hc,rfl⟩)
theorem gWorth_f (hs:SpOk s) (h:ShV V s a1 c1 a2 c2 a3 c3) (hcan:canF s.st.length s.os (st5 s)=true) (g:Nat) (hg:g<s.st.length):Fnc Tryz.prog 13 [shv s a1 c1 a2 c2 a3 c3,iv g] V fun r _=>∃ T T',Spn (st5 s) s.os T∧Spn (incS (st5 s) g) s.os T'∧r=.tuple #[iv (kF s.pr T s.pr.length-kF s.pr T' s.pr.length),iv 0]:=by
 have hn:=hs.n
 have hst:=h.st
 have hl1:=hst.qV
 have h50:∀ x∈st5 s,x≤50:=fun x hx=>by
  rcases List.mem_append.1 hx with h | h
  ·exact(hs.sb x h).2
  ·rw[List.mem_replicate]at h; omega
 refine qa Tryz.func13 rfl Tryz.ntmps13 (Nat.le_of_ble_eq_true rfl) ?_
 intro w0 hw0
 refine At.nrm ?_
 refine At.zh (.n false 0 (.q 1 (.q 2 .done))) ?_
 refine AtT.jA ?_
 intro b2
 refine AtT.zg ?_
 refine AtT.zg ?_
 refine AtT.done ?_
 refine At.nrm ?_
 refine At.zh (.q 0 (.n false 1 (.q 2 .done))) ?_
 first | refine AtT.zL jR ?_ | refine AtT.zS jR ?_ | refine AtT.zK jR ?_
 refine AtT.zR rfl rfl ok23 (checkShop_f hs h) ?_
 rintro _ rfl
 refine AtT.zg ?_
 refine AtT.done ?_
 refine At.nrm ?_
 refine At.zh (.q 0 (.q 1 .done)) ?_
 refine AtT.zf ?_
 refine AtT.jT ?_
 refine AtT.done ?_
 refine At.nrm ?_
 refine At.qh rfl rfl ?_
 refine At.nrm ?_
 refine At.zh (.q 0 (.q 1 (.q 2 (.q 3 (.q 4 (.n false 5 (.n false 6 (.q 7 .done)))))))) ?_
 first | refine AtT.zk qo ?_ | with_reducible refine AtT.zm qo ?_ | refine AtT.zo qo ?_
 first | refine AtT.zn jk ?_ | refine AtT.zq jk ?_
 first | refine AtT.zW Tryz.underlying36 ?_ | refine AtT.zX Tryz.underlying36 ?_
 first | refine AtT.jD ?_ | refine AtT.jE ?_
 refine AtT.zf ?_
 refine AtT.qz (jZ _) ?_
 intro q19 V19 hV19 hq19
 have g19:Le V V19:=by first | exact hV19 | exact Le.trans (by assumption) hV19
 refine AtT.zR rfl rfl ok24 (jJ 0 ((s.st.length:Int)-1) [(g:Int)] (fun x hx=>by rw[List.mem_singleton]at hx; omega) _ _ (Sl.lit hq19 rfl (by simp))) ?_
 rintro _ rfl
 refine AtT.knot ?_
 refine AtT.done ?_
 refine At.nrm ?_
 refine At.qh rfl rfl ?_
 refine At.nrm ?_
 refine At.zh (.q 0 (.n false 1 (.q 2 (.q 3 (.q 4 (.q 5 (.q 6 .done))))))) ?_
 first | refine AtT.zL jR ?_ | refine AtT.zS jR ?_ | refine AtT.zK jR ?_
 refine AtT.jM rfl rfl ok20 (fil2_f hs (h.le (by first | assumption | exact Le.refl _))) ?_
 rintro _ V24 hV24 ⟨p,e,rfl,hr⟩
 refine AtT.zf ?_
 refine AtT.zV ?_
 refine AtT.zV ?_
 refine AtT.zg ?_
 refine AtT.zg ?_
 refine AtT.done ?_
 refine At.nrm ?_
 rcases hr with ⟨hc,rfl,b,rfl,hb⟩ | ⟨hc,rfl⟩
 rotate_left
 ·rw[hcan]at hc; cases hc
 refine At.nrm ?_
 refine At.zh (.q 0 (.q 1 .done)) ?_
 refine AtT.zf ?_
 refine AtT.jT ?_
 refine AtT.done ?_
 refine At.nrm ?_
 refine At.qh rfl rfl ?_
 refine At.nrm ?_
 refine At.zh (.q 0 (.q 1 (.n false 2 (.q 3 (.q 4 .done))))) ?_
 refine AtT.zf ?_
 refine AtT.zf ?_
 refine AtT.jM rfl rfl ok25 (worth_f hs hb h50 g (by omega)) ?_
 rintro _ V32 hV32 ⟨T,T',hT,hT',rfl⟩
 refine AtT.zg ?_
 refine AtT.zg ?_
 refine AtT.done ?_
 refine At.nrm ?_
 exact At.ret2 rfl (.tmp rfl) (.tmp rfl) ⟨T,T',hT,hT',rfl⟩
theorem slice179z (b:Nat) (w:World):(Instr.sliceAt 68 (.pointer (some ⟨b,0,none⟩)) none none none).run Tryz.prog w=.ok (.slice (some ⟨b,0,none⟩) 5 5) w:=by kernel_rfl
theorem gSpent_f (hs:SpOk s) (h:ShV V s a1 c1 a2 c2 a3 c3):Fnc Tryz.prog 11 [shv s a1 c1 a2 c2 a3 c3] V fun r V'=>(canF s.st.length s.os (st5 s)=true∧∃ T v,Spn (st5 s) s.os T∧r=.tuple #[v,iv 0]∧SlI V' v (T.take s.st.length))∨(canF s.st.length s.os (st5 s)=false∧r=.tuple #[.slice none 0 0,iv 25]):=by
 have hn:=hs.n
 have hst:=h.st
 have hl1:=hst.qV
 refine qa Tryz.func11 rfl Tryz.ntmps11 (Nat.le_of_ble_eq_true rfl) ?_
 intro w0 hw0
 refine At.nrm ?_
 refine At.zh (.n false 0 (.q 1 (.q 2 .done))) ?_
 refine AtT.jA ?_
 intro b1
 refine AtT.zg ?_
 refine AtT.zg ?_
 refine AtT.done ?_
 refine At.nrm ?_
 refine At.zh (.q 0 (.n false 1 (.q 2 (.q 3 (.q 4 (.q 5 (.q 6 .done))))))) ?_
 first | refine AtT.zL jR ?_ | refine AtT.zS jR ?_ | refine AtT.zK jR ?_
 refine AtT.jM rfl rfl ok20 (fil2_f hs h) ?_
 rintro _ V10 hV10 ⟨p,e,rfl,hr⟩
 refine AtT.zf ?_
 refine AtT.zV ?_
 refine AtT.zV ?_
 refine AtT.zg ?_
 refine AtT.zg ?_
 refine AtT.done ?_
 refine At.nrm ?_
 rcases hr with ⟨hc,rfl,b,rfl,hb⟩ | ⟨hc,rfl⟩
 rotate_left
 ·refine At.nrm ?_
  refine At.zh (.q 0 (.q 1 .done)) ?_
  refine AtT.zf ?_
  refine AtT.jT ?_
  refine AtT.done ?_
  refine At.nrm ?_
  refine At.jo rfl rfl ?_
  refine At.nrm ?_
  refine At.zh (.q 0 (.q 1 (.q 2 .done))) ?_
  refine AtT.zf ?_
  refine AtT.zg ?_
  refine AtT.zg ?_
  refine AtT.done ?_
  refine At.nrm ?_
  exact At.ret2 rfl (.tmp rfl) (.tmp rfl) (.inr ⟨hc,rfl⟩)
 refine At.nrm ?_
 refine At.zh (.q 0 (.q 1 .done)) ?_
 refine AtT.zf ?_
 refine AtT.jT ?_
 refine AtT.done ?_
 refine At.nrm ?_
 refine At.qh rfl rfl ?_
 refine At.nrm ?_
 refine At.zh (.q 0 (.n false 1 (.n false 2 (.n true 3 .done)))) ?_
 refine AtT.zf ?_
 refine AtT.jM rfl rfl ok22 (spent_f hs hb) ?_
 rintro _ V17 hV17 ⟨t0,t1,t2,t3,t4,rfl,hT⟩
 refine AtT.qE z68 ?_
 intro b6
 refine AtT.zU tk68 ?_
 refine AtT.done ?_
 refine At.nrm ?_
 refine At.giveB (b:=b6) zM.zC (fun V6 hV6 hb6=>?_)
 have hs6:SlI V6 (.slice (some ⟨b6,0,none⟩) 5 5) [t0,t1,t2,t3,t4]:=Sl.of_cells (l:=[t0,t1,t2,t3,t4]) Lw.zZ (qp hb6) (Nat.le_refl 5) (by decide)
 refine At.nrm ?_
 refine At.zh (.q 0 (.q 1 (.q 2 (.n false 3 (.q 4 .done))))) ?_
 first | refine AtT.zk qo ?_ | with_reducible refine AtT.zm qo ?_ | refine AtT.zo qo ?_
 first | refine AtT.zn jk ?_ | refine AtT.zq jk ?_
 first | refine AtT.zW Tryz.underlying36 ?_ | refine AtT.zX Tryz.underlying36 ?_
 refine AtT.makeSl rfl trivial ei rfl Tryz.underlying36 rw2 rfl rfl (by decide) rfl rfl (by omega) (by omega) (by decide) ?_ (za:=(0:Int))
 intro b21
 refine AtT.zg ?_
 refine AtT.done ?_
 refine At.nrm ?_
 have hxs:(flat ei (List.replicate s.st.length (0:Int))).take 0++flat ei ([t0,t1,t2,t3,t4].take s.st.length)++(flat ei (List.replicate s.st.length (0:Int))).drop (0+s.st.length*1)=flat ei ([t0,t1,t2,t3,t4].take s.st.length):=by
  rw[List.take_zero,List.nil_append,List.drop_of_length_le (by rw[zJ Lw.zZ,List.length_replicate]; omega),List.append_nil]
 have h5:([t0,t1,t2,t3,t4]:List Int).length=5:=rfl
 refine At.nrm ?_
 refine At.zh (.q 0 (.q 1 (.n true 2 .done))) ?_
 refine AtT.zf ?_
 refine AtT.slV rfl trivial rfl (slice179z b6) (by decide) ?_
 refine AtT.copyAt rfl trivial Tryz.underlying36 tk2 rfl rfl hs6 Lw.zZ (fun _=>rfl) (k:=s.st.length) (Nat.min_eq_right (by omega)) (by rw[zJ Lw.zZ,List.length_replicate]; omega) hxs (by repeat first|exact Upd.here|apply Upd.there) (by decide) ?_
 refine AtT.done ?_
 refine At.nrm ?_
 refine At.giveB (b:=b21) zM.zC (fun V7 hV7 hb7=>?_)
 have htl:([t0,t1,t2,t3,t4].take s.st.length).length=s.st.length:=by rw[List.length_take]; omega
 have hs7:SlI V7 (.slice (some ⟨b21,0,none⟩) s.st.length s.st.length) ([t0,t1,t2,t3,t4].take s.st.length):=by
  have:=Sl.of_cells (cap:=s.st.length) (l:=[t0,t1,t2,t3,t4].take s.st.length) Lw.zZ (qp hb7) (by omega) (by unfold maxLen; omega)
  rwa[htl]at this
 refine At.nrm ?_
 refine At.zh (.q 0 (.q 1 (.q 2 .done))) ?_
 refine AtT.zf ?_
 refine AtT.zg ?_
 refine AtT.zg ?_
 refine AtT.done ?_
 refine At.nrm ?_
 exact At.ret2 rfl (.tmp rfl) (.tmp rfl) (.inl ⟨hc,_,_,hT,rfl,hs7⟩)
theorem longs_f (l m:List Int) (V:View) (v u:Value) (hl:SlI V v l) (hm:SlI V u m):Fnc Tryz.prog 12 [v,u] V fun r _=>r=.bool (decide (l=m)):=by
 have hl1:=hl.qV
 have hm1:=hm.qV
 obtain⟨al,cl,rfl,k1,k2,_⟩:=id hl
 obtain⟨am,cm,rfl,k3,k4,_⟩:=id hm
 clear k1 k2 k3 k4
 refine qa Tryz.func12 rfl Tryz.ntmps12 (Nat.le_of_ble_eq_true rfl) ?_
 intro w0 hw0
 refine At.nrm ?_
 refine At.zh (.q 0 .done) ?_
 refine AtT.zg ?_
 refine AtT.done ?_
 refine At.nrm ?_
 refine At.zh (.q 0 (.q 1 (.q 2 (.q 3 (.q 4 .done))))) ?_
 refine AtT.zf ?_
 first | refine AtT.zW Tryz.underlying36 ?_ | refine AtT.zX Tryz.underlying36 ?_
 refine AtT.zf ?_
 first | refine AtT.zW Tryz.underlying36 ?_ | refine AtT.zX Tryz.underlying36 ?_
 refine AtT.jT ?_
 refine AtT.done ?_
 refine At.nrm ?_
 refine At.qb rfl (fun hc=>?_) (fun hc=>?_)
 ·refine At.nrm ?_
  refine At.zh (.q 0 .done) ?_
  refine AtT.zg ?_
  refine AtT.done ?_
  refine At.nrm ?_
  refine At.qf rfl (.tmp rfl) ?_
  rw[decide_eq_false (fun e=>hc (by rw[e]))]
 have hlm:l.length=m.length:=by omega
 refine At.nrm ?_
 refine At.zh (.q 0 .done) ?_
 refine AtT.zg ?_
 refine AtT.done ?_
 refine At.nrm ?_
 refine At.lp (ι:=Nat) (KS:=fun k=>[(0,.slice al l.length cl),(1,.slice am m.length cm),(5,iv k)]) (OS:=fun _=>[])
  (VS:=fun k V'=>V'=V∧k≤l.length∧∀ j,j<k→l[j]? = m[j]?) (μ:=fun k=>l.length-k) 0 ?_ ?_ ?_ ?_
 ·exact⟨rfl,rfl,rfl,trivial⟩
 ·exact Pt.zC
 ·exact⟨rfl,Nat.zero_le _,fun j hj=>by omega⟩
 rintro k V1 ks' O' ⟨rfl,hk1,hup⟩ hk hO hll
 subst hk hO
 refine At.nrm ?_
 refine At.zh (.q 0 (.q 1 (.q 2 (.q 3 .done)))) ?_
 refine AtT.zf ?_
 refine AtT.zf ?_
 first | refine AtT.zW Tryz.underlying36 ?_ | refine AtT.zX Tryz.underlying36 ?_
 refine AtT.qd ?_
 refine AtT.done ?_
 refine At.nrm ?_
 refine At.qb rfl (fun hc2=>?_) (fun hc2=>?_)
 ·obtain⟨x,hx⟩:∃ x,l[k]? = some x:=⟨_,List.getElem?_eq_getElem (by omega)⟩
  obtain⟨y,hy⟩:∃ y,m[k]? = some y:=⟨_,List.getElem?_eq_getElem (by omega)⟩
  refine At.nrm ?_
  refine At.draw (.q 0 (.q 1 (.q 2 (.q 3 (.q 4 (.q 5 (.q 6 (.q 7 (.q 8 .done))))))))) ffm (by kernel_rfl) ?_
  refine AtT.zf ?_
  refine AtT.zf ?_
  refine AtT.qj Tryz.underlying36 tk2 ?_
  intro p19 e19 he19 hc19
  obtain rfl:x=e19:=by have:l[k]? = some e19:=(by simpa using he19); rw[hx]at this; simpa using this
  first | refine AtT.zn tk2 ?_ | refine AtT.zq tk2 ?_
  refine AtT.zf ?_
  refine AtT.zf ?_
  refine AtT.qj Tryz.underlying36 tk2 ?_
  intro p23 e23 he23 hc23
  obtain rfl:y=e23:=by have:m[k]? = some e23:=(by simpa using he23); rw[hy]at this; simpa using this
  first | refine AtT.zn tk2 ?_ | refine AtT.zq tk2 ?_
  refine AtT.jT ?_
  refine AtT.done ?_
  refine At.nrm ?_
  refine At.qb rfl (fun hq=>?_) (fun hq=>?_)
  ·refine At.nrm ?_
   refine At.zh (.q 0 .done) ?_
   refine AtT.zg ?_
   refine AtT.done ?_
   refine At.nrm ?_
   refine At.qf rfl (.tmp rfl) ?_
   rw[decide_eq_false (fun e=>hq (by rw[e,hy]at hx; cases hx; rfl))]
  ·refine At.nrm ?_
   refine At.zh (.q 0 (.q 1 (.q 2 .done))) ?_
   refine AtT.zf ?_
   first | refine AtT.ql ?_ | refine AtT.zP ?_
   refine AtT.zg ?_
   refine AtT.done ?_
   refine At.nrm ?_
   refine At.round (k+1) ?_ ?_ ?_ ?_
   ·show l.length-(k+1)<l.length-k; omega
   ·refine⟨rfl,by omega,fun j hj=>?_⟩
    rcases Nat.lt_or_ge j k with c | c
    ·exact hup j c
    ·rw[show j=k by omega,hx,hy,show x=y by omega]
   ·exact⟨rfl,rfl,rfl,trivial⟩
   ·exact Pt.zC
 ·obtain rfl:k=l.length:=by omega
  refine At.nrm ?_
  refine At.zh (.q 0 .done) ?_
  refine AtT.zg ?_
  refine AtT.done ?_
  refine At.nrm ?_
  refine At.qf rfl (.tmp rfl) ?_
  rw[decide_eq_true (List.ext_getElem? fun j=>?_)]
  rcases Nat.lt_or_ge j l.length with c | c
  ·exact hup j c
  ·rw[List.getElem?_eq_none c,List.getElem?_eq_none (by omega)]
end
end Go.Proofs.YtmdcedioddchfaaGreatDoor.D
end
section
set_option linter.unusedVariables false
namespace Go.Lw
open Go.ChangeShapes Go.WideShapes Go.ChangeAt Go.RowKit Go.Joins Go.Deep
section
variable {H:Type} {enc:TypeId×Value→H} {P:Program} {W W':World}
theorem stays_all (hl:laidOutB P=true) (hb:Below W.heap.size W W'):∀ (ts:List TypeId) (vs:List Value) (ds:List (DataW H)) (ps:List MemPlace),(ts.all fun t=>P.readableRec t && decide (t<P.types.size))=true→
  (∀ x∈ps,x.block<W.heap.size)→DataW.TrodAll enc P W 0 (fun _=>true) true ts vs ds ps→DataW.TrodAll enc P W' 0 (fun b=>decide (b<W.heap.size)) true ts vs ds ps
 | [],vs,ds,ps,_,_,h=>by
  obtain⟨rfl,rfl,rfl⟩:=trodAll_nil h
  exact trodAll_mk0
 | t::ts,vs,ds,ps,ht,hlt,h=>by
  obtain⟨v,vs',d,ds',p,q,rfl,rfl,rfl,h0,h1⟩:=trodAll_cons h
  simp only[List.all_cons,Bool.and_eq_true,decide_eq_true_eq]at ht
  exact trodAll_cons_mk (Below.trod hl ht.1.1 ht.1.2 h0 hb fun x hx=>hlt x (List.mem_append_left _ hx))
   (stays_all hl hb ts vs' ds' q ht.2 (fun x hx=>hlt x (List.mem_append_right _ hx)) h1)
variable {base:Nat} {spare:Nat→Bool} {held:Bool}
theorem cells_hp {a:Addr} {n:Nat} {cs:List Value} (h:W.cells? base a n=some cs):cs.length=n∧Cells (hp W) a cs:=by
 obtain⟨_,h1,h2⟩:=World.cells?_some h
 refine⟨h1,fun j u hj=>?_⟩
 have hlt:j<n:=by rw[←h1]; exact(List.getElem?_eq_some_iff.1 hj).1
 rw[vcell_hp,h2 j hlt]; exact hj
theorem sl_of {α:Type} {en:α→List Value} {T E:TypeId} {s:Nat} {fuel:Nat} {v:Value} {x:DataW H×List MemPlace} (hT:P.underlying T=some (.slice E)) (hE:P.cellsOf E=s)
  (hel:∀ fuel cs x,DataW.trod enc P W base spare held fuel E cs=some x→cs.length=s→∃ a,cs=en a) (h:DataW.trod enc P W base spare held fuel T [v]=some x) :
  ∃ (l:List α) (a:Option Addr) (cap:Nat),v=.slice a l.length cap∧Sl (hp W) en s (.slice a l.length cap) l:=by
 subst hE
 rcases open_slice hT h with ⟨h0,_⟩ | ⟨a,len,cap,m,n,D,Pl,h0,_,hlc,hcm,hm,_,hx⟩
 ·simp only[List.cons.injEq,and_true]at h0
  exact⟨[],none,0,h0,Sl.nil _ _ _⟩
 ·simp only[List.cons.injEq,and_true]at h0
  have hlm:len≤m:=by rw[hm]; split<;>omega
  have hch:∀ i,i<len→∃ y:α,Cells (hp W) (a.add (i*P.cellsOf E)) (en y):=fun i hi=>by
   obtain⟨cs',h1,h2⟩:=hx i (by omega)
   obtain⟨hl,hc⟩:=cells_hp h1
   obtain⟨y,rfl⟩:=hel _ _ _ h2 hl
   exact⟨y,hc⟩
  have hl:∀ k,k≤len→∃ l:List α,l.length=k∧∀ i y,l[i]? = some y→Cells (hp W) (a.add (i*P.cellsOf E)) (en y):=by
   intro k
   induction k with
   | zero=>exact fun _=>⟨[],rfl,fun i y h=>by simp at h⟩
   | succ k ih=>
    intro hk
    obtain⟨l,hl,hc⟩:=ih (by omega)
    obtain⟨y,hy⟩:=hch k (by omega)
    refine⟨l++[y],by simp[hl],fun i z hz=>?_⟩
    by_cases c:i<l.length
    ·rw[List.getElem?_append_left c]at hz; exact hc i z hz
    ·rw[List.getElem?_append_right (by omega)]at hz
     have e:i=k:=by
      have:=(List.getElem?_eq_some_iff.1 hz).1
      simp at this; omega
     subst e
     rw[hl]at hz
     simp at hz
     subst hz; exact hy
  obtain⟨l,hl,hc⟩:=hl len (Nat.le_refl _)
  subst hl
  exact⟨l,some a,cap,h0,some a,cap,rfl,hlc,hcm,fun _=>rfl,fun p hp i y hy=>by cases hp; exact hc i y hy⟩
theorem el_int {E:TypeId} {k:IntKind} (hE:P.underlying E=some (.int k)) {fuel:Nat} {cs:List Value} {x:DataW H×List MemPlace} (h:DataW.trod enc P W base spare held fuel E cs=some x):∃ z:Int,cs=[.int k z]∧(Lit.int k z).wf=true:=by
 obtain⟨n,h1,_,h3⟩:=DataW.trod_int hE h
 exact⟨n,h1,h3⟩
end
end Go.Lw
end
section
set_option linter.unusedVariables false
namespace Go.Lw
open Go.ChangeShapes Go.WideShapes Go.ChangeAt Go.RowKit Go.Joins Go.Deep
section
variable {H:Type} {enc:TypeId×Value→H} {P:Program} {W W':World}
theorem law_liftL {laid:List (String×DataW Unit)} {C:Checked} {F:FuncId} {fn:Func} {tb:TypeId} {os:Os} {s:ChangeSpec} {conds:List PathCond} (hs:∀ ds:List (DataW H),ds.length=fn.params.size→s.fn H (ds++[]) = { results:=[.lit (.bool true)],args:=ds })
  (hvars:s.vars=[]) (hres:fn.resultTypes=#[tb]) (htb:C.prog.underlying tb=some .bool) (hl:laidOutB C.prog=true) (hts:(fn.params.toList.all fun t=>C.prog.readableRec t && decide (t<C.prog.types.size))=true)
  (own:ownKnob C.prog.godebug=none) (started:os.Started) (noInit:C.prog.inits.idxOf? F=none) (hfn:C.prog.funcs[F]? = some fn)
  (witness:∃ (w:World) (tape:Tape) (i:Input),w.os=os∧(w.forCall tape i).Shaped C.prog∧i.vars=[]∧Input.okWide C.prog (w.forCall tape i) .any w.heap.size F i∧
   ((s.pre enc C.prog fn conds false (w.forCall tape i).memory i.args∧laidMetH C.prog laid (w.forCall tape i).memory)∧sizedMet enc C.prog fn (OpenSpec.ofChange s) false (w.forCall tape i).memory i.args)∧({} : Assume).holds C.prog (lone (Frame.enter C.prog F i.args .normal) [] (w.forCall tape i)))
  (walk:∀ (W:World) (base:Nat) (args:Array Value) (ds:List (DataW H)) (ps:List MemPlace),(∀ (j:Nat) t v,fn.params[j]? = some t→args[j]? = some v→Value.okWide C.prog W .any base t v)→
   DataW.TrodAll enc C.prog W 0 (fun _=>true) true fn.params.toList args.toList ds ps→∃ l:List Value,args=l.toArray∧Fnc C.prog F l (hp W) fun v _=>v=.bool true) :
  ReturnsInHanded {} C os F .any (fun w args=>(s.pre enc C.prog fn conds false w args∧laidMetH C.prog laid w)∧sizedMet enc C.prog fn (OpenSpec.ofChange s) false w args) (s.post enc C.prog fn false true false false):=by
 refine returnsInHanded_of_change_and (C:=C) (X:=fun w _=>laidMetH C.prog laid w) (fun _ _ _ hh h=>h.of_heap hh) own started noInit hfn witness ?_
 intro W base args ds gs before hval hW _ _ _ _
 have hlt:=hW.lt
 have hW':=hW
 obtain⟨p,q,hA,hV,rfl,hfz,hnd⟩:=hW
 rw[hvars]at hV
 obtain⟨rfl,rfl⟩:=trodVars_none hV
 obtain⟨l,rfl,hF⟩:=walk W base args ds p hval hA
 refine(hF W (Le.refl _)).mono fun e W' ⟨v,V',he,hb,_,_,_,hv⟩=>?_
 subst hv
 have hlen:ds.length=fn.params.size:=by
  have key:∀ (ts:List TypeId) (vs:List Value) (ds:List (DataW H)) (ps:List MemPlace),DataW.TrodAll enc C.prog W 0 (fun _=>true) true ts vs ds ps→ds.length=ts.length:=by
   intro ts
   induction ts with
   | nil=>intro vs ds ps h; obtain⟨_,rfl,_⟩:=trodAll_nil h; rfl
   | cons t ts ih=>intro vs ds ps h; obtain⟨v,vs',d,ds',p,q,rfl,rfl,rfl,h0,h1⟩:=trodAll_cons h; simp[ih _ _ _ h1]
  simpa using key _ _ _ _ hA
 refine⟨_,he,ds,[],p++[],[],p,[],hW',?_,?_,?_,Below.frame hb _,fun h=>by cases h⟩
 ·rw[hs ds hlen,hres]
  exact trodAll_mk1 (shut_bool htb true)
 ·rw[hs ds hlen]
  exact stays_all hl hb _ _ _ _ hts (fun x hx=>hlt x (List.mem_append_left _ hx)) hA
 ·rw[hs ds hlen,hvars]
  exact rfl
end
end Go.Lw
end
section
namespace Go.Proofs.YtmdcedioddchfaaGreatDoor
open Go
theorem pin_laid_first:Tryz.pinned.checked.prog.pinnedFits "unicode/utf8.first" = true:=by kernel_rfl
theorem noOwnUnsafe:Tryz.pinned.checked.prog.headLifts.contains "ownunsafe" = false:=by kernel_rfl
end Go.Proofs.YtmdcedioddchfaaGreatDoor
end
section
namespace Go.Proofs.YtmdcedioddchfaaGreatDoor
open Go
theorem fits1:Tryz.pinned.checked.prog.listedFits [("unicode/utf8.first",Rows.laid_unicode_utf8_first),("unicode/utf8.acceptRanges",Rows.laid_unicode_utf8_acceptRanges)]=true:=by
 unfold Program.listedFits
 rw[noOwnUnsafe]
 kernel_rfl
end Go.Proofs.YtmdcedioddchfaaGreatDoor
end
