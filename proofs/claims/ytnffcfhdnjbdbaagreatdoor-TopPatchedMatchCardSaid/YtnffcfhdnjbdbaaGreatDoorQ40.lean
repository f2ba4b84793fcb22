/- A part. -/
import Derived.Test.YtnffcfhdnjbdbaaGreatDoorRows
import Derived.Test.YtnffcfhdnjbdbaaGreatDoorCards
import Derived.Lib.SmallJoins
import Derived.MakeChecks
import Derived.SevenTiedAt
import Derived.LaidLaws
import Derived.Deep.Strs
import Derived.Test.YtnffcfhdnjbdbaaGreatDoorQ8
import Derived.Test.YtnffcfhdnjbdbaaGreatDoorQ14
import Derived.Test.YtnffcfhdnjbdbaaGreatDoorQ15
import Derived.Test.YtnffcfhdnjbdbaaGreatDoorQ16
import Derived.Test.YtnffcfhdnjbdbaaGreatDoorQ17
import Derived.Test.YtnffcfhdnjbdbaaGreatDoorQ18
import Derived.Test.YtnffcfhdnjbdbaaGreatDoorQ19
import Derived.Test.YtnffcfhdnjbdbaaGreatDoorQ20
import Derived.Test.YtnffcfhdnjbdbaaGreatDoorQ29
import Derived.Test.YtnffcfhdnjbdbaaGreatDoorQ30
import Derived.Test.YtnffcfhdnjbdbaaGreatDoorQ37
import Derived.Test.YtnffcfhdnjbdbaaGreatDoorQ38
import Derived.Test.YtnffcfhdnjbdbaaGreatDoorQ39
set_option linter.unusedVariables false
set_option linter.unusedSimpArgs false
set_option linter.unusedSectionVars false
set_option linter.constructorNameAsVariable false
noncomputable section
namespace Go.Ev
open Go.Lw Go.RowKit Go.Proofs
def orT:Orc:=.mk λargs h K=>List.rec (motive:=λ_=>R) (K (.b true) h) (λ_ _ _=>none) args
theorem orT_ok {w0:World} {f:FuncId} (hc:zi Pr f) (hw:∀ w:World,Calls Pr f #[] w λen w'=>en=.returned (.bool true)/\Below w.heap.size w w'):FOk w0 orT.g f:=by
 intro e h K z args us w hh ha R;refine⟨hc,?_⟩;cases args with
 | nil=>
  cases us with
  | nil=>exact FOk.val (x:=.b true) R hh rfl (hw w)
  | cons _ _=>exact ha.elim
 | cons _ _=>cases hh
def O5 (f:FuncId):Option Orc:=bif [484,485,486,414,350,288,213,130,74,27,12].any (Nat.beq f)then some orT else none
theorem oc5 (w0:World):OcOk w0 O5:=by
 intro f o h;unfold O5 at h;cases c:[484,485,486,414,350,288,213,130,74,27,12].any (Nat.beq f)with
 | false=>rw[c]at h;cases h
 | true=>
  rw[c]at h;cases h;simp only[List.any_cons,List.any_nil,Bool.or_false,Bool.or_eq_true]at c;rcases c with c | c | c | c | c | c | c | c | c | c | c<;>obtain rfl:=Nat.eq_of_beq_eq_true c
  ·exact @orT_ok w0 _ (by rw[jf];exact zf Tryz.func484 (by kernel_rfl) (by kernel_rfl)) works01
  ·exact @orT_ok w0 _ (by rw[jf];exact zf Tryz.func485 (by kernel_rfl) (by kernel_rfl)) works02
  ·exact @orT_ok w0 _ (by rw[jf];exact zf Tryz.func486 (by kernel_rfl) (by kernel_rfl)) works03
  ·exact @orT_ok w0 _ (by rw[jf];exact zf Tryz.func414 (by kernel_rfl) (by kernel_rfl)) works04
  ·exact @orT_ok w0 _ (by rw[jf];exact zf Tryz.func350 (by kernel_rfl) (by kernel_rfl)) works05
  ·exact @orT_ok w0 _ (by rw[jf];exact zf Tryz.func288 (by kernel_rfl) (by kernel_rfl)) works06
  ·exact @orT_ok w0 _ (by rw[jf];exact zf Tryz.func213 (by kernel_rfl) (by kernel_rfl)) works07
  ·exact @orT_ok w0 _ (by rw[jf];exact zf Tryz.func130 (by kernel_rfl) (by kernel_rfl)) works08
  ·exact @orT_ok w0 _ (by rw[jf];exact zf Tryz.func74 (by kernel_rfl) (by kernel_rfl)) works09
  ·exact @orT_ok w0 _ (by rw[jf];exact zf Tryz.func27 (by kernel_rfl) (by kernel_rfl)) works10
  ·exact @orT_ok w0 _ (by rw[jf];exact zf Tryz.func12 (by kernel_rfl) (by kernel_rfl)) works11
theorem wAll:runs O5 5=true:=by decide +kernel
theorem works_f (V:View):Fnc Tryz.prog 5 [] V λr _=>r=.bool true:=λw hw=>by rw[<-jf];exact(ji wAll w (oc5 w)).mono λe w' ⟨h1,h2⟩=>⟨_,V,h1,h2,Le.refl _,hw.trans (Lw.Below.le h2),λk o hk=>.inl hk,rfl⟩
end Go.Ev
namespace Go.Proofs.YtnffcfhdnjbdbaaGreatDoor.M
open Go.Lw Go.Ps Go.Mt Go.Pm Go.RowKit
open Go.Gl (iv ivs zV)
open P (rsheet_f knotsOf_f checkAlone_f partsP_f)
structure LwQ where
 i:Nat
 of:List Int
 many:Nat
 seen:Nat
theorem sumT (LL:List (List Int)):∀ i:Nat,((LL.take i).flatten).length<=LL.flatten.length:=λi=>by
 conv=>rhs;rw[<-List.take_append_drop i LL,List.flatten_append,List.length_append]
 omega
theorem sumS {LL:List (List Int)} {i:Nat} {l:List Int} (h:LL[i]? = some l):((LL.take (i+1)).flatten).length=((LL.take i).flatten).length+l.length:=by rw[List.take_add_one,h,List.flatten_append,List.length_append];simp
theorem manS {LL:List (List Int)} {i:Nat} {l:List Int} (h:LL[i]? = some l):((LL.take (i+1)).filter λp=>decide (1<p.length)).length=((LL.take i).filter λp=>decide (1<p.length)).length+if 1<l.length then 1 else 0:=by rw[List.take_add_one,h,List.filter_append,List.length_append];simp only[Option.toList_some,List.filter_cons,List.filter_nil,decide_eq_true_eq];split<;>rfl
set_option maxHeartbeats 12800000 in
theorem top_f (s:Sh) (V:View) (v:Value) (hv:ShV V v s):Fnc Tryz.prog 3 [v] V λr _=>r=.bool true:=by
 obtain⟨a,c,rfl,hs⟩:=id hv;have hlr:=hs.jC;refine zG Tryz.func3 rfl Tryz.ntmps3 (Nat.le_of_ble_eq_true rfl) ?_;intro w0 hw0;refine zb (tT 0 [1,0]) ?_;refine qQ ?_;intro b1;refine zh ?_;by_cases g1:6<s.rows.length
 ·refine zP (tT 0 [0,0,0,0,0,0,1,0,0]) ?_;refine zw qg ?_;refine kV jO ?_;refine zZ Tryz.underlying22 ?_;refine kgtr ?_;refine xk (d:=24) rfl ((by omega)) ?_;refine ze ?_;all_goals (first | refine kY 25 ?_ | refine kX (d:=25) rfl (λhg25=>?_) (λhg25=>?_) | refine kW (d:=25) rfl (λhg25=>?_) (λhg25=>?_))
  all_goals refine p_la tk24 ?_
  all_goals first|refine kpN ?_|((fail))
  all_goals refine p_ne ?_
  all_goals refine zF ?_
  all_goals refine AtT.done ?_
  all_goals refine nrm ?_
  refine ql rfl rfl ?_;refine zb (tT 0 [1,0]) ?_;refine zm rfl rfl ok5 (Go.Ev.works_f _) ?_;rintro _ rfl;refine zh ?_;exact zL rfl (.tmp rfl) rfl
 by_cases h0:chE s=0;rotate_left
 ·refine zP (tT 0 [0,0,0,0,0,0,1,0,0]) ?_;refine zw qg ?_;refine kV jO ?_;refine zZ Tryz.underlying22 ?_;refine kgtr ?_;refine xh (d:=24) rfl ((by omega)) ?_;refine ze ?_;all_goals (first | refine kY 25 ?_ | refine kX (d:=25) rfl (λhg25=>?_) (λhg25=>?_) | refine kW (d:=25) rfl (λhg25=>?_) (λhg25=>?_))
  all_goals refine p_la tk24 ?_
  all_goals first|refine kpN ?_|((refine zm rfl rfl ok4 (rsheet_f s _ _ hv) ?_);(rintro _ rfl))
  all_goals refine p_ne ?_
  all_goals refine xk (d:=28) rfl (h0) ?_
  all_goals refine zF ?_
  all_goals refine AtT.done ?_
  all_goals refine nrm ?_
  refine ql rfl rfl ?_;refine zb (tT 0 [1,0]) ?_;refine zm rfl rfl ok5 (Go.Ev.works_f _) ?_;rintro _ rfl;refine zh ?_;exact zL rfl (.tmp rfl) rfl
 have hok:=chE_ok h0
 have hok1:=hok.n
 have hok2:=hok.w
 refine zP (tT 0 [0,0,0,0,0,0,1,0,0]) ?_;refine zw qg ?_;refine kV jO ?_;refine zZ Tryz.underlying22 ?_;refine kgtr ?_;refine xh (d:=24) rfl ((by omega)) ?_;refine ze ?_;all_goals (first | refine kY 25 ?_ | refine kX (d:=25) rfl (λhg25=>?_) (λhg25=>?_) | refine kW (d:=25) rfl (λhg25=>?_) (λhg25=>?_))
 all_goals refine p_la tk24 ?_
 all_goals first|refine kpN ?_|((refine zm rfl rfl ok4 (rsheet_f s _ _ hv) ?_);(rintro _ rfl))
 all_goals refine p_ne ?_
 all_goals (refine xh (d:=28) rfl ((λh=>h h0)) ?_)
 all_goals refine zF ?_
 all_goals refine AtT.done ?_
 all_goals refine nrm ?_
 refine zS rfl rfl ?_;refine zb (tT 0 [0,1,0,0]) ?_;refine qo tk24 ?_;refine kK rfl rfl ok6 (knotsOf_f s (by omega) (λr hr=>by have:=hok.sz r hr;omega) _ _ hv) ?_;rintro v32 V32 hV32 hk32;refine zZ Tryz.underlying28 ?_;refine zh ?_;have hkn:=hok.kn;obtain⟨N,hN⟩:∃ N,N=(knL s).length:=⟨_,rfl⟩;obtain⟨S,hS⟩:∃ S,S=shN (gdS s) (knL s):=⟨_,rfl⟩;have hsym:∀ x y,S x y=S y x:=λx y=>by rw[hS];exact sh_symm _ _ x y
 rw[<-hN];rw[<-hN]at hkn;refine nrm ?_;by_cases g2:N<1
 ·refine zP (tT 0 [0,0,0,0,0,0]) ?_;refine ze ?_;refine qc ?_;refine xk (d:=35) rfl ((by omega)) ?_;refine ze ?_;all_goals (first | refine kY 36 ?_ | refine kX (d:=36) rfl (λhg36=>?_) (λhg36=>?_) | refine kW (d:=36) rfl (λhg36=>?_) (λhg36=>?_))
  all_goals refine zJ ?_
  all_goals refine p_gt ?_
  all_goals refine zF ?_
  all_goals refine AtT.done ?_
  all_goals refine nrm ?_
  refine ql rfl rfl ?_;refine zb (tT 0 [1,0]) ?_;refine zm rfl rfl ok5 (Go.Ev.works_f _) ?_;rintro _ rfl;refine zh ?_;exact zL rfl (.tmp rfl) rfl
 by_cases g3:6<N
 ·refine zP (tT 0 [0,0,0,0,0,0]) ?_;refine ze ?_;refine qc ?_;refine xh (d:=35) rfl ((by omega)) ?_;refine ze ?_;all_goals (first | refine kY 36 ?_ | refine kX (d:=36) rfl (λhg36=>?_) (λhg36=>?_) | refine kW (d:=36) rfl (λhg36=>?_) (λhg36=>?_))
  all_goals refine zJ ?_
  all_goals refine p_gt ?_
  all_goals (refine xk (d:=38) rfl ((by omega)) ?_)
  all_goals refine zF ?_
  all_goals refine AtT.done ?_
  all_goals refine nrm ?_
  refine ql rfl rfl ?_;refine zb (tT 0 [1,0]) ?_;refine zm rfl rfl ok5 (Go.Ev.works_f _) ?_;rintro _ rfl;refine zh ?_;exact zL rfl (.tmp rfl) rfl
 have hv3:=hv.le hV32
 refine zP (tT 0 [0,0,0,0,0,0]) ?_;refine ze ?_;refine qc ?_;refine xh (d:=35) rfl ((by omega)) ?_;refine ze ?_;all_goals (first | refine kY 36 ?_ | refine kX (d:=36) rfl (λhg36=>?_) (λhg36=>?_) | refine kW (d:=36) rfl (λhg36=>?_) (λhg36=>?_))
 all_goals refine zJ ?_
 all_goals refine p_gt ?_
 all_goals (refine xh (d:=38) rfl ((by omega)) ?_)
 all_goals refine zF ?_
 all_goals refine AtT.done ?_
 all_goals refine nrm ?_
 refine zS rfl rfl ?_;refine zb (tT 0 [0,0,1,2]) ?_;refine ze ?_;refine qD (bd32_0 _) ?_;refine zW z32 ?_;intro b4;refine zH tk32 ?_;refine AtT.dn ?_;refine zb (tT 0 [0]) ?_;refine zh ?_;refine xu 36 2 ?_;refine nrm ?_;refine xc (ι:=Nat×Option Addr×Nat) (KS:=λg=>[(1,.pointer (some ⟨b1,0,none⟩)),(3,iv N),(4,.pointer (some ⟨b4,0,none⟩)),(5,iv g.1)])
  (OS:=λg=>[.blk b4 (LC [iv N,.slice g.2.1 (allE S N g.1).length g.2.2] 32),.row (.slice g.2.1 (allE S N g.1).length g.2.2) 36 2 (allE S N g.1).length (flat mse (allE S N g.1)),.blk b1 (LC [.slice a s.rows.length c,iv s.most] 24)])
  (VS:=λg V'=>Le V32 V'/\g.1<=N) (μ:=λg=>N-g.1) (0,none,0) ?_ ?_ ?_ ?_
 ·exact⟨rfl,rfl,rfl,rfl,trivial⟩
 ·exact Pt.zg
 ·exact⟨Le.refl _,Nat.zero_le _⟩
 rintro⟨i,a0,c0⟩ V1 ks' O' ⟨hV1,hi⟩ hk hO hl;dsimp only at hi hk hO;subst hk hO;refine zb (tT 0 [0,0,0]) ?_;refine ze ?_;refine ze ?_;refine qc ?_;refine AtT.dn ?_;refine zI rfl (λhc=>?_) (λhc=>?_)
 ·have hiN:i<N:=by omega
  have hal:=allE_len (S:=S) (N:=N) i
  have hmul:i*N<=36:=Nat.mul_le_mul (show i<=6 by omega) (show N<=6 by omega)
  refine zb (tT 0 [0,0,0]) ?_;refine ze ?_;refine zM ?_;refine zh ?_;refine nrm ?_;refine xc (ι:=Nat×Option Addr×Nat) (KS:=λg=>[(1,.pointer (some ⟨b1,0,none⟩)),(3,iv N),(4,.pointer (some ⟨b4,0,none⟩)),(5,iv i),(6,iv g.1)])
   (OS:=λg=>[.blk b4 (LC [iv N,.slice g.2.1 (allE S N i++rowE S i g.1).length g.2.2] 32),.row (.slice g.2.1 (allE S N i++rowE S i g.1).length g.2.2) 36 2 (allE S N i++rowE S i g.1).length (flat mse (allE S N i++rowE S i g.1)),.blk b1 (LC [.slice a s.rows.length c,iv s.most] 24)])
   (VS:=λg V'=>Le V32 V'/\i<g.1/\g.1<=N) (μ:=λg=>N-g.1) (i+1,a0,c0) ?_ ?_ ?_ ?_
  ·exact⟨rfl,rfl,rfl,rfl,ivs (by dsimp only;omega),trivial⟩
  ·dsimp only;rw[rowE_low (Nat.le_refl _),List.append_nil];exact Pt.zg
  ·exact⟨hV1,Nat.lt_succ_self _,by dsimp only;omega⟩
  rintro⟨k,a1,c1⟩ V2 ks' O' ⟨hV2,hik,hkN⟩ hk hO hl2;dsimp only at hik hkN hk hO;subst hk hO;have hrl:=rowE_len (S:=S) (i:=i) k;have hapl:(allE S N i++rowE S i k).length<=50:=by rw[List.length_append];omega
  have hv4:=hv3.le hV2
  refine zb (tT 0 [0,0,0]) ?_;refine ze ?_;refine ze ?_;refine qc ?_;refine AtT.dn ?_;refine zI rfl (λhc2=>?_) (λhc2=>?_);rotate_left
  ·obtain rfl:k=N:=by omega
   refine zb (tT 0 [0,0,0]) ?_;refine ze ?_;refine zM ?_;refine zh ?_;refine At.round (i+1,a1,c1) ?_ ?_ ?_ ?_
   ·show k-(i+1)<k-i;omega
   ·exact⟨hV2,by dsimp only;omega⟩
   ·exact⟨rfl,rfl,rfl,ivs (by dsimp only;omega),trivial⟩
   ·exact Pt.zg
  have hcae:=cAe_two h0 hik (show k<(knL s).length by omega)
  rw[<-hS]at hcae;refine nrm ?_;cases hsh:S i k with
  | true=>
   have hrow:rowE S i (k+1)=rowE S i k++[⟨(i:Int),(k:Int)⟩]:=by
    show rowE S i k++_=_
    rw[if_pos ⟨hik,hsh⟩]
   rw[hsh,if_pos rfl]at hcae;refine zP (tT 0 [0,0,0,1,1,0]) ?_;refine qo tk24 ?_;refine ze ?_;refine ze ?_;refine zy (bs34_2_0_1 _ _) ?_;intro q58 V58 hV58 hq58;have g58:Le V V58:=by first | exact hV58 | exact Le.trans (by assumption) hV58
   refine zm rfl rfl ok7 (checkAlone_f s [(i:Int),(k:Int)] _ _ _ (hv4.le (by assumption)) (Sl.lit hq58 rfl (by simp))) ?_;rintro _ rfl;rw[hcae];refine zh ?_;refine zb (tT 0 [0,0,0,0,0,0]) ?_;refine ze ?_;refine kJ ?_;refine xk (d:=61) rfl ((by decide)) ?_;refine ze ?_;all_goals (first | refine kY 62 ?_ | refine kX (d:=62) rfl (λhg62=>?_) (λhg62=>?_) | refine kW (d:=62) rfl (λhg62=>?_) (λhg62=>?_))
   all_goals refine zJ ?_
   all_goals refine p_ne ?_
   all_goals (refine xh (d:=64) rfl ((by decide)) ?_)
   all_goals refine zF ?_
   all_goals refine AtT.done ?_
   all_goals refine nrm ?_
   refine zS rfl rfl ?_;refine zb (tT 0 [0,0]) ?_;refine ze ?_;refine keqI ?_;refine AtT.dn ?_;refine ql rfl rfl ?_;refine zb (tT 0 [0,0,0,0,0,1,2,0,2]) ?_;refine zw fo32_1 ?_;refine kV tk30 ?_;refine ze ?_;refine ze ?_;refine qD (bd36_0_1 _ _) ?_;refine zy (bs30_1_0 _ _) ?_;intro q73 V73 hV73 hq73;have g73:Le V V73:=by first | exact hV73 | exact Le.trans (by assumption) hV73
   first | refine jq Tryz.underlying30 rw36 ?_
   intro a74 c74;refine zw fo32_1 ?_;first | refine qK tk30 ?_ | refine zH tk30 ?_
   refine AtT.dn ?_;refine zb (tT 0 [0,0,0]) ?_;refine ze ?_;refine zM ?_;refine zh ?_;refine At.round (k+1,a74,c74) ?_ ?_ ?_ ?_
   ·show N-(k+1)<N-k;omega
   ·exact⟨hV2.trans (by first | assumption | exact Le.trans (by assumption) (by assumption)),by dsimp only;omega,by dsimp only;omega⟩
   ·exact⟨rfl,rfl,rfl,rfl,ivs (by dsimp only;omega),trivial⟩
   ·dsimp only;rw[hrow,<-List.append_assoc,zV,List.length_append,List.length_singleton];exact Pt.zg
  | false=>
   have hrow:rowE S i (k+1)=rowE S i k:=by
    show rowE S i k++_=_
    rw[if_neg (λh=>by rw[hsh]at h;exact absurd h.2 (by decide)),List.append_nil]
   rw[hsh,if_neg (by decide)]at hcae;refine zP (tT 0 [0,0,0,1,1,0]) ?_;refine qo tk24 ?_;refine ze ?_;refine ze ?_;refine zy (bs34_2_0_1 _ _) ?_;intro q58 V58 hV58 hq58;have g58:Le V V58:=by first | exact hV58 | exact Le.trans (by assumption) hV58
   refine zm rfl rfl ok7 (checkAlone_f s [(i:Int),(k:Int)] _ _ _ (hv4.le (by assumption)) (Sl.lit hq58 rfl (by simp))) ?_;rintro _ rfl;rw[hcae];refine zh ?_;refine zb (tT 0 [0,0,0,0,0,0]) ?_;refine ze ?_;refine kJ ?_;refine xh (d:=61) rfl ((by decide)) ?_;refine ze ?_;all_goals (first | refine kY 62 ?_ | refine kX (d:=62) rfl (λhg62=>?_) (λhg62=>?_) | refine kW (d:=62) rfl (λhg62=>?_) (λhg62=>?_))
   all_goals refine zJ ?_
   all_goals refine p_ne ?_
   all_goals refine zF ?_
   all_goals refine AtT.done ?_
   all_goals refine nrm ?_
   refine zS rfl rfl ?_;refine zb (tT 0 [0,0]) ?_;refine ze ?_;refine keqI ?_;refine AtT.dn ?_;refine zS rfl rfl ?_;refine zb (tT 0 [0,0,0]) ?_;refine ze ?_;refine zM ?_;refine zh ?_;refine At.round (k+1,a1,c1) ?_ ?_ ?_ ?_
   ·show N-(k+1)<N-k;omega
   ·exact⟨hV2.trans (by first | assumption | exact Le.trans (by assumption) (by assumption)),by dsimp only;omega,by dsimp only;omega⟩
   ·exact⟨rfl,rfl,rfl,rfl,ivs (by dsimp only;omega),trivial⟩
   ·dsimp only;rw[hrow];exact Pt.zg
 obtain rfl:i=N:=by omega
 obtain⟨E,hEe⟩:∃ E,E=allE S i i:=⟨_,rfl⟩;rw[<-hEe];have hSE:ShE i S E:=by rw[hEe];exact allE_ok
 refine nrm ?_;by_cases g4:10<E.length
 ·refine zP (tT 0 [0,0,0,0]) ?_;refine zw fo32_1 ?_;refine kV tk30 ?_;refine zZ Tryz.underlying30 ?_;refine kgtr ?_;refine xk (d:=79) rfl ((by omega)) ?_;refine AtT.dn ?_;refine ql rfl rfl ?_;refine zb (tT 0 [1,0]) ?_;refine zm rfl rfl ok5 (Go.Ev.works_f _) ?_;rintro _ rfl;refine zh ?_;exact zL rfl (.tmp rfl) rfl
 have hE:MbOk i E:=by rw[hEe];exact allE_book (by omega) (by rw[<-hEe];omega)
 refine zP (tT 0 [0,0,0,0]) ?_;refine zw fo32_1 ?_;refine kV tk30 ?_;refine zZ Tryz.underlying30 ?_;refine kgtr ?_;refine xh (d:=79) rfl ((by omega)) ?_;refine AtT.dn ?_;refine zS rfl rfl ?_;refine xw (l:=E) mse_len rfl rfl zo.zg (λV3 hV3 hsE=>?_);have hv5:=(hv3.le hV1).le hV3;refine zb (tT 0 [0,1,0,0,0,0,0]) ?_;refine qo tk24 ?_;refine kK rfl rfl ok8 (partsP_f s _ _ hv5) ?_;rintro _ V83 hV83 ⟨u,LL,rfl,hSL,hpr⟩;refine ze ?_;refine zx ?_;refine zx ?_;refine zu ?_;refine zh ?_;have hprt:PrtK i S i LL:=by
  rcases hpr with ⟨h1,_⟩ | ⟨_,h1⟩
  ·exact absurd h0 h1
  ·rw[<-hN,<-hS]at h1;exact h1
 have hK:KpOk i S LL:=⟨hprt,hsym⟩
 rw[h0];obtain⟨qs,hq,hql,hqs⟩:=hSL;obtain⟨au,cu,rfl,_⟩:=id hq;have hsE2:=hsE.le hV83;have hflat:=hK.flat;have hLLl:=hq.jC;refine zb (tT 0 [0,1,0,0,0,0,0]) ?_;refine qo tk32 ?_;refine zm rfl rfl ok9 (lParts_f hE hsE2) ?_;rintro _ ⟨ap,mp,cp,ll,rfl,hmp,hP⟩;refine ze ?_;refine zx ?_;refine zx ?_;refine zu ?_;refine zh ?_;have hcnt:=parts_count hSE hsym hP hprt;refine zb (tT 0 [0,0,0,0,0,0]) ?_;refine ze ?_;refine kJ ?_;refine xh (d:=92) rfl ((by decide)) ?_;refine ze ?_;all_goals (first | refine kY 93 ?_ | refine kX (d:=93) rfl (λhg93=>?_) (λhg93=>?_) | refine kW (d:=93) rfl (λhg93=>?_) (λhg93=>?_))
 all_goals refine zJ ?_
 all_goals refine p_ne ?_
 all_goals (refine xh (d:=95) rfl ((by decide)) ?_)
 all_goals refine zF ?_
 all_goals refine AtT.done ?_
 all_goals refine nrm ?_
 refine zS rfl rfl ?_;refine zb (tT 0 [0,1,0]) ?_;refine ze ?_;refine makeSl rfl trivial ei rfl Tryz.underlying34 rw3 rfl rfl (by decide) rfl rfl (by omega) (by omega) (by decide) ?_ (za:=(0:Int));intro b98;refine zh ?_;refine zb (tT 0 [0,0]) ?_;refine zu ?_;refine zh ?_;refine zb (tT 0 [0]) ?_;refine zh ?_;refine nrm ?_;refine xc (ι:=LwQ) (KS:=λg=>[(3,iv i),(4,.pointer (some ⟨b4,0,none⟩)),(8,.slice au qs.length cu),(10,.slice ap mp cp),(12,.slice (some ⟨b98,0,none⟩) i i),(13,iv g.many),(14,iv g.seen),(15,iv g.i)])
  (OS:=λg=>[.blk b98 (LC (flat ei g.of) 3),.blk b4 (LC [iv i,.slice a0 E.length c0] 32)])
  (VS:=λg V'=>V'=V83/\g.i<=LL.length/\OfI i LL g.of g.i 0/\g.many=((LL.take g.i).filter λp=>decide (1<p.length)).length/\g.seen=((LL.take g.i).flatten).length) (μ:=λg=>LL.length-g.i) ⟨0,List.replicate i 0,0,0⟩ ?_ ?_ ?_ ?_
 ·exact⟨rfl,rfl,rfl,rfl,rfl,rfl,rfl,rfl,trivial⟩
 ·exact Pt.zg
 ·exact⟨rfl,Nat.zero_le _,OfI.start,by simp,by simp⟩
 rintro⟨j,of,many,seen⟩ V4 ks' O' ⟨hVe,hj,hof,hmany,hseen⟩ hk hO hl4;dsimp only at hj hof hmany hseen hk hO;subst hVe hk hO;have hst:=sumT LL j;have hmb:many<=j:=by rw[hmany];exact Nat.le_trans (List.length_filter_le _ _) (by rw[List.length_take];omega)
 refine zb (tT 0 [0,0,0,0]) ?_;refine ze ?_;refine ze ?_;refine zZ Tryz.underlying37 ?_;refine qc ?_;refine AtT.dn ?_;refine zI rfl (λhc2=>?_) (λhc2=>?_)
 ·obtain⟨l,hl⟩:∃ l,LL[j]? = some l:=⟨_,List.getElem?_eq_getElem (by omega)⟩;obtain⟨q,hqj⟩:∃ q,qs[j]? = some q:=⟨_,List.getElem?_eq_getElem (by omega)⟩;obtain⟨q1,q2,q3⟩:=q;have hsl:=hqs j _ l hqj hl;obtain⟨al,cl,el,_⟩:=id hsl;injection el with e1 e2 e3;dsimp only at e1 e2 e3;subst e1 e2 e3;dsimp only at hsl;have hss:=sumS hl;have hms:=manS hl;have hst2:=sumT LL (j+1);have hlb:∀ x∈l,0<=x/\x<(i:Int):=λx hx=>hK.bd (List.mem_of_getElem? hl) hx;refine zb (tT 0 [0]) ?_;refine zh ?_;refine nrm ?_;refine xc (ι:=Nat×List Int) (KS:=λg=>[(3,iv i),(4,.pointer (some ⟨b4,0,none⟩)),(8,.slice au qs.length cu),(10,.slice ap mp cp),(12,.slice (some ⟨b98,0,none⟩) i i),(13,iv many),(14,iv (seen+g.1:Nat)),(15,iv j),(16,iv g.1)])
   (OS:=λg=>[.blk b98 (LC (flat ei g.2) 3),.blk b4 (LC [iv i,.slice a0 E.length c0] 32)])
   (VS:=λg V'=>V'=V4/\g.1<=l.length/\OfI i LL g.2 j g.1) (μ:=λg=>l.length-g.1) (0,of) ?_ ?_ ?_ ?_
  ·exact⟨rfl,rfl,rfl,rfl,rfl,rfl,rfl,rfl,rfl,trivial⟩
  ·exact Pt.zg
  ·exact⟨rfl,Nat.zero_le _,hof⟩
  rintro⟨k,of2⟩ V5 ks' O' ⟨hVe,hkl,hof2⟩ hk hO hl5;dsimp only at hkl hof2 hk hO;subst hVe hk hO;refine zb (tT 0 [0,0,0,0,0,0,0]) ?_;refine ze ?_;refine ze ?_;refine ze ?_;refine kZ Tryz.underlying37 qp ?_;intro p108 e108 he108 hc108;obtain rfl:=qx hqj he108;refine kV qp ?_;refine zZ Tryz.underlying34 ?_;refine qc ?_;refine AtT.dn ?_;refine zI rfl (λhc3=>?_) (λhc3=>?_);rotate_left
  ·obtain rfl:k=l.length:=by omega
   have hnx:=hof2.next hl (Nat.le_refl _)
   refine nrm ?_;by_cases c1:1<l.length
   ·rw[if_pos c1]at hms;refine zP (tT 0 [0,0,0,0,0,0]) ?_;refine ze ?_;refine ze ?_;refine kZ Tryz.underlying37 qp ?_;intro p147 e147 he147 hc147;obtain rfl:=qx hqj he147;refine kV qp ?_;refine zZ Tryz.underlying34 ?_;refine kgtr ?_;refine AtT.dn ?_;refine ql rfl (decide_eq_true (by omega)) ?_;refine zb (tT 0 [0,0,0]) ?_;refine ze ?_;refine zM ?_;refine zh ?_;refine zb (tT 0 [0,0,0]) ?_;refine ze ?_;refine zM ?_;refine zh ?_;refine At.round ⟨j+1,of2,many+1,seen+l.length⟩ ?_ ?_ ?_ ?_
    ·show LL.length-(j+1)<LL.length-j;omega
    ·exact⟨rfl,by dsimp only;omega,hnx,by dsimp only;omega,by dsimp only;omega⟩
    ·exact⟨rfl,rfl,rfl,rfl,rfl,ivs (by dsimp only;omega),rfl,ivs (by dsimp only;omega),trivial⟩
    ·exact Pt.zg
   ·rw[if_neg c1]at hms;refine zP (tT 0 [0,0,0,0,0,0]) ?_;refine ze ?_;refine ze ?_;refine kZ Tryz.underlying37 qp ?_;intro p147 e147 he147 hc147;obtain rfl:=qx hqj he147;refine kV qp ?_;refine zZ Tryz.underlying34 ?_;refine kgtr ?_;refine AtT.dn ?_;refine zS rfl (decide_eq_false (by omega)) ?_;refine zb (tT 0 [0,0,0]) ?_;refine ze ?_;refine zM ?_;refine zh ?_;refine At.round ⟨j+1,of2,many,seen+l.length⟩ ?_ ?_ ?_ ?_
    ·show LL.length-(j+1)<LL.length-j;omega
    ·exact⟨rfl,by dsimp only;omega,hnx,by dsimp only;omega,by dsimp only;omega⟩
    ·exact⟨rfl,rfl,rfl,rfl,rfl,rfl,rfl,ivs (by dsimp only;omega),trivial⟩
    ·exact Pt.zg
  obtain⟨x,hx⟩:∃ x,l[k]? = some x:=⟨_,List.getElem?_eq_getElem (by omega)⟩;have hxb:=hlb x (List.mem_of_getElem? hx);have hput:=hof2.put hK hl hx;have hol:=hof2.len;have hset:SetAt (flat ei of2) (0+x.toNat*1) (iv j) (flat ei (of2.set x.toNat (j:Int))):=by rw[qU,qU];refine setAt_of (by rw[List.length_map];omega) (by rw[Nat.zero_add,Nat.mul_one];exact List.map_set.symm)
  refine zb (tT 0 [0,0,0,0,0,0,0,0,0,0,0,0,0,0,0,0,0,0,0]) ?_;refine ze ?_;refine ze ?_;refine kZ Tryz.underlying37 qp ?_;intro p116 e116 he116 hc116;obtain rfl:=qx hqj he116;refine kV qp ?_;refine ze ?_;refine kZ Tryz.underlying34 tk3 ?_;intro p119 e119 he119 hc119;obtain rfl:=qx hx he119;refine kV tk3 ?_;refine qc ?_;refine xh (d:=121) rfl ((by omega)) ?_;refine ze ?_;all_goals (first | refine kY 122 ?_ | refine kX (d:=122) rfl (λhg122=>?_) (λhg122=>?_) | refine kW (d:=122) rfl (λhg122=>?_) (λhg122=>?_))
  all_goals refine zJ ?_
  all_goals refine zJ ?_
  all_goals first|refine AtT.kp ?_|(refine kZ Tryz.underlying37 qp ?_);(intro p125 e125 he125 hc125)
  all_goals (obtain rfl:=qx hqj he125)
  all_goals refine qi qp ?_
  all_goals refine zJ ?_
  all_goals first|refine AtT.kp ?_|(refine kZ Tryz.underlying34 tk3 ?_);(intro p128 e128 he128 hc128)
  all_goals (obtain rfl:=qx hx he128)
  all_goals refine qi tk3 ?_
  all_goals refine zJ ?_
  all_goals first|refine AtT.kp ?_|(refine kgeq ?_)
  all_goals (refine xh (d:=131) rfl ((by omega)) ?_)
  all_goals refine zF ?_
  all_goals refine AtT.done ?_
  all_goals refine nrm ?_
  refine zS rfl rfl ?_;refine zb (tT 0 [0,0,0,0,0,0,0,0,0,0,2]) ?_;refine ze ?_;refine ze ?_;refine ze ?_;refine kZ Tryz.underlying37 qp ?_;intro p136 e136 he136 hc136;obtain rfl:=qx hqj he136;refine kV qp ?_;refine ze ?_;refine kZ Tryz.underlying34 tk3 ?_;intro p139 e139 he139 hc139;obtain rfl:=qx hx he139;refine kV tk3 ?_;refine ze ?_;refine idxO rfl trivial Tryz.underlying34 tk3 rfl rfl hxb.1 hxb.2 (by decide) ?_;refine store1 rfl trivial rfl rfl tk3 rfl rfl (by repeat first|exact Upd.here|apply Upd.there) hset ?_;refine AtT.dn ?_;refine zb (tT 0 [0,0,0]) ?_;refine ze ?_;refine zM ?_;refine zh ?_;refine zb (tT 0 [0,0,0]) ?_;refine ze ?_;refine zM ?_;refine zh ?_;refine At.round (k+1,of2.set x.toNat (j:Int)) ?_ ?_ ?_ ?_
  ·show l.length-(k+1)<l.length-k;omega
  ·exact⟨rfl,by dsimp only;omega,hput⟩
  ·exact⟨rfl,rfl,rfl,rfl,rfl,rfl,ivs (by dsimp only;omega),rfl,ivs (by dsimp only;omega),trivial⟩
  ·exact Pt.zg
 obtain rfl:j=LL.length:=by omega
 rw[List.take_length]at hmany hseen;refine zb (tT 0 [0,0,0,0,0,0,0,0,0]) ?_;refine ze ?_;refine ze ?_;refine kJ ?_;refine xh (d:=155) rfl ((by omega)) ?_;refine ze ?_;all_goals (first | refine kY 156 ?_ | refine kX (d:=156) rfl (λhg156=>?_) (λhg156=>?_) | refine kW (d:=156) rfl (λhg156=>?_) (λhg156=>?_))
 all_goals refine zJ ?_
 all_goals refine p_ln Tryz.underlying37 ?_
 all_goals refine zJ ?_
 all_goals refine p_ne ?_
 all_goals (refine xh (d:=160) rfl ((by omega)) ?_)
 all_goals refine zF ?_
 all_goals refine AtT.done ?_
 all_goals refine nrm ?_
 refine zS rfl rfl ?_;have hol:=hof.len;refine zb (tT 0 [0]) ?_;refine zh ?_;refine nrm ?_;refine xc (ι:=Nat) (KS:=λg=>[(3,iv i),(4,.pointer (some ⟨b4,0,none⟩)),(12,.slice (some ⟨b98,0,none⟩) i i),(17,iv g)]) (OS:=λ_=>[.blk b98 (LC (flat ei of) 3),.blk b4 (LC [iv i,.slice a0 E.length c0] 32)])
  (VS:=λg V'=>Le V4 V'/\g<=i) (μ:=λg=>i-g) 0 ?_ ?_ ?_ ?_
 ·exact⟨rfl,rfl,rfl,rfl,trivial⟩
 ·exact Pt.zg
 ·exact⟨Le.refl _,Nat.zero_le _⟩
 rintro x V5 ks' O' ⟨hV5,hx⟩ hk hO hl5;subst hk hO;refine zb (tT 0 [0,0,0]) ?_;refine ze ?_;refine ze ?_;refine qc ?_;refine AtT.dn ?_;refine zI rfl (λhc3=>?_) (λhc3=>?_);rotate_left
 ·refine zb (tT 0 [1,0]) ?_;refine zm rfl rfl ok5 (Go.Ev.works_f _) ?_;rintro _ rfl;refine zh ?_;exact zL rfl (.tmp rfl) rfl
 refine zb (tT 0 [0]) ?_;refine zh ?_;refine nrm ?_;refine xc (ι:=Nat) (KS:=λg=>[(3,iv i),(4,.pointer (some ⟨b4,0,none⟩)),(12,.slice (some ⟨b98,0,none⟩) i i),(17,iv x),(18,iv g)]) (OS:=λ_=>[.blk b98 (LC (flat ei of) 3),.blk b4 (LC [iv i,.slice a0 E.length c0] 32)])
  (VS:=λg V'=>Le V5 V'/\g<=i) (μ:=λg=>i-g) 0 ?_ ?_ ?_ ?_
 ·exact⟨rfl,rfl,rfl,rfl,rfl,trivial⟩
 ·exact Pt.zg
 ·exact⟨Le.refl _,Nat.zero_le _⟩
 rintro y V6 ks' O' ⟨hV6,hy⟩ hk hO hl6;subst hk hO;have hsE3:=(hsE2.le hV5).le hV6;refine zb (tT 0 [0,0,0]) ?_;refine ze ?_;refine ze ?_;refine qc ?_;refine AtT.dn ?_;refine zI rfl (λhc4=>?_) (λhc4=>?_);rotate_left
 ·refine zb (tT 0 [0,0,0]) ?_;refine ze ?_;refine zM ?_;refine zh ?_;refine At.round (x+1) ?_ ?_ ?_ ?_
  ·show i-(x+1)<i-x;omega
  ·exact⟨hV5.trans hV6,by omega⟩
  ·exact⟨rfl,rfl,rfl,ivs (by omega),trivial⟩
  ·exact Pt.zg
 by_cases hxy:x=y
 ·subst hxy;refine zb (tT 0 [0,0,0,1,0,0,0,0,0]) ?_;refine qo tk32 ?_;refine ze ?_;refine ze ?_;refine zm rfl rfl ok10 (same_f hE hsE3 (x:Int) ⟨by omega,by omega⟩) ?_;rintro _ ⟨w1,w2,rfl⟩;refine ze ?_;refine zx ?_;refine zx ?_;refine zu ?_;refine zh ?_;refine nrm ?_;refine xm (tT 0 [0,0,0,0,0,0,0,0,0,0,0,0,0,0,0,0,0,0,0,0,0,0,0,0,0,0,0,0,0,0,0]) ffm (by kernel_rfl) ?_;refine ze ?_;refine ze ?_;refine kJ ?_;refine xh (d:=181) rfl ((λh=>h rfl)) ?_;refine ze ?_;all_goals (first | refine kY 182 ?_ | refine kX (d:=182) rfl (λhg182=>?_) (λhg182=>?_) | refine kW (d:=182) rfl (λhg182=>?_) (λhg182=>?_))
  all_goals refine zJ ?_
  all_goals refine p_qI ?_
  all_goals refine zJ ?_
  all_goals refine zJ ?_
  all_goals first|refine AtT.kp ?_|(refine kZ Tryz.underlying34 tk3 ?_);(intro p187 e187 he187 hc187)
  all_goals refine qi tk3 ?_
  all_goals refine zJ ?_
  all_goals refine zJ ?_
  all_goals first|refine AtT.kp ?_|(refine kZ Tryz.underlying34 tk3 ?_);(intro p191 e191 he191 hc191)
  all_goals refine qi tk3 ?_
  all_goals refine p_qI ?_
  all_goals first|refine AtT.kp ?_|(refine neB rfl ⟨_,_,rfl,rfl,rfl⟩ Tryz.underlying4 rfl rfl (by decide) ?_)
  all_goals refine zJ ?_
  all_goals (first | refine kY 195 ?_ | refine kX (d:=195) rfl (λhg195=>?_) (λhg195=>?_) | refine kW (d:=195) rfl (λhg195=>?_) (λhg195=>?_))
  all_goals refine zJ ?_
  all_goals refine p_ne ?_
  all_goals refine zJ ?_
  all_goals (first | refine kY 198 ?_ | refine kX (d:=198) rfl (λhg198=>?_) (λhg198=>?_) | refine kW (d:=198) rfl (λhg198=>?_) (λhg198=>?_))
  all_goals refine zJ ?_
  all_goals refine p_ne ?_
  all_goals first|refine AtT.kp ?_|(refine zF ?_)
  all_goals first|refine AtT.kp ?_|(refine zF ?_)
  all_goals refine zJ ?_
  all_goals (first | refine kY 203 ?_ | refine kX (d:=203) rfl (λhg203=>?_) (λhg203=>?_) | refine kW (d:=203) rfl (λhg203=>?_) (λhg203=>?_))
  all_goals refine zJ ?_
  all_goals refine p_ln Tryz.underlying41 ?_
  all_goals refine zJ ?_
  all_goals first|refine AtT.kp ?_|(refine kgeq ?_)
  all_goals first|refine AtT.kp ?_|(refine zF ?_)
  all_goals refine zF ?_
  all_goals refine AtT.done ?_
  all_goals refine nrm ?_
  refine zS rfl rfl ?_;refine zb (tT 0 [0,0,0]) ?_;refine ze ?_;refine zM ?_;refine zh ?_;refine At.round (x+1) ?_ ?_ ?_ ?_
  ·show i-(x+1)<i-x;omega
  ·exact⟨hV6,by omega⟩
  ·exact⟨rfl,rfl,rfl,rfl,ivs (by omega),trivial⟩
  ·exact Pt.zg
 have hyF:0<=(y:Int)/\(y:Int)<(i:Int):=⟨by omega,by omega⟩
 have hfar:=far_ok hE (-1) hyF
 have hF:=hE.f
 have hdone:=hof.done hK (x:=x) (y:=y) (by omega) (by omega)
 have hiff:(0<=(farL E y (-1)).getD x 0)↔of.getD x 0=of.getD y 0:=by
  rw[hdone];constructor
  ·intro h;obtain⟨k,e,hr⟩:=rch_of_fr hSE hsym (far_fr hE hyF hfar _ x (by omega) h (Nat.le_refl _));obtain rfl:x=k:=by omega
   exact rch_symm hsym (by omega) hr
  ·intro hr;have:=fr_far hE hyF hfar (fr_of_rch hSE hsym (by omega) (rch_symm hsym (by omega) hr));rw[Int.toNat_natCast]at this;exact this.2
 have hgx:(flat ei of)[0+(x:Int).toNat*1]? = some (iv (of.getD x 0)):=by rw[Nat.zero_add,Nat.mul_one,Int.toNat_natCast,qU,List.getElem?_map];simp[List.getD,List.getElem?_eq_getElem (show x<of.length by omega)]
 have hgy:(flat ei of)[0+(y:Int).toNat*1]? = some (iv (of.getD y 0)):=by rw[Nat.zero_add,Nat.mul_one,Int.toNat_natCast,qU,List.getElem?_map];simp[List.getD,List.getElem?_eq_getElem (show y<of.length by omega)]
 have hhi:=hfar.hi x (by omega)
 refine nrm ?_;by_cases hpos:0<=(farL E y (-1)).getD x 0
 ·have hsame:=hiff.1 hpos
  refine zP (tT 0 [0,0,0,1,0,0,0,0,0]) ?_;refine qo tk32 ?_;refine ze ?_;refine ze ?_;refine zm rfl rfl ok10 (chain_yes hE hsE3 (x:Int) (y:Int) ⟨by omega,by omega⟩ hyF (by omega) (by rw[Int.toNat_natCast];exact hpos)) ?_;rintro _ ⟨a6,m6,c6,rfl,hm6⟩;refine ze ?_;refine zx ?_;refine zx ?_;refine zu ?_;refine zh ?_;rw[Int.toNat_natCast]at hm6;refine nrm ?_;refine xm (tT 0 [0,0,0,0,0,0,0,0,0,0,0,0,0,0,0,0,0,0,0,0,0,0,0,0,0,0,0,0,0,0,0]) ffm (by kernel_rfl) ?_;refine ze ?_;refine ze ?_;refine kJ ?_;refine xk (d:=181) rfl ((by omega)) ?_;refine ze ?_;all_goals (first | refine kY 182 ?_ | refine kX (d:=182) rfl (λhg182=>?_) (λhg182=>?_) | refine kW (d:=182) rfl (λhg182=>?_) (λhg182=>?_))
  all_goals refine zJ ?_
  all_goals refine p_qI ?_
  all_goals refine xk (d:=184) rfl (rfl) ?_
  all_goals refine zJ ?_
  all_goals refine zJ ?_
  all_goals first|refine AtT.kp ?_|(refine kidxO Tryz.underlying34 tk3 ?_)
  all_goals first|refine AtT.kp ?_|(refine jM rfl ⟨_,_,rfl,rfl,rfl⟩ rfl tk3 zo.zg hgx (by decide) ?_)
  all_goals refine zJ ?_
  all_goals refine zJ ?_
  all_goals first|refine AtT.kp ?_|(refine kidxO Tryz.underlying34 tk3 ?_)
  all_goals first|refine AtT.kp ?_|(refine jM rfl ⟨_,_,rfl,rfl,rfl⟩ rfl tk3 zo.zg hgy (by decide) ?_)
  all_goals refine p_qI ?_
  all_goals refine xk (d:=193) rfl (hsame) ?_
  all_goals first|refine AtT.kp ?_|(refine neB rfl ⟨_,_,rfl,rfl,rfl⟩ Tryz.underlying4 rfl rfl (by decide) ?_)
  all_goals (refine xy (d:=194) rfl ((show(true != true)=false from rfl)) ?_)
  all_goals refine zJ ?_
  all_goals (first | refine kY 195 ?_ | refine kX (d:=195) rfl (λhg195=>?_) (λhg195=>?_) | refine kW (d:=195) rfl (λhg195=>?_) (λhg195=>?_))
  all_goals refine zJ ?_
  all_goals refine p_ne ?_
  all_goals (refine xh (d:=197) rfl ((by decide)) ?_)
  all_goals refine zJ ?_
  all_goals (first | refine kY 198 ?_ | refine kX (d:=198) rfl (λhg198=>?_) (λhg198=>?_) | refine kW (d:=198) rfl (λhg198=>?_) (λhg198=>?_))
  all_goals refine zJ ?_
  all_goals refine p_ne ?_
  all_goals first|refine AtT.kp ?_|(refine zF ?_)
  all_goals first|refine AtT.kp ?_|(refine zF ?_)
  all_goals refine zJ ?_
  all_goals (first | refine kY 203 ?_ | refine kX (d:=203) rfl (λhg203=>?_) (λhg203=>?_) | refine kW (d:=203) rfl (λhg203=>?_) (λhg203=>?_))
  all_goals refine zJ ?_
  all_goals refine p_ln Tryz.underlying41 ?_
  all_goals refine zJ ?_
  all_goals first|refine AtT.kp ?_|(refine kgeq ?_)
  all_goals (refine xh (d:=207) rfl ((by omega)) ?_)
  all_goals first|refine AtT.kp ?_|(refine zF ?_)
  all_goals refine zF ?_
  all_goals refine AtT.done ?_
  all_goals refine nrm ?_
  refine zS rfl rfl ?_;refine zb (tT 0 [0,0,0]) ?_;refine ze ?_;refine zM ?_;refine zh ?_;refine At.round (y+1) ?_ ?_ ?_ ?_
  ·show i-(y+1)<i-y;omega
  ·exact⟨hV6,by omega⟩
  ·exact⟨rfl,rfl,rfl,rfl,ivs (by omega),trivial⟩
  ·exact Pt.zg
 ·have hsame:¬ of.getD x 0=of.getD y 0:=λh=>hpos (hiff.2 h)
  refine zP (tT 0 [0,0,0,1,0,0,0,0,0]) ?_;refine qo tk32 ?_;refine ze ?_;refine ze ?_;refine zm rfl rfl ok10 (chain_no hE hsE3 (x:Int) (y:Int) ⟨by omega,by omega⟩ hyF (by omega) (by rw[Int.toNat_natCast];omega)) ?_;rintro _ rfl;refine ze ?_;refine zx ?_;refine zx ?_;refine zu ?_;refine zh ?_;refine nrm ?_;refine xm (tT 0 [0,0,0,0,0,0,0,0,0,0,0,0,0,0,0,0,0,0,0,0,0,0,0,0,0,0,0,0,0,0,0]) ffm (by kernel_rfl) ?_;refine ze ?_;refine ze ?_;refine kJ ?_;refine xk (d:=181) rfl ((by omega)) ?_;refine ze ?_;all_goals (first | refine kY 182 ?_ | refine kX (d:=182) rfl (λhg182=>?_) (λhg182=>?_) | refine kW (d:=182) rfl (λhg182=>?_) (λhg182=>?_))
  all_goals refine zJ ?_
  all_goals refine p_qI ?_
  all_goals (refine xh (d:=184) rfl ((by decide)) ?_)
  all_goals refine zJ ?_
  all_goals refine zJ ?_
  all_goals first|refine AtT.kp ?_|(refine kidxO Tryz.underlying34 tk3 ?_)
  all_goals first|refine AtT.kp ?_|(refine jM rfl ⟨_,_,rfl,rfl,rfl⟩ rfl tk3 zo.zg hgx (by decide) ?_)
  all_goals refine zJ ?_
  all_goals refine zJ ?_
  all_goals first|refine AtT.kp ?_|(refine kidxO Tryz.underlying34 tk3 ?_)
  all_goals first|refine AtT.kp ?_|(refine jM rfl ⟨_,_,rfl,rfl,rfl⟩ rfl tk3 zo.zg hgy (by decide) ?_)
  all_goals refine p_qI ?_
  all_goals refine xh (d:=193) rfl (hsame) ?_
  all_goals first|refine AtT.kp ?_|(refine neB rfl ⟨_,_,rfl,rfl,rfl⟩ Tryz.underlying4 rfl rfl (by decide) ?_)
  all_goals (refine xy (d:=194) rfl ((show(false != false)=false from rfl)) ?_)
  all_goals refine zJ ?_
  all_goals (first | refine kY 195 ?_ | refine kX (d:=195) rfl (λhg195=>?_) (λhg195=>?_) | refine kW (d:=195) rfl (λhg195=>?_) (λhg195=>?_))
  all_goals refine zJ ?_
  all_goals refine p_ne ?_
  all_goals (refine xk (d:=197) rfl ((by decide)) ?_)
  all_goals refine zJ ?_
  all_goals (first | refine kY 198 ?_ | refine kX (d:=198) rfl (λhg198=>?_) (λhg198=>?_) | refine kW (d:=198) rfl (λhg198=>?_) (λhg198=>?_))
  all_goals refine zJ ?_
  all_goals refine p_ne ?_
  all_goals (refine xh (d:=200) rfl ((by decide)) ?_)
  all_goals first|refine AtT.kp ?_|(refine zF ?_)
  all_goals first|refine AtT.kp ?_|(refine zF ?_)
  all_goals refine zJ ?_
  all_goals (first | refine kY 203 ?_ | refine kX (d:=203) rfl (λhg203=>?_) (λhg203=>?_) | refine kW (d:=203) rfl (λhg203=>?_) (λhg203=>?_))
  all_goals refine zJ ?_
  all_goals refine p_ln Tryz.underlying41 ?_
  all_goals refine zJ ?_
  all_goals first|refine AtT.kp ?_|(refine kgeq ?_)
  all_goals (refine xh (d:=207) rfl ((by omega)) ?_)
  all_goals first|refine AtT.kp ?_|(refine zF ?_)
  all_goals refine zF ?_
  all_goals refine AtT.done ?_
  all_goals refine nrm ?_
  refine zS rfl rfl ?_;refine zb (tT 0 [0,0,0]) ?_;refine ze ?_;refine zM ?_;refine zh ?_;refine At.round (y+1) ?_ ?_ ?_ ?_
  ·show i-(y+1)<i-y;omega
  ·exact⟨hV6,by omega⟩
  ·exact⟨rfl,rfl,rfl,rfl,ivs (by omega),trivial⟩
  ·exact Pt.zg
end Go.Proofs.YtnffcfhdnjbdbaaGreatDoor.M
section
set_option maxRecDepth 100000
namespace Go.Proofs.YtnffcfhdnjbdbaaGreatDoor
open Go.Lw Go.Pm Go.RowKit Go.ChangeShapes Go.WideShapes Go.ChangeAt Go.Joins Go.Deep
theorem seat_laid (os:Os) (args:Array Value):laidMetH Tryz.prog kz ((World.laidAll Tryz.prog os kz).forCall (λ_ _=>0) ⟨#[],args,[]⟩).memory:=by rw[MakeChecks.laidMetH_plain _ _ _ (by kernel_rfl)];exact laidMet_laidAll _ (laid_fits os) (laid_ifaces os)
theorem lcells24:Tryz.prog.cellsOf 24=2:=by kernel_rfl
theorem lcells22:Tryz.prog.cellsOf 22=1:=by kernel_rfl
theorem lcells9:Tryz.prog.cellsOf 9=1:=by kernel_rfl
theorem lcells3:Tryz.prog.cellsOf 3=1:=by kernel_rfl
section
variable {H:Type} {enc:TypeId×Value->H} {W:World} {base b0:Nat} {spare:Nat->Bool} {held:Bool} {v:Value} {d:DataW H} {p:List MemPlace} {r:Reach}
theorem open_sheet (hv:Value.okWide Tryz.prog W r b0 24 v) (h:DataW.Trod enc Tryz.prog W base spare held 24 v d p):∃ s:Sh,ShV (hp W) v s:=by
 obtain⟨cs,rfl,hsz⟩:=okWide_struct Tryz.underlying24 hv;rw[lcells24]at hsz;obtain⟨fuel,h⟩:=h;obtain⟨l⟩:=cs
 match l,hsz with
 | [c0,c1],_=>
  obtain⟨y0,y1,n,_,_,h0,h1⟩:=trod_struct2 Tryz.underlying24 h;dsimp only at h0 h1;have h0':DataW.trod enc Tryz.prog W base spare held n 22 [c0]=some y0:=by rw[lcells22]at h0;exact h0
  have h1':DataW.trod enc Tryz.prog W base spare held n 3 [c1]=some y1:=by rw[lcells3]at h1;exact h1
  obtain⟨rows,a,cap,e0,hs⟩:=sl_of (en:=bse) (s:=1) Tryz.underlying22 lcells9 (λ_ _ _ h _=>by obtain⟨z,e,_,_⟩:=DataW.trod_string Tryz.underlying9 h;exact⟨z,e⟩) h0';obtain⟨m,k1,_⟩:=el_int (k:=.i64) Tryz.underlying3 h1';have k1':[c1]=[Value.int .i64 m]:=k1;simp only[List.cons.injEq,and_true]at k1';subst e0 k1';exact⟨⟨rows,m⟩,a,cap,rfl,hs⟩
end
end Go.Proofs.YtnffcfhdnjbdbaaGreatDoor
end
section
set_option maxRecDepth 100000
namespace Go.Proofs.YtnffcfhdnjbdbaaGreatDoor
open Go Go.ChangeShapes Go.WideShapes
theorem zJoin:joinedFacts Tryz.pinned.checked.prog 3 Tryz.f3 Rows.topPatchedMatchSpec Rows.topPatchedMatchRow=true:=by
 show joinedFacts Tryz.prog 3 Tryz.f3 Rows.topPatchedMatchSpec Rows.topPatchedMatchRow=true
 unfold joinedFacts;simp only[Bool.and_eq_true (_:Bool) (_:Bool)];exact⟨⟨⟨⟨⟨⟨⟨⟨⟨⟨⟨⟨⟨⟨⟨⟨⟨⟨⟨⟨⟨⟨⟨⟨⟨⟨⟨⟨⟨⟨⟨zj0,laidOut⟩,zj2⟩,zj3⟩,zj4⟩,zj5⟩,zj6⟩,zj7⟩,zj8⟩,(beq_iff_eq.2 inPlace_ok.symm)⟩,(beq_iff_eq.2 unf_ok.symm)⟩,(beq_iff_eq.2 rec_ok.symm)⟩,(beq_iff_eq.2 named_ok.symm)⟩,zj13⟩,zj14⟩,zj15⟩,zj16⟩,zj17⟩,zj18⟩,zj19⟩,zj20⟩,zj21⟩,zj22⟩,zj23⟩,zj24⟩,zj25⟩,zj26⟩,zj27⟩,zj28⟩,zj29⟩,zj30⟩,zj31⟩
theorem zGoes:false=Rows.topPatchedMatchRow.goesBy Tryz.pinned.checked.prog:=by
 have e:Tryz.prog.goesFrom "crossband/crossbandtop.TopPatchedMatch" = false:=by unfold Program.goesFrom;rw[zNamed,Option.any_some];exact goes_ok
 have e2:Tryz.prog.goesAt .entering "crossband/crossbandtop.TopPatchedMatch" = false:=by unfold Program.goesAt;rw[e,Bool.false_or]
 unfold OpenClaim.goesBy;rw[show Rows.topPatchedMatchRow.start=.entering from rfl,show Rows.topPatchedMatchRow.func = "crossband/crossbandtop.TopPatchedMatch" from rfl,show Tryz.pinned.checked.prog=Tryz.prog from rfl,e2]
end Go.Proofs.YtnffcfhdnjbdbaaGreatDoor
end
