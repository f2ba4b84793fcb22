/- Texts that the last one of this claim imports. -/
import Derived.Test.YtmdcedioddchfaaGreatDoorRows
import Derived.Test.YtmdcedioddchfaaGreatDoorCards
import Derived.Lib.SmallJoins
import Derived.MakeChecks
import Derived.SevenTiedAt
import Derived.LaidLaws
import Derived.Test.YtmdcedioddchfaaGreatDoorQ7
import Derived.Test.YtmdcedioddchfaaGreatDoorQ13
import Derived.Test.YtmdcedioddchfaaGreatDoorQ14
import Derived.Test.YtmdcedioddchfaaGreatDoorQ15
import Derived.Test.YtmdcedioddchfaaGreatDoorQ16
import Derived.Test.YtmdcedioddchfaaGreatDoorQ17
import Derived.Test.YtmdcedioddchfaaGreatDoorQ18
import Derived.Test.YtmdcedioddchfaaGreatDoorQ27
import Derived.Test.YtmdcedioddchfaaGreatDoorQ28
import Derived.Test.YtmdcedioddchfaaGreatDoorQ35
import Derived.Test.YtmdcedioddchfaaGreatDoorQ36
set_option linter.unusedVariables false
set_option linter.unusedSimpArgs false
set_option linter.unusedSectionVars false
section
set_option linter.unusedVariables false
set_option linter.constructorNameAsVariable false
namespace Go.Ev
open Go.Lw Go.RowKit Go.Proofs
noncomputable def orT:Orc:=.mk fun args h K=>List.rec (motive:=fun _=>R) (K (.b true) h) (fun _ _ _=>none) args
theorem orT_ok {w0:World} {f:FuncId} (hc:zy Pr f) (hw:∀ w:World,Calls Pr f #[] w fun en w'=>en=.returned (.bool true)∧Below w.heap.size w w'):FOk w0 orT.g f:=by
 intro e h K z args us w hh ha R
 refine⟨hc,?_⟩
 cases args with
 | nil=>
  cases us with
  | nil=>exact FOk.val (x:=.b true) R hh rfl (hw w)
  | cons _ _=>exact ha.elim
 | cons _ _=>cases hh
noncomputable def O5 (f:FuncId):Option Orc:=bif [289,290,291,219,157,106,58,27,15].any (Nat.beq f)then some orT else none
theorem oc5 (w0:World):OcOk w0 O5:=by
 intro f o h
 unfold O5 at h
 cases c:[289,290,291,219,157,106,58,27,15].any (Nat.beq f)with
 | false=>rw[c]at h; cases h
 | true=>
  rw[c]at h
  cases h
  simp only[List.any_cons,List.any_nil,Bool.or_false,Bool.or_eq_true]at c
  rcases c with c | c | c | c | c | c | c | c | c<;>obtain rfl:=Nat.eq_of_beq_eq_true c
  ·exact @orT_ok w0 _ (by rw[xn]; exact zu Tryz.func289 (by kernel_rfl) (by kernel_rfl)) works01
  ·exact @orT_ok w0 _ (by rw[xn]; exact zu Tryz.func290 (by kernel_rfl) (by kernel_rfl)) works02
  ·exact @orT_ok w0 _ (by rw[xn]; exact zu Tryz.func291 (by kernel_rfl) (by kernel_rfl)) works03
  ·exact @orT_ok w0 _ (by rw[xn]; exact zu Tryz.func219 (by kernel_rfl) (by kernel_rfl)) works04
  ·exact @orT_ok w0 _ (by rw[xn]; exact zu Tryz.func157 (by kernel_rfl) (by kernel_rfl)) works05
  ·exact @orT_ok w0 _ (by rw[xn]; exact zu Tryz.func106 (by kernel_rfl) (by kernel_rfl)) works06
  ·exact @orT_ok w0 _ (by rw[xn]; exact zu Tryz.func58 (by kernel_rfl) (by kernel_rfl)) works07
  ·exact @orT_ok w0 _ (by rw[xn]; exact zu Tryz.func27 (by kernel_rfl) (by kernel_rfl)) works08
  ·exact @orT_ok w0 _ (by rw[xn]; exact zu Tryz.func15 (by kernel_rfl) (by kernel_rfl)) works09
theorem wAll:runs O5 6=true:=by decide +kernel
theorem works_f (V:View):Fnc Tryz.prog 6 [] V fun r _=>r=.bool true:=fun w hw=>by
 rw[←xn]
 exact(kX wAll w (oc5 w)).mono fun e w' ⟨h1,h2⟩=>⟨_,V,h1,h2,Le.refl _,hw.trans (Lw.Below.le h2),fun k o hk=>.inl hk,rfl⟩
end Go.Ev
end
section
set_option linter.unusedVariables false
namespace Go.Proofs.YtmdcedioddchfaaGreatDoor.D
open Go.Lw Go.Ps Go.Gr Go.Cc Go.Cx Go.RowKit
open Go.Gl (iv ivs qy)
open C (rbv)
theorem rRib1_f (n:Int) (a:Option Addr) (f:List Int) (c:Nat) (hf:¬ RbOk n f) (V:View) (hs:SlI V (.slice a f.length c) f):Fnc Tryz.prog 4 [rbv n a f c] V fun r _=>∃ e,r=iv e∧e≠0:=
 (C.rRibbon_f n a f c V hs).mono fun r V' _ ⟨e,h1,h2⟩=>⟨e,h1,fun h=>hf (h2.1 h)⟩
theorem rKin1_f (ks:List Kd) (hks:¬ KdOk ks) (V:View) (v:Value) (hs:Sl V kde 3 v ks):Fnc Tryz.prog 5 [v] V fun r _=>∃ e,r=iv e∧e≠0:=
 (C.rKinds_f ks V v hs).mono fun r V' _ ⟨e,h1,h2⟩=>⟨e,h1,fun h=>hks (h2.1 h)⟩
section
variable {ks:List Kd} {C:List Ct} {P:List Nat} {p:Int} {a1:Option Addr} {c1:Nat} {a2:Option Addr} {c2:Nat} {a3:Option Addr} {c3:Nat} {V:View}
theorem lLeast_f (h:ShF ks C P p) (hv:ShV V (shS ks C P) a1 c1 a2 c2 a3 c3):Fnc Tryz.prog 10 [shv (shS ks C P) a1 c1 a2 c2 a3 c3] V fun r _=>r=.tuple #[iv p,iv 0]:=
 (gLeast_f h.ok hv).mono fun r V' _ hr=>by
  rcases hr with ⟨_,T,hT,rfl⟩ | ⟨hc,_⟩
  ·rw[h.cost (h.spn hT (st5_ok h.ok))]
  ·exact absurd h.can (by rw[show(shS ks C P).st++List.replicate (5-(shS ks C P).st.length) 0=st5 (shS ks C P)from rfl,hc]; decide)
theorem lSpent_f (h:ShF ks C P p) (hv:ShV V (shS ks C P) a1 c1 a2 c2 a3 c3):Fnc Tryz.prog 11 [shv (shS ks C P) a1 c1 a2 c2 a3 c3] V fun r V'=>∃ v,r=.tuple #[v,iv 0]∧SlI V' v (shS ks C P).st:=
 (gSpent_f h.ok hv).mono fun r V' _ hr=>by
  rcases hr with ⟨_,T,v,hT,rfl,hs⟩ | ⟨hc,_⟩
  ·rw[h.take hT.st.len (h.spn hT (st5_ok h.ok))]at hs
   exact⟨v,rfl,hs⟩
  ·exact absurd h.can (by rw[show(shS ks C P).st++List.replicate (5-(shS ks C P).st.length) 0=st5 (shS ks C P)from rfl,hc]; decide)
theorem lWorth_f (h:ShF ks C P p) (hv:ShV V (shS ks C P) a1 c1 a2 c2 a3 c3) (g:Nat) (hg:g<ks.length):Fnc Tryz.prog 13 [shv (shS ks C P) a1 c1 a2 c2 a3 c3,iv g] V fun r _=>r=.tuple #[iv 0,iv 0]:=by
 have hl:=h.stl
 have hn:=h.ok.n
 have hl2:=h.len
 have hok:=h.ok
 refine(gWorth_f hok hv h.can g (by omega)).mono fun r V' _ hr=>?_
 obtain⟨T,T',hT,hT',rfl⟩:=hr
 have hS5:=st5_ok hok
 have hb:StB (incS (st5 (shS ks C P)) g):=⟨by rw[List.length_set]; exact hS5.len,fun x hx=>by
  rcases List.mem_or_eq_of_mem_set hx with h1 | h1
  ·exact hS5.bd x h1
  ·have e:(st5 (shS ks C P)).getD g 0=(shS ks C P).st.getD g 0:=st5_getD _ hn.2 g
   have e2:(shS ks C P).st.getD g 0≤50:=by
    rw[List.getD_eq_getElem?_getD,List.getElem?_eq_getElem (by omega)]; exact(hok.sb _ (List.getElem_mem _)).2
   have:=h.st0 g
   omega⟩
 rw[h.cost (h.spn hT hS5),h.cost (h.spn1 (g:=g) (by omega) rfl hT' hb),Int.sub_self]
end
end Go.Proofs.YtmdcedioddchfaaGreatDoor.D
end
section
set_option linter.unusedVariables false
namespace Go.Proofs.YtmdcedioddchfaaGreatDoor.D
open Go.Lw Go.Ps Go.Gr Go.Cc Go.Cx Go.RowKit
open Go.Gl (iv ivs qy)
open C (rbv)
theorem ok4:zy Tryz.prog 4:=C.ok4
theorem ok5:zy Tryz.prog 5:=C.ok5
theorem ok6:zy Tryz.prog 6:=zu Tryz.func6 (by kernel_rfl) (by kernel_rfl)
theorem ok7:zy Tryz.prog 7:=C.ok7
theorem ok8:zy Tryz.prog 8:=C.ok8
theorem ok9:zy Tryz.prog 9:=C.ok9
structure LwG where
 P:List Nat
 a1:Option Addr
 c1:Nat
 a2:Option Addr
 c2:Nat
 a3:Option Addr
 c3:Nat
theorem ctOf {C:List Ct} {t:Nat} {e:Ct} (h:C[t]? = some e):C.take (t+1)=C.take t++[e]:=by rw[List.take_add_one,h]; rfl
section
variable {ks:List Kd} {C:List Ct} {P:List Nat} {p:Int} {a1:Option Addr} {c1:Nat} {a2:Option Addr} {c2:Nat} {a3:Option Addr} {c3:Nat} {V:View}
theorem shvP (h:ShF ks C P p):shv (shS ks C P) a1 c1 a2 c2 a3 c3=.agg #[.slice a1 P.length c1,.slice a2 P.length c2,.slice a3 P.length c3]:=by
 unfold shv; rw[h.stl,h.prl,h.osl]
theorem lLeast2_f (h:ShF ks C P p) (hv:ShV V (shS ks C P) a1 c1 a2 c2 a3 c3):Fnc Tryz.prog 10 [.agg #[.slice a1 P.length c1,.slice a2 P.length c2,.slice a3 P.length c3]] V fun r _=>r=.tuple #[iv p,iv 0]:=by
 rw[←shvP h]; exact lLeast_f h hv
theorem lSpent2_f (h:ShF ks C P p) (hv:ShV V (shS ks C P) a1 c1 a2 c2 a3 c3):Fnc Tryz.prog 11 [.agg #[.slice a1 P.length c1,.slice a2 P.length c2,.slice a3 P.length c3]] V fun r V'=>∃ v,r=.tuple #[v,iv 0]∧SlI V' v (shS ks C P).st:=by
 rw[←shvP h]; exact lSpent_f h hv
theorem lWorth2_f (h:ShF ks C P p) (hv:ShV V (shS ks C P) a1 c1 a2 c2 a3 c3) (g:Nat) (hg:g<ks.length):Fnc Tryz.prog 13 [.agg #[.slice a1 P.length c1,.slice a2 P.length c2,.slice a3 P.length c3],iv g] V fun r _=>r=.tuple #[iv 0,iv 0]:=by
 rw[←shvP h]; exact lWorth_f h hv g hg
end
set_option maxHeartbeats 12800000 in
theorem top_f (n:Int) (a:Option Addr) (f:List Int) (c:Nat) (ks:List Kd) (V:View) (kv:Value) (hs:SlI V (.slice a f.length c) f) (hk:Sl V kde 3 kv ks) :
  Fnc Tryz.prog 3 [rbv n a f c,kv] V fun r _=>r=.bool true:=by
 have hlf:=hs.qV
 have hlk:=hk.qV
 obtain⟨ak,ck,rfl,k1,k2,_⟩:=id hk
 clear k1 k2
 refine qa Tryz.func3 rfl Tryz.ntmps3 (Nat.le_of_ble_eq_true rfl) ?_
 intro w0 hw0
 refine At.nrm ?_
 refine At.zh (.n false 0 (.q 1 .done)) ?_
 refine AtT.jA ?_
 intro b2
 refine AtT.zg ?_
 refine AtT.done ?_
 refine At.nrm ?_
 by_cases g1:30<f.length
 ·refine At.zh (.q 0 (.q 1 (.q 2 (.q 3 (.q 4 (.q 5 (.q 6 (.q 7 (.q 8 (.q 9 (.q 10 (.n false 11 (.q 12 (.q 13 (.q 14 (.q 15 (.n false 16 (.q 17 (.q 18 .done))))))))))))))))))) ?_
  first | refine AtT.zk zB ?_ | with_reducible refine AtT.zm zB ?_ | refine AtT.zo zB ?_
  first | refine AtT.zn qH ?_ | refine AtT.zq qH ?_
  first | refine AtT.zW Tryz.underlying22 ?_ | refine AtT.zX Tryz.underlying22 ?_
  refine AtT.qA ?_
  refine AtT.kR (d:=26) rfl ((by omega)) ?_
  refine AtT.zf ?_
  all_goals (first | refine AtT.kL 27 ?_ | refine AtT.zF (d:=27) rfl (fun hg27=>?_) (fun hg27=>?_) | refine AtT.zD (d:=27) rfl (fun hg27=>?_) (fun hg27=>?_))
  all_goals first|refine AtT.zi ?_|refine AtT.ze ?_|(refine AtT.zf ?_)
  all_goals first|refine AtT.zi ?_|refine AtT.ze ?_|(first | refine AtT.zW Tryz.underlying25 ?_ | refine AtT.zX Tryz.underlying25 ?_)
  all_goals first|refine AtT.zi ?_|refine AtT.ze ?_|(refine AtT.qA ?_)
  all_goals (refine AtT.zH ?_)
  all_goals (refine AtT.zf ?_)
  all_goals (first | refine AtT.kL 32 ?_ | refine AtT.zF (d:=32) rfl (fun hg32=>?_) (fun hg32=>?_) | refine AtT.zD (d:=32) rfl (fun hg32=>?_) (fun hg32=>?_))
  all_goals first|refine AtT.zi ?_|refine AtT.ze ?_|(first | refine AtT.zL qR ?_ | refine AtT.zS qR ?_ | refine AtT.zK qR ?_)
  all_goals first|refine AtT.jq ?_|refine AtT.qP ?_|((fail))
  all_goals first|refine AtT.zi ?_|refine AtT.ze ?_|(refine AtT.jT ?_)
  all_goals (refine AtT.zH ?_)
  all_goals (refine AtT.zf ?_)
  all_goals (first | refine AtT.kL 37 ?_ | refine AtT.zF (d:=37) rfl (fun hg37=>?_) (fun hg37=>?_) | refine AtT.zD (d:=37) rfl (fun hg37=>?_) (fun hg37=>?_))
  all_goals first|refine AtT.zi ?_|refine AtT.ze ?_|(refine AtT.zf ?_)
  all_goals first|refine AtT.jq ?_|refine AtT.qP ?_|((fail))
  all_goals first|refine AtT.zi ?_|refine AtT.ze ?_|(refine AtT.jT ?_)
  all_goals (refine AtT.zH ?_)
  all_goals refine AtT.done ?_
  all_goals (refine At.nrm ?_)
  refine At.jo rfl rfl ?_
  refine At.nrm ?_
  refine At.zh (.n false 0 (.q 1 .done)) ?_
  refine AtT.zR rfl rfl ok6 (Go.Ev.works_f _) ?_
  rintro _ rfl
  refine AtT.zg ?_
  refine AtT.done ?_
  refine At.nrm ?_
  exact At.qf rfl (.tmp rfl) rfl
 by_cases g2:5<ks.length
 ·refine At.zh (.q 0 (.q 1 (.q 2 (.q 3 (.q 4 (.q 5 (.q 6 (.q 7 (.q 8 (.q 9 (.q 10 (.n false 11 (.q 12 (.q 13 (.q 14 (.q 15 (.n false 16 (.q 17 (.q 18 .done))))))))))))))))))) ?_
  first | refine AtT.zk zB ?_ | with_reducible refine AtT.zm zB ?_ | refine AtT.zo zB ?_
  first | refine AtT.zn qH ?_ | refine AtT.zq qH ?_
  first | refine AtT.zW Tryz.underlying22 ?_ | refine AtT.zX Tryz.underlying22 ?_
  refine AtT.qA ?_
  refine AtT.qx (d:=26) rfl ((by omega)) ?_
  refine AtT.zf ?_
  all_goals (first | refine AtT.kL 27 ?_ | refine AtT.zF (d:=27) rfl (fun hg27=>?_) (fun hg27=>?_) | refine AtT.zD (d:=27) rfl (fun hg27=>?_) (fun hg27=>?_))
  all_goals first|refine AtT.zi ?_|refine AtT.ze ?_|(refine AtT.zf ?_)
  all_goals first|refine AtT.zi ?_|refine AtT.ze ?_|(first | refine AtT.zW Tryz.underlying25 ?_ | refine AtT.zX Tryz.underlying25 ?_)
  all_goals first|refine AtT.zi ?_|refine AtT.ze ?_|(refine AtT.qA ?_)
  all_goals (refine AtT.kR (d:=30) rfl ((by omega)) ?_)
  all_goals (refine AtT.zH ?_)
  all_goals (refine AtT.zf ?_)
  all_goals (first | refine AtT.kL 32 ?_ | refine AtT.zF (d:=32) rfl (fun hg32=>?_) (fun hg32=>?_) | refine AtT.zD (d:=32) rfl (fun hg32=>?_) (fun hg32=>?_))
  all_goals first|refine AtT.zi ?_|refine AtT.ze ?_|(first | refine AtT.zL qR ?_ | refine AtT.zS qR ?_ | refine AtT.zK qR ?_)
  all_goals first|refine AtT.jq ?_|refine AtT.qP ?_|((fail))
  all_goals first|refine AtT.zi ?_|refine AtT.ze ?_|(refine AtT.jT ?_)
  all_goals (refine AtT.zH ?_)
  all_goals (refine AtT.zf ?_)
  all_goals (first | refine AtT.kL 37 ?_ | refine AtT.zF (d:=37) rfl (fun hg37=>?_) (fun hg37=>?_) | refine AtT.zD (d:=37) rfl (fun hg37=>?_) (fun hg37=>?_))
  all_goals first|refine AtT.zi ?_|refine AtT.ze ?_|(refine AtT.zf ?_)
  all_goals first|refine AtT.jq ?_|refine AtT.qP ?_|((fail))
  all_goals first|refine AtT.zi ?_|refine AtT.ze ?_|(refine AtT.jT ?_)
  all_goals (refine AtT.zH ?_)
  all_goals refine AtT.done ?_
  all_goals (refine At.nrm ?_)
  refine At.jo rfl rfl ?_
  refine At.nrm ?_
  refine At.zh (.n false 0 (.q 1 .done)) ?_
  refine AtT.zR rfl rfl ok6 (Go.Ev.works_f _) ?_
  rintro _ rfl
  refine AtT.zg ?_
  refine AtT.done ?_
  refine At.nrm ?_
  exact At.qf rfl (.tmp rfl) rfl
 by_cases hf:RbOk n f
 rotate_left
 ·refine At.zh (.q 0 (.q 1 (.q 2 (.q 3 (.q 4 (.q 5 (.q 6 (.q 7 (.q 8 (.q 9 (.q 10 (.n false 11 (.q 12 (.q 13 (.q 14 (.q 15 (.n false 16 (.q 17 (.q 18 .done))))))))))))))))))) ?_
  first | refine AtT.zk zB ?_ | with_reducible refine AtT.zm zB ?_ | refine AtT.zo zB ?_
  first | refine AtT.zn qH ?_ | refine AtT.zq qH ?_
  first | refine AtT.zW Tryz.underlying22 ?_ | refine AtT.zX Tryz.underlying22 ?_
  refine AtT.qA ?_
  refine AtT.qx (d:=26) rfl ((by omega)) ?_
  refine AtT.zf ?_
  all_goals (first | refine AtT.kL 27 ?_ | refine AtT.zF (d:=27) rfl (fun hg27=>?_) (fun hg27=>?_) | refine AtT.zD (d:=27) rfl (fun hg27=>?_) (fun hg27=>?_))
  all_goals first|refine AtT.zi ?_|refine AtT.ze ?_|(refine AtT.zf ?_)
  all_goals first|refine AtT.zi ?_|refine AtT.ze ?_|(first | refine AtT.zW Tryz.underlying25 ?_ | refine AtT.zX Tryz.underlying25 ?_)
  all_goals first|refine AtT.zi ?_|refine AtT.ze ?_|(refine AtT.qA ?_)
  all_goals (refine AtT.qx (d:=30) rfl ((by omega)) ?_)
  all_goals (refine AtT.zH ?_)
  all_goals (refine AtT.zf ?_)
  all_goals (first | refine AtT.kL 32 ?_ | refine AtT.zF (d:=32) rfl (fun hg32=>?_) (fun hg32=>?_) | refine AtT.zD (d:=32) rfl (fun hg32=>?_) (fun hg32=>?_))
  all_goals first|refine AtT.zi ?_|refine AtT.ze ?_|(first | refine AtT.zL qR ?_ | refine AtT.zS qR ?_ | refine AtT.zK qR ?_)
  all_goals first|refine AtT.jq ?_|refine AtT.qP ?_|((refine AtT.zR rfl rfl ok4 (rRib1_f n a f c hf _ hs) ?_);(rintro _ ⟨e,rfl,he⟩))
  all_goals first|refine AtT.zi ?_|refine AtT.ze ?_|(refine AtT.jT ?_)
  all_goals (refine AtT.kR (d:=35) rfl (he) ?_)
  all_goals (refine AtT.zH ?_)
  all_goals (refine AtT.zf ?_)
  all_goals (first | refine AtT.kL 37 ?_ | refine AtT.zF (d:=37) rfl (fun hg37=>?_) (fun hg37=>?_) | refine AtT.zD (d:=37) rfl (fun hg37=>?_) (fun hg37=>?_))
  all_goals first|refine AtT.zi ?_|refine AtT.ze ?_|(refine AtT.zf ?_)
  all_goals first|refine AtT.jq ?_|refine AtT.qP ?_|((fail))
  all_goals first|refine AtT.zi ?_|refine AtT.ze ?_|(refine AtT.jT ?_)
  all_goals (refine AtT.zH ?_)
  all_goals refine AtT.done ?_
  all_goals (refine At.nrm ?_)
  refine At.jo rfl rfl ?_
  refine At.nrm ?_
  refine At.zh (.n false 0 (.q 1 .done)) ?_
  refine AtT.zR rfl rfl ok6 (Go.Ev.works_f _) ?_
  rintro _ rfl
  refine AtT.zg ?_
  refine AtT.done ?_
  refine At.nrm ?_
  exact At.qf rfl (.tmp rfl) rfl
 by_cases hks:KdOk ks
 rotate_left
 ·refine At.zh (.q 0 (.q 1 (.q 2 (.q 3 (.q 4 (.q 5 (.q 6 (.q 7 (.q 8 (.q 9 (.q 10 (.n false 11 (.q 12 (.q 13 (.q 14 (.q 15 (.n false 16 (.q 17 (.q 18 .done))))))))))))))))))) ?_
  first | refine AtT.zk zB ?_ | with_reducible refine AtT.zm zB ?_ | refine AtT.zo zB ?_
  first | refine AtT.zn qH ?_ | refine AtT.zq qH ?_
  first | refine AtT.zW Tryz.underlying22 ?_ | refine AtT.zX Tryz.underlying22 ?_
  refine AtT.qA ?_
  refine AtT.qx (d:=26) rfl ((by omega)) ?_
  refine AtT.zf ?_
  all_goals (first | refine AtT.kL 27 ?_ | refine AtT.zF (d:=27) rfl (fun hg27=>?_) (fun hg27=>?_) | refine AtT.zD (d:=27) rfl (fun hg27=>?_) (fun hg27=>?_))
  all_goals first|refine AtT.zi ?_|refine AtT.ze ?_|(refine AtT.zf ?_)
  all_goals first|refine AtT.zi ?_|refine AtT.ze ?_|(first | refine AtT.zW Tryz.underlying25 ?_ | refine AtT.zX Tryz.underlying25 ?_)
  all_goals first|refine AtT.zi ?_|refine AtT.ze ?_|(refine AtT.qA ?_)
  all_goals (refine AtT.qx (d:=30) rfl ((by omega)) ?_)
  all_goals (refine AtT.zH ?_)
  all_goals (refine AtT.zf ?_)
  all_goals (first | refine AtT.kL 32 ?_ | refine AtT.zF (d:=32) rfl (fun hg32=>?_) (fun hg32=>?_) | refine AtT.zD (d:=32) rfl (fun hg32=>?_) (fun hg32=>?_))
  all_goals first|refine AtT.zi ?_|refine AtT.ze ?_|(first | refine AtT.zL qR ?_ | refine AtT.zS qR ?_ | refine AtT.zK qR ?_)
  all_goals first|refine AtT.jq ?_|refine AtT.qP ?_|((refine AtT.zR rfl rfl ok4 (C.rRib0_f n a f c hf _ hs) ?_);(rintro _ rfl))
  all_goals first|refine AtT.zi ?_|refine AtT.ze ?_|(refine AtT.jT ?_)
  all_goals (refine AtT.qx (d:=35) rfl ((by decide)) ?_)
  all_goals (refine AtT.zH ?_)
  all_goals (refine AtT.zf ?_)
  all_goals (first | refine AtT.kL 37 ?_ | refine AtT.zF (d:=37) rfl (fun hg37=>?_) (fun hg37=>?_) | refine AtT.zD (d:=37) rfl (fun hg37=>?_) (fun hg37=>?_))
  all_goals first|refine AtT.zi ?_|refine AtT.ze ?_|(refine AtT.zf ?_)
  all_goals first|refine AtT.jq ?_|refine AtT.qP ?_|((refine AtT.zR rfl rfl ok5 (rKin1_f ks hks _ _ hk) ?_);(rintro _ ⟨e,rfl,he⟩))
  all_goals first|refine AtT.zi ?_|refine AtT.ze ?_|(refine AtT.jT ?_)
  all_goals (refine AtT.kR (d:=40) rfl (he) ?_)
  all_goals (refine AtT.zH ?_)
  all_goals refine AtT.done ?_
  all_goals (refine At.nrm ?_)
  refine At.jo rfl rfl ?_
  refine At.nrm ?_
  refine At.zh (.n false 0 (.q 1 .done)) ?_
  refine AtT.zR rfl rfl ok6 (Go.Ev.works_f _) ?_
  rintro _ rfl
  refine AtT.zg ?_
  refine AtT.done ?_
  refine At.nrm ?_
  exact At.qf rfl (.tmp rfl) rfl
 have hn:=hf.nb
 have hkn:=hks.n
 obtain⟨m,rfl⟩:∃ m:Nat,n=m:=⟨n.toNat,by omega⟩
 refine At.zh (.q 0 (.q 1 (.q 2 (.q 3 (.q 4 (.q 5 (.q 6 (.q 7 (.q 8 (.q 9 (.q 10 (.n false 11 (.q 12 (.q 13 (.q 14 (.q 15 (.n false 16 (.q 17 (.q 18 .done))))))))))))))))))) ?_
 first | refine AtT.zk zB ?_ | with_reducible refine AtT.zm zB ?_ | refine AtT.zo zB ?_
 first | refine AtT.zn qH ?_ | refine AtT.zq qH ?_
 first | refine AtT.zW Tryz.underlying22 ?_ | refine AtT.zX Tryz.underlying22 ?_
 refine AtT.qA ?_
 refine AtT.qx (d:=26) rfl ((by omega)) ?_
 refine AtT.zf ?_
 all_goals (first | refine AtT.kL 27 ?_ | refine AtT.zF (d:=27) rfl (fun hg27=>?_) (fun hg27=>?_) | refine AtT.zD (d:=27) rfl (fun hg27=>?_) (fun hg27=>?_))
 all_goals first|refine AtT.zi ?_|refine AtT.ze ?_|(refine AtT.zf ?_)
 all_goals first|refine AtT.zi ?_|refine AtT.ze ?_|(first | refine AtT.zW Tryz.underlying25 ?_ | refine AtT.zX Tryz.underlying25 ?_)
 all_goals first|refine AtT.zi ?_|refine AtT.ze ?_|(refine AtT.qA ?_)
 all_goals (refine AtT.qx (d:=30) rfl ((by omega)) ?_)
 all_goals (refine AtT.zH ?_)
 all_goals (refine AtT.zf ?_)
 all_goals (first | refine AtT.kL 32 ?_ | refine AtT.zF (d:=32) rfl (fun hg32=>?_) (fun hg32=>?_) | refine AtT.zD (d:=32) rfl (fun hg32=>?_) (fun hg32=>?_))
 all_goals first|refine AtT.zi ?_|refine AtT.ze ?_|(first | refine AtT.zL qR ?_ | refine AtT.zS qR ?_ | refine AtT.zK qR ?_)
 all_goals first|refine AtT.jq ?_|refine AtT.qP ?_|((refine AtT.zR rfl rfl ok4 (C.rRib0_f m a f c hf _ hs) ?_);(rintro _ rfl))
 all_goals first|refine AtT.zi ?_|refine AtT.ze ?_|(refine AtT.jT ?_)
 all_goals (refine AtT.qx (d:=35) rfl ((by decide)) ?_)
 all_goals (refine AtT.zH ?_)
 all_goals (refine AtT.zf ?_)
 all_goals (first | refine AtT.kL 37 ?_ | refine AtT.zF (d:=37) rfl (fun hg37=>?_) (fun hg37=>?_) | refine AtT.zD (d:=37) rfl (fun hg37=>?_) (fun hg37=>?_))
 all_goals first|refine AtT.zi ?_|refine AtT.ze ?_|(refine AtT.zf ?_)
 all_goals first|refine AtT.jq ?_|refine AtT.qP ?_|((refine AtT.zR rfl rfl ok5 (C.rKin0_f ks hks _ _ hk) ?_);(rintro _ rfl))
 all_goals first|refine AtT.zi ?_|refine AtT.ze ?_|(refine AtT.jT ?_)
 all_goals (refine AtT.qx (d:=40) rfl ((by decide)) ?_)
 all_goals (refine AtT.zH ?_)
 all_goals refine AtT.done ?_
 all_goals (refine At.nrm ?_)
 refine At.qh rfl rfl ?_
 refine At.nrm ?_
 refine At.zh (.q 0 (.q 1 (.n false 2 (.q 3 (.q 4 (.q 5 (.q 6 (.q 7 .done)))))))) ?_
 first | refine AtT.zL qR ?_ | refine AtT.zS qR ?_ | refine AtT.zK qR ?_
 refine AtT.zf ?_
 refine AtT.jM rfl rfl ok7 (C.worth_f m a f c hf ks hks _ _ hs hk) ?_
 rintro _ V46 hV46 ⟨x,rfl,hx⟩
 refine AtT.zf ?_
 refine AtT.zV ?_
 refine AtT.zV ?_
 refine AtT.zg ?_
 refine AtT.zg ?_
 refine AtT.done ?_
 refine At.nrm ?_
 have hs3:=hs.le hV46
 have hk3:=hk.le hV46
 refine At.zh (.q 0 (.q 1 (.n false 2 (.q 3 (.q 4 (.q 5 (.q 6 (.q 7 .done)))))))) ?_
 first | refine AtT.zL qR ?_ | refine AtT.zS qR ?_ | refine AtT.zK qR ?_
 refine AtT.zf ?_
 refine AtT.jM rfl rfl ok8 (C.cuts_f m a f c hf ks hks _ _ hs3 hk3) ?_
 rintro _ V52 hV52 ⟨u,Q,e,p,rfl,hcs,hC,B,hB,hp⟩
 refine AtT.zf ?_
 refine AtT.zV ?_
 refine AtT.zV ?_
 refine AtT.zg ?_
 refine AtT.zg ?_
 refine AtT.done ?_
 refine At.nrm ?_
 have hxp:x=p:=by rw[hp]; exact hx B hB
 subst hxp
 have hCl:=hC.len fun k hk=>(hks.k k hk).1
 obtain⟨E,W,hCR,_,_⟩:=Cx.CtI.run hC
 obtain⟨au,cu,rfl,k1,k2,_⟩:=id hcs
 clear k1 k2
 have hlc:=hcs.qV
 have hs4:=hs3.le hV52
 have hk4:=hk3.le hV52
 refine At.zh (.q 0 (.q 1 (.q 2 (.q 3 (.q 4 (.q 5 (.q 6 (.q 7 (.q 8 (.q 9 (.q 10 (.q 11 (.q 12 .done))))))))))))) ?_
 refine AtT.zf ?_
 refine AtT.jT ?_
 refine AtT.qx (d:=56) rfl ((by decide)) ?_
 refine AtT.zf ?_
 all_goals (first | refine AtT.kL 57 ?_ | refine AtT.zF (d:=57) rfl (fun hg57=>?_) (fun hg57=>?_) | refine AtT.zD (d:=57) rfl (fun hg57=>?_) (fun hg57=>?_))
 all_goals first|refine AtT.zi ?_|refine AtT.ze ?_|(refine AtT.zf ?_)
 all_goals first|refine AtT.zi ?_|refine AtT.ze ?_|(refine AtT.jT ?_)
 all_goals (refine AtT.qx (d:=59) rfl ((by decide)) ?_)
 all_goals (refine AtT.zH ?_)
 all_goals (refine AtT.zf ?_)
 all_goals (first | refine AtT.kL 61 ?_ | refine AtT.zF (d:=61) rfl (fun hg61=>?_) (fun hg61=>?_) | refine AtT.zD (d:=61) rfl (fun hg61=>?_) (fun hg61=>?_))
 all_goals first|refine AtT.zi ?_|refine AtT.ze ?_|(refine AtT.zf ?_)
 all_goals first|refine AtT.zi ?_|refine AtT.ze ?_|(first | refine AtT.zW Tryz.underlying32 ?_ | refine AtT.zX Tryz.underlying32 ?_)
 all_goals first|refine AtT.zi ?_|refine AtT.ze ?_|(first | refine AtT.zk zI ?_ | with_reducible refine AtT.zm zI ?_ | refine AtT.zo zI ?_)
 all_goals first|refine AtT.zi ?_|refine AtT.ze ?_|(first | refine AtT.zn tk3 ?_ | refine AtT.zq tk3 ?_)
 all_goals first|refine AtT.zi ?_|refine AtT.ze ?_|(refine AtT.qA ?_)
 all_goals (refine AtT.qx (d:=66) rfl ((by omega)) ?_)
 all_goals (refine AtT.zH ?_)
 all_goals refine AtT.done ?_
 all_goals (refine At.nrm ?_)
 refine At.qh rfl rfl ?_
 refine At.nrm ?_
 refine At.zh (.q 0 (.q 1 (.q 2 (.n false 3 (.q 4 (.q 5 (.q 6 (.q 7 (.q 8 .done))))))))) ?_
 first | refine AtT.zL qR ?_ | refine AtT.zS qR ?_ | refine AtT.zK qR ?_
 refine AtT.zf ?_
 refine AtT.zf ?_
 refine AtT.jM rfl rfl ok9 (C.checkCuts_f m a f c hf ks hks Q E W hCR (by omega) _ _ _ hs4 hk4 hcs) ?_
 rintro _ V72 hV72 ⟨w,rfl⟩
 refine AtT.zf ?_
 refine AtT.zV ?_
 refine AtT.zV ?_
 refine AtT.zg ?_
 refine AtT.zg ?_
 refine AtT.done ?_
 refine At.nrm ?_
 have hs5:=hs4.le hV72
 have hk5:=hk4.le hV72
 have hcs5:=hcs.le hV72
 refine At.zh (.q 0 (.q 1 .done)) ?_
 refine AtT.zf ?_
 refine AtT.jT ?_
 refine AtT.done ?_
 refine At.nrm ?_
 refine At.qh rfl (by decide) ?_
 refine At.nrm ?_
 refine At.zh (.n false 0 .done) ?_
 refine AtT.qE z39 ?_
 intro b11
 refine AtT.done ?_
 refine At.nrm ?_
 refine At.zh (.q 0 (.q 1 (.n false 2 (.q 3 .done)))) ?_
 refine AtT.zf ?_
 first | refine AtT.zW Tryz.underlying25 ?_ | refine AtT.zX Tryz.underlying25 ?_
 refine AtT.makeSl rfl trivial ei rfl Tryz.underlying22 rw3 rfl rfl (by decide) rfl rfl (by omega) (by omega) (by decide) ?_ (za:=(0:Int))
 intro b79
 refine AtT.zg ?_
 refine AtT.done ?_
 refine At.nrm ?_
 refine At.zh (.q 0 .done) ?_
 refine AtT.zg ?_
 refine AtT.done ?_
 refine At.nrm ?_
 refine At.newRow 2 1 ?_
 refine At.newRow 2 1 ?_
 refine At.newRow 45 2 ?_
 rw[←dnL_nil ks.length]
 refine At.lp (ι:=LwG) (KS:=fun g=>[(1,.slice ak ks.length ck),(2,.pointer (some ⟨b2,0,none⟩)),(5,iv x),(7,.slice au Q.length cu),(11,.pointer (some ⟨b11,0,none⟩)),(12,.slice (some ⟨b79,0,none⟩) ks.length ks.length),(13,iv g.P.length)])
  (OS:=fun g=>[.blk b11 (LC [.slice g.a1 g.P.length g.c1,.slice g.a2 g.P.length g.c2,.slice g.a3 g.P.length g.c3] 39),.row (.slice g.a1 g.P.length g.c1) 2 1 g.P.length (flat ei (shS ks Q g.P).st),.row (.slice g.a2 g.P.length g.c2) 2 1 g.P.length (flat ei (shS ks Q g.P).pr),.row (.slice g.a3 g.P.length g.c3) 45 2 g.P.length (flat ode (shS ks Q g.P).os),.blk b79 (LC (flat ei (dnL ks.length g.P)) 3),.blk b2 (LC [iv m,.slice a f.length c] 24)])
  (VS:=fun g V'=>Le V72 V'∧SelI ks g.P∧∀ b∈g.P,prA ks b≤100∧xe Q b≤20) (μ:=fun g=>ks.length-g.P.length) ⟨[],none,0,none,0,none,0⟩ ?_ ?_ ?_ ?_
 ·exact⟨rfl,rfl,rfl,rfl,rfl,rfl,rfl,trivial⟩
 ·exact Pt.zC
 ·exact⟨Le.refl _,SelI.nil ks,fun b hb=>(by cases hb)⟩
 rintro⟨P,a1,c1,a2,c2,a3,c3⟩ V1 ks' O' ⟨hV1,hsel,hmost⟩ hk' hO hl
 dsimp only at hsel hmost hk' hO
 subst hk' hO
 have hPl:=hsel.len
 have hk1:=hk5.le hV1
 have hcs1:=hcs5.le hV1
 refine At.nrm ?_
 refine At.zh (.q 0 (.q 1 (.q 2 (.q 3 .done)))) ?_
 refine AtT.zf ?_
 refine AtT.zf ?_
 first | refine AtT.zW Tryz.underlying25 ?_ | refine AtT.zX Tryz.underlying25 ?_
 refine AtT.qd ?_
 refine AtT.done ?_
 refine At.nrm ?_
 refine At.qb rfl (fun hc=>?_) (fun hc=>?_)
 ·have hPn:P.length<ks.length:=by omega
  have hDl:=dnL_len ks.length P
  refine At.nrm ?_
  refine At.zh (.q 0 .done) ?_
  refine AtT.zg ?_
  refine AtT.done ?_
  refine At.nrm ?_
  refine At.zh (.q 0 .done) ?_
  refine AtT.zg ?_
  refine AtT.done ?_
  refine At.nrmB ?_
  refine At.cutG (ι:=Nat) (fun b=>[(1,.slice ak ks.length ck),(2,.pointer (some ⟨b2,0,none⟩)),(5,iv x),(7,.slice au Q.length cu),(11,.pointer (some ⟨b11,0,none⟩)),(12,.slice (some ⟨b79,0,none⟩) ks.length ks.length),(13,iv P.length),(14,iv b)])
   (fun _=>[.blk b11 (LC [.slice a1 P.length c1,.slice a2 P.length c2,.slice a3 P.length c3] 39),.row (.slice a1 P.length c1) 2 1 P.length (flat ei (shS ks Q P).st),.row (.slice a2 P.length c2) 2 1 P.length (flat ei (shS ks Q P).pr),.row (.slice a3 P.length c3) 45 2 P.length (flat ode (shS ks Q P).os),.blk b79 (LC (flat ei (dnL ks.length P)) 3),.blk b2 (LC [iv m,.slice a f.length c] 24)])
   (fun b V'=>V'=V1∧b<ks.length∧b∉P∧∀ y,y<ks.length→y∉P→prA ks y≤prA ks b) ?_ ?_
  ·refine At.nrm ?_
   refine At.lp (ι:=Nat×Int) (KS:=fun g=>[(1,.slice ak ks.length ck),(2,.pointer (some ⟨b2,0,none⟩)),(5,iv x),(7,.slice au Q.length cu),(11,.pointer (some ⟨b11,0,none⟩)),(12,.slice (some ⟨b79,0,none⟩) ks.length ks.length),(13,iv P.length),(14,iv g.2),(15,iv g.1)])
    (OS:=fun _=>[.blk b11 (LC [.slice a1 P.length c1,.slice a2 P.length c2,.slice a3 P.length c3] 39),.row (.slice a1 P.length c1) 2 1 P.length (flat ei (shS ks Q P).st),.row (.slice a2 P.length c2) 2 1 P.length (flat ei (shS ks Q P).pr),.row (.slice a3 P.length c3) 45 2 P.length (flat ode (shS ks Q P).os),.blk b79 (LC (flat ei (dnL ks.length P)) 3),.blk b2 (LC [iv m,.slice a f.length c] 24)])
    (VS:=fun g V'=>V'=V1∧g.1≤ks.length∧BsV ks P g.1 g.2) (μ:=fun g=>ks.length-g.1) (0, -1) ?_ ?_ ?_ ?_
   ·exact⟨rfl,rfl,rfl,rfl,rfl,rfl,rfl,rfl,rfl,trivial⟩
   ·exact Pt.zC
   ·exact⟨rfl,Nat.zero_le _,.inl ⟨rfl,fun y hy=>by omega⟩⟩
   rintro⟨q,v⟩ V2 ks' O' ⟨rfl,hq,hbs⟩ hk' hO hl2
   dsimp only at hq hbs hk' hO
   subst hk' hO
   refine At.nrm ?_
   refine At.zh (.q 0 (.q 1 (.q 2 (.q 3 .done)))) ?_
   refine AtT.zf ?_
   refine AtT.zf ?_
   first | refine AtT.zW Tryz.underlying25 ?_ | refine AtT.zX Tryz.underlying25 ?_
   refine AtT.qd ?_
   refine AtT.done ?_
   refine At.nrm ?_
   refine At.qb rfl (fun hc2=>?_) (fun hc2=>?_)
   rotate_left
   ·obtain rfl:q=ks.length:=by omega
    rcases hbs with ⟨_,hall⟩ | ⟨b,rfl,hb1,hb2,hb3⟩
    ·obtain⟨y,hy1,hy2⟩:=SelI.left hPn
     exact absurd (hall y hy1) hy2
    refine At.nrm ?_
    exact At.meetG b ⟨rfl,hb1,hb2,hb3⟩ ⟨rfl,rfl,rfl,rfl,rfl,rfl,rfl,rfl,trivial⟩ Pt.zC
   have hql:q<ks.length:=by omega
   obtain⟨kq,hkq⟩:∃ k,ks[q]? = some k:=⟨_,List.getElem?_eq_getElem hql⟩
   have hpq:=prA_at hkq
   have hat:(flat ei (dnL ks.length P))[q*1]? = some (iv (if q∈P then 1 else 0)):=by rw[Nat.mul_one,qw,List.getElem?_map,dnL_at hql]; rfl
   refine At.nrm ?_
   by_cases hm:q∈P
   ·rw[if_pos hm]at hat
    refine At.draw (.q 0 (.q 1 (.q 2 (.q 3 (.q 4 (.q 5 (.q 6 (.q 7 (.q 8 (.q 9 (.q 10 (.q 11 (.q 12 (.q 13 (.q 14 (.q 15 (.q 16 (.q 17 (.q 18 (.q 19 (.q 20 (.q 21 .done)))))))))))))))))))))) ffm (by kernel_rfl) ?_
    refine AtT.zf ?_
    refine AtT.zf ?_
    refine AtT.idxZ rfl trivial Tryz.underlying22 tk3 rfl rfl (by omega) (by decide) ?_
    refine AtT.jK rfl trivial rfl tk3 zM.zC hat (by decide) ?_
    refine AtT.keqI ?_
    refine AtT.qx (d:=96) rfl ((by decide)) ?_
    refine AtT.zf ?_
    all_goals (first | refine AtT.kL 97 ?_ | refine AtT.zF (d:=97) rfl (fun hg97=>?_) (fun hg97=>?_) | refine AtT.zD (d:=97) rfl (fun hg97=>?_) (fun hg97=>?_))
    all_goals first|refine AtT.zi ?_|refine AtT.ze ?_|(refine AtT.zf ?_)
    all_goals first|refine AtT.zi ?_|refine AtT.ze ?_|(refine AtT.qd ?_)
    all_goals first|refine AtT.zi ?_|refine AtT.ze ?_|(refine AtT.zf ?_)
    all_goals (first | refine AtT.kL 100 ?_ | refine AtT.zF (d:=100) rfl (fun hg100=>?_) (fun hg100=>?_) | refine AtT.zD (d:=100) rfl (fun hg100=>?_) (fun hg100=>?_))
    all_goals first|refine AtT.zi ?_|refine AtT.ze ?_|(refine AtT.zf ?_)
    all_goals first|refine AtT.zi ?_|refine AtT.ze ?_|(refine AtT.zf ?_)
    all_goals first|refine AtT.zi ?_|refine AtT.ze ?_|(refine AtT.qj Tryz.underlying25 kw ?_);(intro p103 e103 he103 hc103)
    all_goals first|refine AtT.zi ?_|refine AtT.ze ?_|(first | refine AtT.zk zA ?_ | with_reducible refine AtT.zm zA ?_ | refine AtT.zo zA ?_)
    all_goals first|refine AtT.zi ?_|refine AtT.ze ?_|(first | refine AtT.zn tk2 ?_ | refine AtT.zq tk2 ?_)
    all_goals first|refine AtT.zi ?_|refine AtT.ze ?_|(refine AtT.zf ?_)
    all_goals first|refine AtT.zi ?_|refine AtT.ze ?_|(refine AtT.zf ?_)
    all_goals first|refine AtT.zi ?_|refine AtT.ze ?_|(refine AtT.qj Tryz.underlying25 kw ?_);(intro p108 e108 he108 hc108)
    all_goals first|refine AtT.zi ?_|refine AtT.ze ?_|(first | refine AtT.zk zA ?_ | with_reducible refine AtT.zm zA ?_ | refine AtT.zo zA ?_)
    all_goals first|refine AtT.zi ?_|refine AtT.ze ?_|(first | refine AtT.zn tk2 ?_ | refine AtT.zq tk2 ?_)
    all_goals first|refine AtT.zi ?_|refine AtT.ze ?_|(refine AtT.qA ?_)
    all_goals first|refine AtT.zi ?_|refine AtT.ze ?_|(refine AtT.zH ?_)
    all_goals (refine AtT.zH ?_)
    all_goals refine AtT.done ?_
    all_goals (refine At.nrm ?_)
    refine At.qh rfl rfl ?_
    refine At.nrm ?_
    refine At.zh (.q 0 (.q 1 (.q 2 .done))) ?_
    refine AtT.zf ?_
    first | refine AtT.ql ?_ | refine AtT.zP ?_
    refine AtT.zg ?_
    refine AtT.done ?_
    refine At.nrm ?_
    refine At.round (q+1,v) ?_ ?_ ?_ ?_
    ·show ks.length-(q+1)<ks.length-q; omega
    ·refine⟨rfl,hql,?_⟩
     rcases hbs with ⟨h1,h2⟩ | ⟨b,h1,h2,h3,h4⟩
     ·exact .inl ⟨h1,fun y hy=>by rcases Nat.lt_or_ge y q with d | d; exact h2 y d; rw[show y=q by omega]; exact hm⟩
     ·exact .inr ⟨b,h1,by omega,h3,fun y hy hyP=>h4 y (by rcases Nat.lt_or_ge y q with d | d; exact d; exact absurd (by rw[show y=q by omega]; exact hm) hyP) hyP⟩
    ·exact⟨rfl,rfl,rfl,rfl,rfl,rfl,rfl,rfl,rfl,trivial⟩
    ·exact Pt.zC
   rw[if_neg hm]at hat
   rcases hbs with ⟨rfl,h2⟩ | ⟨b,rfl,h2,h3,h4⟩
   ·refine At.draw (.q 0 (.q 1 (.q 2 (.q 3 (.q 4 (.q 5 (.q 6 (.q 7 (.q 8 (.q 9 (.q 10 (.q 11 (.q 12 (.q 13 (.q 14 (.q 15 (.q 16 (.q 17 (.q 18 (.q 19 (.q 20 (.q 21 .done)))))))))))))))))))))) ffm (by kernel_rfl) ?_
    refine AtT.zf ?_
    refine AtT.zf ?_
    refine AtT.idxZ rfl trivial Tryz.underlying22 tk3 rfl rfl (by omega) (by decide) ?_
    refine AtT.jK rfl trivial rfl tk3 zM.zC hat (by decide) ?_
    refine AtT.keqI ?_
    refine AtT.kR (d:=96) rfl ((by decide)) ?_
    refine AtT.zf ?_
    all_goals (first | refine AtT.kL 97 ?_ | refine AtT.zF (d:=97) rfl (fun hg97=>?_) (fun hg97=>?_) | refine AtT.zD (d:=97) rfl (fun hg97=>?_) (fun hg97=>?_))
    all_goals first|refine AtT.zi ?_|refine AtT.ze ?_|(refine AtT.zf ?_)
    all_goals first|refine AtT.zi ?_|refine AtT.ze ?_|(refine AtT.qd ?_)
    all_goals (refine AtT.kR (d:=99) rfl ((by decide)) ?_)
    all_goals first|refine AtT.zi ?_|refine AtT.ze ?_|(refine AtT.zf ?_)
    all_goals (first | refine AtT.kL 100 ?_ | refine AtT.zF (d:=100) rfl (fun hg100=>?_) (fun hg100=>?_) | refine AtT.zD (d:=100) rfl (fun hg100=>?_) (fun hg100=>?_))
    all_goals first|refine AtT.zi ?_|refine AtT.ze ?_|(refine AtT.zf ?_)
    all_goals first|refine AtT.zi ?_|refine AtT.ze ?_|(refine AtT.zf ?_)
    all_goals first|refine AtT.zi ?_|refine AtT.ze ?_|(refine AtT.qj Tryz.underlying25 kw ?_);(intro p103 e103 he103 hc103)
    all_goals first|refine AtT.zi ?_|refine AtT.ze ?_|(first | refine AtT.zk zA ?_ | with_reducible refine AtT.zm zA ?_ | refine AtT.zo zA ?_)
    all_goals first|refine AtT.zi ?_|refine AtT.ze ?_|(first | refine AtT.zn tk2 ?_ | refine AtT.zq tk2 ?_)
    all_goals first|refine AtT.zi ?_|refine AtT.ze ?_|(refine AtT.zf ?_)
    all_goals first|refine AtT.zi ?_|refine AtT.ze ?_|(refine AtT.zf ?_)
    all_goals first|refine AtT.zi ?_|refine AtT.ze ?_|(refine AtT.qj Tryz.underlying25 kw ?_);(intro p108 e108 he108 hc108)
    all_goals first|refine AtT.zi ?_|refine AtT.ze ?_|(first | refine AtT.zk zA ?_ | with_reducible refine AtT.zm zA ?_ | refine AtT.zo zA ?_)
    all_goals first|refine AtT.zi ?_|refine AtT.ze ?_|(first | refine AtT.zn tk2 ?_ | refine AtT.zq tk2 ?_)
    all_goals first|refine AtT.zi ?_|refine AtT.ze ?_|(refine AtT.qA ?_)
    all_goals first|refine AtT.zi ?_|refine AtT.ze ?_|(refine AtT.zH ?_)
    all_goals (refine AtT.zH ?_)
    all_goals refine AtT.done ?_
    all_goals (refine At.nrm ?_)
    refine At.jo rfl rfl ?_
    refine At.nrm ?_
    refine At.zh (.q 0 (.q 1 .done)) ?_
    refine AtT.zf ?_
    refine AtT.zg ?_
    refine AtT.done ?_
    refine At.nrm ?_
    refine At.nrm ?_
    refine At.zh (.q 0 (.q 1 (.q 2 .done))) ?_
    refine AtT.zf ?_
    first | refine AtT.ql ?_ | refine AtT.zP ?_
    refine AtT.zg ?_
    refine AtT.done ?_
    refine At.nrm ?_
    refine At.round (q+1,(q:Int)) ?_ ?_ ?_ ?_
    ·show ks.length-(q+1)<ks.length-q; omega
    ·exact⟨rfl,hql,.inr ⟨q,rfl,Nat.lt_succ_self _,hm,fun y hy hyP=>by rcases Nat.lt_or_ge y q with d | d; exact absurd (h2 y d) hyP; rw[show y=q by omega]; exact Int.le_refl _⟩⟩
    ·exact⟨rfl,rfl,rfl,rfl,rfl,rfl,rfl,rfl,rfl,trivial⟩
    ·exact Pt.zC
   ·obtain⟨kb,hkb⟩:∃ k,ks[b]? = some k:=⟨_,List.getElem?_eq_getElem (by omega)⟩
    have hpb:=prA_at hkb
    refine At.draw (.q 0 (.q 1 (.q 2 (.q 3 (.q 4 (.q 5 (.q 6 (.q 7 (.q 8 (.q 9 (.q 10 (.q 11 (.q 12 (.q 13 (.q 14 (.q 15 (.q 16 (.q 17 (.q 18 (.q 19 (.q 20 (.q 21 .done)))))))))))))))))))))) ffm (by kernel_rfl) ?_
    refine AtT.zf ?_
    refine AtT.zf ?_
    refine AtT.idxZ rfl trivial Tryz.underlying22 tk3 rfl rfl (by omega) (by decide) ?_
    refine AtT.jK rfl trivial rfl tk3 zM.zC hat (by decide) ?_
    refine AtT.keqI ?_
    refine AtT.kR (d:=96) rfl ((by decide)) ?_
    refine AtT.zf ?_
    all_goals (first | refine AtT.kL 97 ?_ | refine AtT.zF (d:=97) rfl (fun hg97=>?_) (fun hg97=>?_) | refine AtT.zD (d:=97) rfl (fun hg97=>?_) (fun hg97=>?_))
    all_goals first|refine AtT.zi ?_|refine AtT.ze ?_|(refine AtT.zf ?_)
    all_goals first|refine AtT.zi ?_|refine AtT.ze ?_|(refine AtT.qd ?_)
    all_goals (refine AtT.qx (d:=99) rfl ((by omega)) ?_)
    all_goals first|refine AtT.zi ?_|refine AtT.ze ?_|(refine AtT.zf ?_)
    all_goals (first | refine AtT.kL 100 ?_ | refine AtT.zF (d:=100) rfl (fun hg100=>?_) (fun hg100=>?_) | refine AtT.zD (d:=100) rfl (fun hg100=>?_) (fun hg100=>?_))
    all_goals first|refine AtT.zi ?_|refine AtT.ze ?_|(refine AtT.zf ?_)
    all_goals first|refine AtT.zi ?_|refine AtT.ze ?_|(refine AtT.zf ?_)
    all_goals first|refine AtT.zi ?_|refine AtT.ze ?_|(refine AtT.qj Tryz.underlying25 kw ?_);(intro p103 e103 he103 hc103)
    all_goals (obtain rfl:kq=e103:=by have:ks[q]? = some e103:=(by simpa using he103); rw[hkq]at this; simpa using this)
    all_goals first|refine AtT.zi ?_|refine AtT.ze ?_|(first | refine AtT.zk zA ?_ | with_reducible refine AtT.zm zA ?_ | refine AtT.zo zA ?_)
    all_goals first|refine AtT.zi ?_|refine AtT.ze ?_|(first | refine AtT.zn tk2 ?_ | refine AtT.zq tk2 ?_)
    all_goals first|refine AtT.zi ?_|refine AtT.ze ?_|(refine AtT.zf ?_)
    all_goals first|refine AtT.zi ?_|refine AtT.ze ?_|(refine AtT.zf ?_)
    all_goals first|refine AtT.zi ?_|refine AtT.ze ?_|(refine AtT.qj Tryz.underlying25 kw ?_);(intro p108 e108 he108 hc108)
    all_goals (obtain rfl:kb=e108:=by have:ks[b]? = some e108:=(by simpa using he108); rw[hkb]at this; simpa using this)
    all_goals first|refine AtT.zi ?_|refine AtT.ze ?_|(first | refine AtT.zk zA ?_ | with_reducible refine AtT.zm zA ?_ | refine AtT.zo zA ?_)
    all_goals first|refine AtT.zi ?_|refine AtT.ze ?_|(first | refine AtT.zn tk2 ?_ | refine AtT.zq tk2 ?_)
    all_goals first|refine AtT.zi ?_|refine AtT.ze ?_|(refine AtT.qA ?_)
    all_goals first|refine AtT.zi ?_|refine AtT.ze ?_|(refine AtT.zH ?_)
    all_goals (refine AtT.zH ?_)
    all_goals refine AtT.done ?_
    all_goals (refine At.nrm ?_)
    refine At.qb rfl (fun hgt=>?_) (fun hgt=>?_)
    ·refine At.nrm ?_
     refine At.zh (.q 0 (.q 1 .done)) ?_
     refine AtT.zf ?_
     refine AtT.zg ?_
     refine AtT.done ?_
     refine At.nrm ?_
     refine At.nrm ?_
     refine At.zh (.q 0 (.q 1 (.q 2 .done))) ?_
     refine AtT.zf ?_
     first | refine AtT.ql ?_ | refine AtT.zP ?_
     refine AtT.zg ?_
     refine AtT.done ?_
     refine At.nrm ?_
     refine At.round (q+1,(q:Int)) ?_ ?_ ?_ ?_
     ·show ks.length-(q+1)<ks.length-q; omega
     ·exact⟨rfl,hql,.inr ⟨q,rfl,Nat.lt_succ_self _,hm,fun y hy hyP=>by rcases Nat.lt_or_ge y q with d | d; (have:=h4 y d hyP; omega); rw[show y=q by omega]; exact Int.le_refl _⟩⟩
     ·exact⟨rfl,rfl,rfl,rfl,rfl,rfl,rfl,rfl,rfl,trivial⟩
     ·exact Pt.zC
    ·refine At.nrm ?_
     refine At.zh (.q 0 (.q 1 (.q 2 .done))) ?_
     refine AtT.zf ?_
     first | refine AtT.ql ?_ | refine AtT.zP ?_
     refine AtT.zg ?_
     refine AtT.done ?_
     refine At.nrm ?_
     refine At.round (q+1,(b:Int)) ?_ ?_ ?_ ?_
     ·show ks.length-(q+1)<ks.length-q; omega
     ·exact⟨rfl,hql,.inr ⟨b,rfl,by omega,h3,fun y hy hyP=>by rcases Nat.lt_or_ge y q with d | d; exact h4 y d hyP; rw[show y=q by omega]; omega⟩⟩
     ·exact⟨rfl,rfl,rfl,rfl,rfl,rfl,rfl,rfl,rfl,trivial⟩
     ·exact Pt.zC
  rintro b V2 ks' O' ⟨hVe,hb1,hb2,hb3⟩ hk' hO hl2
  obtain rfl:=hVe.symm
  subst hk' hO
  obtain⟨kb,hkb⟩:∃ k,ks[b]? = some k:=⟨_,List.getElem?_eq_getElem hb1⟩
  have hpb:=prA_at hkb
  have hset:SetAt (flat ei (dnL ks.length P)) (b*1) (iv 1) (flat ei (dnL ks.length (P++[b]))):=by
   refine setAt_of (by rw[zJ Lw.zZ,dnL_len]; omega) ?_
   rw[Nat.mul_one,qw,qw,←dnL_set hb1,List.map_set]
  have hcb:=cntK_bd Q b
  refine At.nrm ?_
  refine At.zh (.q 0 (.q 1 (.q 2 (.n true 3 .done)))) ?_
  refine AtT.zf ?_
  refine AtT.zf ?_
  refine AtT.idxZ rfl trivial Tryz.underlying22 tk3 rfl rfl (by omega) (by decide) ?_
  refine AtT.store1 rfl trivial rfl rfl tk3 rfl rfl (by repeat first|exact Upd.here|apply Upd.there) hset ?_
  refine AtT.done ?_
  refine At.nrm ?_
  refine At.zh (.q 0 .done) ?_
  refine AtT.zg ?_
  refine AtT.done ?_
  refine At.nrm ?_
  refine At.zh (.q 0 .done) ?_
  refine AtT.zg ?_
  refine AtT.done ?_
  refine At.nrmB ?_
  refine At.cutG (ι:=Unit) (fun _=>[(1,.slice ak ks.length ck),(2,.pointer (some ⟨b2,0,none⟩)),(5,iv x),(7,.slice au Q.length cu),(11,.pointer (some ⟨b11,0,none⟩)),(12,.slice (some ⟨b79,0,none⟩) ks.length ks.length),(13,iv P.length),(14,iv b),(16,iv (xe Q b))])
   (fun _=>[.blk b11 (LC [.slice a1 P.length c1,.slice a2 P.length c2,.slice a3 P.length c3] 39),.row (.slice a1 P.length c1) 2 1 P.length (flat ei (shS ks Q P).st),.row (.slice a2 P.length c2) 2 1 P.length (flat ei (shS ks Q P).pr),.row (.slice a3 P.length c3) 45 2 P.length (flat ode (shS ks Q P).os),.blk b79 (LC (flat ei (dnL ks.length (P++[b]))) 3),.blk b2 (LC [iv m,.slice a f.length c] 24)])
   (fun _ V'=>V'=V1) ?_ ?_
  ·refine At.nrm ?_
   refine At.lp (ι:=Nat) (KS:=fun t=>[(1,.slice ak ks.length ck),(2,.pointer (some ⟨b2,0,none⟩)),(5,iv x),(7,.slice au Q.length cu),(11,.pointer (some ⟨b11,0,none⟩)),(12,.slice (some ⟨b79,0,none⟩) ks.length ks.length),(13,iv P.length),(14,iv b),(16,iv (xe (Q.take t) b)),(17,iv t)])
    (OS:=fun _=>[.blk b11 (LC [.slice a1 P.length c1,.slice a2 P.length c2,.slice a3 P.length c3] 39),.row (.slice a1 P.length c1) 2 1 P.length (flat ei (shS ks Q P).st),.row (.slice a2 P.length c2) 2 1 P.length (flat ei (shS ks Q P).pr),.row (.slice a3 P.length c3) 45 2 P.length (flat ode (shS ks Q P).os),.blk b79 (LC (flat ei (dnL ks.length (P++[b]))) 3),.blk b2 (LC [iv m,.slice a f.length c] 24)])
    (VS:=fun t V'=>V'=V1∧t≤Q.length) (μ:=fun t=>Q.length-t) 0 ?_ ?_ ?_ ?_
   ·exact⟨rfl,rfl,rfl,rfl,rfl,rfl,rfl,rfl,rfl,rfl,trivial⟩
   ·exact Pt.zC
   ·exact⟨rfl,Nat.zero_le _⟩
   rintro t V2 ks' O' ⟨rfl,ht⟩ hk' hO hl3
   subst hk' hO
   refine At.nrm ?_
   refine At.zh (.q 0 (.q 1 (.q 2 (.q 3 .done)))) ?_
   refine AtT.zf ?_
   refine AtT.zf ?_
   first | refine AtT.zW Tryz.underlying32 ?_ | refine AtT.zX Tryz.underlying32 ?_
   refine AtT.qd ?_
   refine AtT.done ?_
   refine At.nrm ?_
   refine At.qb rfl (fun hc2=>?_) (fun hc2=>?_)
   rotate_left
   ·obtain rfl:t=Q.length:=by omega
    rw[List.take_length]
    refine At.nrm ?_
    exact At.meetG () rfl ⟨rfl,rfl,rfl,rfl,rfl,rfl,rfl,rfl,rfl,trivial⟩ Pt.zC
   have htl:t<Q.length:=by omega
   obtain⟨ct,hct⟩:∃ ct,Q[t]? = some ct:=⟨_,List.getElem?_eq_getElem htl⟩
   have hsn:=cntK_snoc (Q.take t) ct b
   rw[←ctOf hct]at hsn
   have hbt:=cntK_bd (Q.take t) b
   rw[List.length_take]at hbt
   refine At.nrm ?_
   refine At.zh (.q 0 (.q 1 (.q 2 (.q 3 (.q 4 (.q 5 (.q 6 .done))))))) ?_
   refine AtT.zf ?_
   refine AtT.zf ?_
   refine AtT.qj Tryz.underlying32 qY ?_
   intro p126 e126 he126 hc126
   obtain rfl:ct=e126:=by have:Q[t]? = some e126:=(by simpa using he126); rw[hct]at this; simpa using this
   first | refine AtT.zk qm ?_ | with_reducible refine AtT.zm qm ?_ | refine AtT.zo qm ?_
   first | refine AtT.zn tk3 ?_ | refine AtT.zq tk3 ?_
   refine AtT.zf ?_
   refine AtT.keqI ?_
   refine AtT.done ?_
   refine At.nrm ?_
   refine At.qb rfl (fun hq=>?_) (fun hq=>?_)
   ·rw[if_pos hq]at hsn
    refine At.nrm ?_
    refine At.zh (.q 0 (.q 1 (.q 2 .done))) ?_
    refine AtT.zf ?_
    first | refine AtT.ql ?_ | refine AtT.zP ?_
    refine AtT.zg ?_
    refine AtT.done ?_
    refine At.nrm ?_
    refine At.nrm ?_
    refine At.zh (.q 0 (.q 1 (.q 2 .done))) ?_
    refine AtT.zf ?_
    first | refine AtT.ql ?_ | refine AtT.zP ?_
    refine AtT.zg ?_
    refine AtT.done ?_
    refine At.nrm ?_
    refine At.round (t+1) ?_ ?_ ?_ ?_
    ·show Q.length-(t+1)<Q.length-t; omega
    ·exact⟨rfl,htl⟩
    ·exact⟨rfl,rfl,rfl,rfl,rfl,rfl,rfl,rfl,ivs (by rw[hsn]),rfl,trivial⟩
    ·exact Pt.zC
   ·rw[if_neg hq,Int.add_zero]at hsn
    refine At.nrm ?_
    refine At.zh (.q 0 (.q 1 (.q 2 .done))) ?_
    refine AtT.zf ?_
    first | refine AtT.ql ?_ | refine AtT.zP ?_
    refine AtT.zg ?_
    refine AtT.done ?_
    refine At.nrm ?_
    refine At.round (t+1) ?_ ?_ ?_ ?_
    ·show Q.length-(t+1)<Q.length-t; omega
    ·exact⟨rfl,htl⟩
    ·exact⟨rfl,rfl,rfl,rfl,rfl,rfl,rfl,rfl,ivs (by rw[hsn]),rfl,trivial⟩
    ·exact Pt.zC
  rintro _ V2 ks' O' hVe hk' hO hl2
  obtain rfl:=hVe.symm
  subst hk' hO
  refine At.nrm ?_
  by_cases e1:100<kb.p
  ·refine At.zh (.q 0 (.q 1 (.q 2 (.q 3 (.q 4 (.q 5 (.q 6 (.q 7 (.q 8 (.q 9 .done)))))))))) ?_
   refine AtT.zf ?_
   refine AtT.zf ?_
   refine AtT.qj Tryz.underlying25 kw ?_
   intro p135 e135 he135 hc135
   obtain rfl:kb=e135:=by have:ks[b]? = some e135:=(by simpa using he135); rw[hkb]at this; simpa using this
   first | refine AtT.zk zA ?_ | with_reducible refine AtT.zm zA ?_ | refine AtT.zo zA ?_
   first | refine AtT.zn tk2 ?_ | refine AtT.zq tk2 ?_
   refine AtT.qA ?_
   refine AtT.kR (d:=138) rfl ((by omega)) ?_
   refine AtT.zf ?_
   all_goals (first | refine AtT.kL 139 ?_ | refine AtT.zF (d:=139) rfl (fun hg139=>?_) (fun hg139=>?_) | refine AtT.zD (d:=139) rfl (fun hg139=>?_) (fun hg139=>?_))
   all_goals first|refine AtT.zi ?_|refine AtT.ze ?_|(refine AtT.zf ?_)
   all_goals first|refine AtT.zi ?_|refine AtT.ze ?_|(refine AtT.qA ?_)
   all_goals (refine AtT.zH ?_)
   all_goals refine AtT.done ?_
   all_goals (refine At.nrm ?_)
   refine At.jo rfl rfl ?_
   refine At.nrm ?_
   refine At.zh (.n false 0 (.q 1 .done)) ?_
   refine AtT.zR rfl rfl ok6 (Go.Ev.works_f _) ?_
   rintro _ rfl
   refine AtT.zg ?_
   refine AtT.done ?_
   refine At.nrm ?_
   exact At.qf rfl (.tmp rfl) rfl
  by_cases e2:20<xe Q b
  ·refine At.zh (.q 0 (.q 1 (.q 2 (.q 3 (.q 4 (.q 5 (.q 6 (.q 7 (.q 8 (.q 9 .done)))))))))) ?_
   refine AtT.zf ?_
   refine AtT.zf ?_
   refine AtT.qj Tryz.underlying25 kw ?_
   intro p135 e135 he135 hc135
   obtain rfl:kb=e135:=by have:ks[b]? = some e135:=(by simpa using he135); rw[hkb]at this; simpa using this
   first | refine AtT.zk zA ?_ | with_reducible refine AtT.zm zA ?_ | refine AtT.zo zA ?_
   first | refine AtT.zn tk2 ?_ | refine AtT.zq tk2 ?_
   refine AtT.qA ?_
   refine AtT.qx (d:=138) rfl ((by omega)) ?_
   refine AtT.zf ?_
   all_goals (first | refine AtT.kL 139 ?_ | refine AtT.zF (d:=139) rfl (fun hg139=>?_) (fun hg139=>?_) | refine AtT.zD (d:=139) rfl (fun hg139=>?_) (fun hg139=>?_))
   all_goals first|refine AtT.zi ?_|refine AtT.ze ?_|(refine AtT.zf ?_)
   all_goals first|refine AtT.zi ?_|refine AtT.ze ?_|(refine AtT.qA ?_)
   all_goals (refine AtT.kR (d:=141) rfl ((by omega)) ?_)
   all_goals (refine AtT.zH ?_)
   all_goals refine AtT.done ?_
   all_goals (refine At.nrm ?_)
   refine At.jo rfl rfl ?_
   refine At.nrm ?_
   refine At.zh (.n false 0 (.q 1 .done)) ?_
   refine AtT.zR rfl rfl ok6 (Go.Ev.works_f _) ?_
   rintro _ rfl
   refine AtT.zg ?_
   refine AtT.done ?_
   refine At.nrm ?_
   exact At.qf rfl (.tmp rfl) rfl
  refine At.zh (.q 0 (.q 1 (.q 2 (.q 3 (.q 4 (.q 5 (.q 6 (.q 7 (.q 8 (.q 9 .done)))))))))) ?_
  refine AtT.zf ?_
  refine AtT.zf ?_
  refine AtT.qj Tryz.underlying25 kw ?_
  intro p135 e135 he135 hc135
  obtain rfl:kb=e135:=by have:ks[b]? = some e135:=(by simpa using he135); rw[hkb]at this; simpa using this
  first | refine AtT.zk zA ?_ | with_reducible refine AtT.zm zA ?_ | refine AtT.zo zA ?_
  first | refine AtT.zn tk2 ?_ | refine AtT.zq tk2 ?_
  refine AtT.qA ?_
  refine AtT.qx (d:=138) rfl ((by omega)) ?_
  refine AtT.zf ?_
  all_goals (first | refine AtT.kL 139 ?_ | refine AtT.zF (d:=139) rfl (fun hg139=>?_) (fun hg139=>?_) | refine AtT.zD (d:=139) rfl (fun hg139=>?_) (fun hg139=>?_))
  all_goals first|refine AtT.zi ?_|refine AtT.ze ?_|(refine AtT.zf ?_)
  all_goals first|refine AtT.zi ?_|refine AtT.ze ?_|(refine AtT.qA ?_)
  all_goals (refine AtT.qx (d:=141) rfl ((by omega)) ?_)
  all_goals (refine AtT.zH ?_)
  all_goals refine AtT.done ?_
  all_goals (refine At.nrm ?_)
  refine At.qh rfl rfl ?_
  refine At.nrm ?_
  have hsn:=shS_snoc ks Q P b
  refine At.cutG (ι:=(Option Addr×Nat)×(Option Addr×Nat)) (fun _=>[(1,.slice ak ks.length ck),(2,.pointer (some ⟨b2,0,none⟩)),(5,iv x),(7,.slice au Q.length cu),(11,.pointer (some ⟨b11,0,none⟩)),(12,.slice (some ⟨b79,0,none⟩) ks.length ks.length),(13,iv P.length),(14,iv b),(16,iv (xe Q b))])
   (fun g=>[.blk b11 (LC [.slice g.1.1 (P.length+1) g.1.2,.slice g.2.1 (P.length+1) g.2.2,.slice a3 P.length c3] 39),.row (.slice g.1.1 (P.length+1) g.1.2) 2 1 (P.length+1) (flat ei (shS ks Q (P++[b])).st),.row (.slice g.2.1 (P.length+1) g.2.2) 2 1 (P.length+1) (flat ei (shS ks Q (P++[b])).pr),.row (.slice a3 P.length c3) 45 2 P.length (flat ode (shS ks Q P).os),.blk b79 (LC (flat ei (dnL ks.length (P++[b]))) 3),.blk b2 (LC [iv m,.slice a f.length c] 24)])
   (fun _ V'=>Le V1 V') ?_ ?_
  ·rw[hsn.1,hsn.2.1,hpb,qy,qy]
   refine At.drawC [.blk b11 (LC [.slice a1 P.length c1,.slice a2 P.length c2,.slice a3 P.length c3] 39)] (.q 0 (.q 1 (.q 2 (.q 5 (.q 6 (.q 7 (.q 8 (.q 9 (.q 10 (.q 11 (.two 3 (.two 4 (.q 14 (.n false 12 (.n false 13 (.n true 15 (.q 16 (.n true 17 .done)))))) 12 (.n false 4 (.q 14 (.n false 13 (.n true 15 (.q 16 (.n true 17 .done))))))) 12 (.n false 3 (.n false 4 (.q 14 (.n false 13 (.n true 15 (.q 16 (.n true 17 .done)))))))))))))))))) ffm (by kernel_rfl) Pt.zC ?_
   refine AtC.pre (fun hle0=>?_)
   refine AtC.kq (by(first | refine AtT.zk qo ?_ | with_reducible refine AtT.zm qo ?_ | refine AtT.zo qo ?_); exact At.knows) ?_
   refine AtC.kq (by(first | refine AtT.zn jk ?_ | refine AtT.zq jk ?_); exact At.knows) ?_
   refine AtC.kq (by(refine AtT.zf ?_); exact At.knows) ?_
   refine AtC.kq (by(first | refine AtT.zk qG ?_ | with_reducible refine AtT.zm qG ?_ | refine AtT.zo qG ?_); exact At.knows) ?_
   refine AtC.kq (by(first | refine AtT.zn jk ?_ | refine AtT.zq jk ?_); exact At.knows) ?_
   refine AtC.kq (by(refine AtT.zf ?_); exact At.knows) ?_
   refine AtC.kq (by(refine AtT.zf ?_); exact At.knows) ?_
   refine AtC.qj Tryz.underlying25 kw ?_
   intro p153 e153 he153 hc153
   obtain rfl:kb=e153:=by have:ks[b]? = some e153:=(by simpa using he153); rw[hkb]at this; simpa using this
   refine AtC.kq (by(first | refine AtT.zk zA ?_ | with_reducible refine AtT.zm zA ?_ | refine AtT.zo zA ?_); exact At.knows) ?_
   refine AtC.kq (by(first | refine AtT.zn tk2 ?_ | refine AtT.zq tk2 ?_); exact At.knows) ?_
   refine AtC.two ?_ ?_
   focus
    refine AtC.nz ?_
    refine AtT.qz (jZ _) ?_
    intro q147 V147 hV147 hq147
    have g147:Le V V147:=by first | exact hV147 | exact Le.trans (by assumption) hV147
    refine AtC.kgo ?_
    refine AtC.two ?_ ?_
    focus
     refine AtC.nz ?_
     first | refine AtT.kappend Tryz.underlying36 rw2 ?_
     intro a148 c148
     refine AtC.kgo ?_
     refine AtC.kq (by(first | refine AtT.zk qo ?_ | with_reducible refine AtT.zm qo ?_ | refine AtT.zo qo ?_); exact At.knows) ?_
     refine AtC.nz ?_
     refine AtT.qz (jZ _) ?_
     intro q156 V156 hV156 hq156
     have g156:Le V V156:=by first | exact hV156 | exact Le.trans (by assumption) hV156
     refine AtC.kgo ?_
     refine AtC.nz ?_
     first | refine AtT.kappend Tryz.underlying36 rw2 ?_
     intro a157 c157
     refine AtC.kgo ?_
     refine AtC.toT ?_
     first | refine AtT.qX jk ?_ | refine AtT.zU jk ?_
     first | refine AtT.zk qG ?_ | with_reducible refine AtT.zm qG ?_ | refine AtT.zo qG ?_
     first | refine AtT.qX jk ?_ | refine AtT.zU jk ?_
     refine AtT.done ?_
    rotate_right
    focus
     refine AtC.nz ?_
     refine AtT.qz (jZ _) ?_
     intro q156 V156 hV156 hq156
     have g156:Le V V156:=by first | exact hV156 | exact Le.trans (by assumption) hV156
     refine AtC.kgo ?_
     refine AtC.nz ?_
     first | refine AtT.kappend Tryz.underlying36 rw2 ?_
     intro a148 c148
     refine AtC.kgo ?_
     refine AtC.kq (by(first | refine AtT.zk qo ?_ | with_reducible refine AtT.zm qo ?_ | refine AtT.zo qo ?_); exact At.knows) ?_
     refine AtC.nz ?_
     first | refine AtT.kappend Tryz.underlying36 rw2 ?_
     intro a157 c157
     refine AtC.kgo ?_
     refine AtC.toT ?_
     first | refine AtT.qX jk ?_ | refine AtT.zU jk ?_
     first | refine AtT.zk qG ?_ | with_reducible refine AtT.zm qG ?_ | refine AtT.zo qG ?_
     first | refine AtT.qX jk ?_ | refine AtT.zU jk ?_
     refine AtT.done ?_
   rotate_right
   focus
    refine AtC.nz ?_
    refine AtT.qz (jZ _) ?_
    intro q156 V156 hV156 hq156
    have g156:Le V V156:=by first | exact hV156 | exact Le.trans (by assumption) hV156
    refine AtC.kgo ?_
    refine AtC.nz ?_
    refine AtT.qz (jZ _) ?_
    intro q147 V147 hV147 hq147
    have g147:Le V V147:=by first | exact hV147 | exact Le.trans (by assumption) hV147
    refine AtC.kgo ?_
    refine AtC.nz ?_
    first | refine AtT.kappend Tryz.underlying36 rw2 ?_
    intro a148 c148
    refine AtC.kgo ?_
    refine AtC.kq (by(first | refine AtT.zk qo ?_ | with_reducible refine AtT.zm qo ?_ | refine AtT.zo qo ?_); exact At.knows) ?_
    refine AtC.nz ?_
    first | refine AtT.kappend Tryz.underlying36 rw2 ?_
    intro a157 c157
    refine AtC.kgo ?_
    refine AtC.toT ?_
    first | refine AtT.qX jk ?_ | refine AtT.zU jk ?_
    first | refine AtT.zk qG ?_ | with_reducible refine AtT.zm qG ?_ | refine AtT.zo qG ?_
    first | refine AtT.qX jk ?_ | refine AtT.zU jk ?_
    refine AtT.done ?_
   all_goals (refine At.nrm ?_)
   all_goals (exact At.meetG ((a148,c148),(a157,c157)) (by first | exact Le.refl _ | assumption | exact Le.trans (by assumption) (by assumption)) ⟨rfl,rfl,rfl,rfl,rfl,rfl,rfl,rfl,rfl,trivial⟩ Pt.zC)
  rintro⟨⟨a148,c148⟩,⟨a157,c157⟩⟩ V3 ks' O' hV3 hk' hO hl3
  dsimp only at hk' hO
  subst hk' hO
  refine At.nrm ?_
  refine At.zh (.q 0 (.q 1 (.q 2 (.q 3 (.q 4 (.n false 5 (.n true 6 (.q 7 (.n true 8 .done))))))))) ?_
  first | refine AtT.zk qF ?_ | with_reducible refine AtT.zm qF ?_ | refine AtT.zo qF ?_
  first | refine AtT.zn tk37 ?_ | refine AtT.zq tk37 ?_
  refine AtT.zf ?_
  refine AtT.zf ?_
  refine AtT.kbuild (bd45_0_1 _ _) ?_
  refine AtT.qz (bs37_1_0 _ _) ?_
  intro q165 V165 hV165 hq165
  have g165:Le V V165:=by first | exact hV165 | exact Le.trans (by assumption) hV165
  first | refine AtT.kappend Tryz.underlying37 rw45 ?_
  intro a166 c166
  first | refine AtT.zk qF ?_ | with_reducible refine AtT.zm qF ?_ | refine AtT.zo qF ?_
  first | refine AtT.qX tk37 ?_ | refine AtT.zU tk37 ?_
  refine AtT.done ?_
  refine At.nrm ?_
  refine At.nrm ?_
  refine At.zh (.q 0 (.q 1 (.q 2 .done))) ?_
  refine AtT.zf ?_
  first | refine AtT.ql ?_ | refine AtT.zP ?_
  refine AtT.zg ?_
  refine AtT.done ?_
  refine At.nrm ?_
  have hlen1:(P++[b]).length=P.length+1:=by rw[List.length_append]; rfl
  refine At.round ⟨P++[b],a148,c148,a157,c157,a166,c166⟩ ?_ ?_ ?_ ?_
  ·show ks.length-(P++[b]).length<ks.length-P.length
   omega
  ·refine⟨(hV1.trans hV3).trans (by first | assumption | exact Le.refl _),hsel.step hb1 hb2 hb3,fun b' hb'=>?_⟩
   rcases List.mem_append.1 hb' with h1 | h1
   ·exact hmost b' h1
   ·rw[List.mem_singleton]at h1; subst h1
    rw[hpb]; omega
  ·dsimp only
   exact⟨rfl,rfl,rfl,rfl,rfl,rfl,ivs (by omega),trivial⟩
  ·dsimp only
   rw[hsn.2.2,qy,hlen1]
   ·exact Pt.zC
 have hPe:P.length=ks.length:=by omega
 have hF:ShF ks Q P x:=⟨hsel,hPe,hks,by omega,hmost,Cx.CtI.tot hC⟩
 refine At.giveSl (l:=(shS ks Q P).st) Lw.zZ rfl hF.stl.symm zM.zC (fun V2 hV2 hs2=>?_)
 refine At.giveSl (l:=(shS ks Q P).pr) Lw.zZ rfl hF.prl.symm zM.zC (fun V3 hV3 hs3'=>?_)
 refine At.giveSl (l:=(shS ks Q P).os) ode_len rfl hF.osl.symm zM.zC (fun V4 hV4 hs4'=>?_)
 have hv:ShV V4 (shS ks Q P) a1 c1 a2 c2 a3 c3:=⟨by rw[hF.stl]; exact(hs2.le hV3).le hV4,by rw[hF.prl]; exact hs3'.le hV4,by rw[hF.osl]; exact hs4'⟩
 refine At.nrm ?_
 refine At.zh (.q 0 (.n false 1 (.q 2 (.q 3 (.q 4 (.q 5 (.q 6 .done))))))) ?_
 first | refine AtT.zL jR ?_ | refine AtT.zS jR ?_ | refine AtT.zK jR ?_
 refine AtT.zR rfl rfl ok10 (lLeast2_f hF hv) ?_
 rintro _ rfl
 refine AtT.zf ?_
 refine AtT.zV ?_
 refine AtT.zV ?_
 refine AtT.zg ?_
 refine AtT.zg ?_
 refine AtT.done ?_
 refine At.nrm ?_
 refine At.zh (.q 0 (.n false 1 (.q 2 (.q 3 (.q 4 (.q 5 (.q 6 .done))))))) ?_
 first | refine AtT.zL jR ?_ | refine AtT.zS jR ?_ | refine AtT.zK jR ?_
 refine AtT.jM rfl rfl ok11 (lSpent2_f hF hv) ?_
 rintro _ V175 hV175 ⟨v,rfl,hsv⟩
 refine AtT.zf ?_
 refine AtT.zV ?_
 refine AtT.zV ?_
 refine AtT.zg ?_
 refine AtT.zg ?_
 refine AtT.done ?_
 refine At.nrm ?_
 have hv2:=hv.le hV175
 have hst2:=hv2.st
 rw[hF.stl]at hst2
 refine At.zh (.q 0 (.q 1 (.q 2 (.q 3 (.q 4 (.q 5 (.q 6 (.q 7 (.q 8 (.q 9 (.q 10 (.q 11 (.q 12 (.q 13 (.q 14 (.n false 15 (.q 16 (.q 17 .done)))))))))))))))))) ?_
 refine AtT.zf ?_
 refine AtT.jT ?_
 refine AtT.qx (d:=179) rfl ((by decide)) ?_
 refine AtT.zf ?_
 all_goals (first | refine AtT.kL 180 ?_ | refine AtT.zF (d:=180) rfl (fun hg180=>?_) (fun hg180=>?_) | refine AtT.zD (d:=180) rfl (fun hg180=>?_) (fun hg180=>?_))
 all_goals first|refine AtT.zi ?_|refine AtT.ze ?_|(refine AtT.zf ?_)
 all_goals first|refine AtT.zi ?_|refine AtT.ze ?_|(refine AtT.zf ?_)
 all_goals first|refine AtT.zi ?_|refine AtT.ze ?_|(refine AtT.jT ?_)
 all_goals (refine AtT.qx (d:=183) rfl ((by omega)) ?_)
 all_goals (refine AtT.zH ?_)
 all_goals (refine AtT.zf ?_)
 all_goals (first | refine AtT.kL 185 ?_ | refine AtT.zF (d:=185) rfl (fun hg185=>?_) (fun hg185=>?_) | refine AtT.zD (d:=185) rfl (fun hg185=>?_) (fun hg185=>?_))
 all_goals first|refine AtT.zi ?_|refine AtT.ze ?_|(refine AtT.zf ?_)
 all_goals first|refine AtT.zi ?_|refine AtT.ze ?_|(refine AtT.jT ?_)
 all_goals (refine AtT.qx (d:=187) rfl ((by decide)) ?_)
 all_goals (refine AtT.zH ?_)
 all_goals (refine AtT.zf ?_)
 all_goals (first | refine AtT.kL 189 ?_ | refine AtT.zF (d:=189) rfl (fun hg189=>?_) (fun hg189=>?_) | refine AtT.zD (d:=189) rfl (fun hg189=>?_) (fun hg189=>?_))
 all_goals first|refine AtT.zi ?_|refine AtT.ze ?_|(refine AtT.zf ?_)
 all_goals first|refine AtT.zi ?_|refine AtT.ze ?_|(first | refine AtT.zk qo ?_ | with_reducible refine AtT.zm qo ?_ | refine AtT.zo qo ?_)
 all_goals first|refine AtT.zi ?_|refine AtT.ze ?_|(first | refine AtT.zn jk ?_ | refine AtT.zq jk ?_)
 all_goals first|refine AtT.jq ?_|refine AtT.qP ?_|((refine AtT.zR rfl rfl ok12 (longs_f (shS ks Q P).st (shS ks Q P).st _ _ _ hsv hst2) ?_);(rintro _ rfl))
 all_goals first|refine AtT.zi ?_|refine AtT.ze ?_|(refine AtT.knot ?_)
 all_goals (refine AtT.setB (d:=194) rfl ((show(!decide ((shS ks Q P).st=(shS ks Q P).st))=false by rw[decide_eq_true rfl]; rfl)) ?_)
 all_goals (refine AtT.zH ?_)
 all_goals refine AtT.done ?_
 all_goals (refine At.nrm ?_)
 refine At.qh rfl rfl ?_
 refine At.nrm ?_
 refine At.zh (.q 0 .done) ?_
 refine AtT.zg ?_
 refine AtT.done ?_
 refine At.nrm ?_
 refine At.lp (ι:=Nat) (KS:=fun g=>[(1,.slice ak ks.length ck),(11,.pointer (some ⟨b11,0,none⟩)),(20,iv g)]) (OS:=fun _=>[.blk b11 (LC [.slice a1 P.length c1,.slice a2 P.length c2,.slice a3 P.length c3] 39)])
  (VS:=fun g V'=>V'=V175∧g≤ks.length) (μ:=fun g=>ks.length-g) 0 ?_ ?_ ?_ ?_
 ·exact⟨rfl,rfl,rfl,trivial⟩
 ·exact Pt.zC
 ·exact⟨rfl,Nat.zero_le _⟩
 rintro g V5 ks' O' ⟨rfl,hg⟩ hk' hO hl5
 subst hk' hO
 refine At.nrm ?_
 refine At.zh (.q 0 (.q 1 (.q 2 (.q 3 .done)))) ?_
 refine AtT.zf ?_
 refine AtT.zf ?_
 first | refine AtT.zW Tryz.underlying25 ?_ | refine AtT.zX Tryz.underlying25 ?_
 refine AtT.qd ?_
 refine AtT.done ?_
 refine At.nrm ?_
 refine At.qb rfl (fun hc2=>?_) (fun hc2=>?_)
 ·refine At.nrm ?_
  refine At.zh (.q 0 (.q 1 (.n false 2 (.q 3 (.q 4 (.q 5 (.q 6 (.q 7 .done)))))))) ?_
  first | refine AtT.zL jR ?_ | refine AtT.zS jR ?_ | refine AtT.zK jR ?_
  refine AtT.zf ?_
  refine AtT.zR rfl rfl ok13 (lWorth2_f hF hv2 g (by omega)) ?_
  rintro _ rfl
  refine AtT.zf ?_
  refine AtT.zV ?_
  refine AtT.zV ?_
  refine AtT.zg ?_
  refine AtT.zg ?_
  refine AtT.done ?_
  refine At.nrm ?_
  refine At.zh (.q 0 (.q 1 (.q 2 (.q 3 (.q 4 (.q 5 .done)))))) ?_
  refine AtT.zf ?_
  refine AtT.jT ?_
  refine AtT.qx (d:=209) rfl ((by decide)) ?_
  refine AtT.zf ?_
  all_goals (first | refine AtT.kL 210 ?_ | refine AtT.zF (d:=210) rfl (fun hg210=>?_) (fun hg210=>?_) | refine AtT.zD (d:=210) rfl (fun hg210=>?_) (fun hg210=>?_))
  all_goals first|refine AtT.zi ?_|refine AtT.ze ?_|(refine AtT.zf ?_)
  all_goals first|refine AtT.zi ?_|refine AtT.ze ?_|(refine AtT.jT ?_)
  all_goals (refine AtT.qx (d:=212) rfl ((by decide)) ?_)
  all_goals (refine AtT.zH ?_)
  all_goals refine AtT.done ?_
  all_goals (refine At.nrm ?_)
  refine At.qh rfl rfl ?_
  refine At.nrm ?_
  refine At.zh (.q 0 (.q 1 (.q 2 .done))) ?_
  refine AtT.zf ?_
  first | refine AtT.ql ?_ | refine AtT.zP ?_
  refine AtT.zg ?_
  refine AtT.done ?_
  refine At.nrm ?_
  refine At.round (g+1) ?_ ?_ ?_ ?_
  ·show ks.length-(g+1)<ks.length-g; omega
  ·exact⟨rfl,by omega⟩
  ·exact⟨rfl,rfl,rfl,trivial⟩
  ·exact Pt.zC
 ·refine At.nrm ?_
  refine At.zh (.n false 0 (.q 1 .done)) ?_
  refine AtT.zR rfl rfl ok6 (Go.Ev.works_f _) ?_
  rintro _ rfl
  refine AtT.zg ?_
  refine AtT.done ?_
  refine At.nrm ?_
  exact At.qf rfl (.tmp rfl) rfl
end Go.Proofs.YtmdcedioddchfaaGreatDoor.D
end
section
set_option linter.unusedVariables false
set_option maxRecDepth 100000
namespace Go.Proofs.YtmdcedioddchfaaGreatDoor
open Go.Lw Go.Cc Go.RowKit Go.ChangeShapes Go.WideShapes Go.ChangeAt Go.Joins Go.Deep
theorem seat_laid (os:Os) (args:Array Value):laidMetH Tryz.prog xg ((World.laidAll Tryz.prog os xg).forCall (fun _ _=>0) ⟨#[],args,[]⟩).memory:=by
 rw[MakeChecks.laidMetH_plain _ _ _ (by kernel_rfl)]
 exact laidMet_laidAll _ (laid_fits os) (laid_ifaces os)
theorem lcells24:Tryz.prog.cellsOf 24=2:=by kernel_rfl
theorem lcells22:Tryz.prog.cellsOf 22=1:=by kernel_rfl
theorem lcells41:Tryz.prog.cellsOf 41=3:=by kernel_rfl
theorem lcells2:Tryz.prog.cellsOf 2=1:=by kernel_rfl
theorem lcells3:Tryz.prog.cellsOf 3=1:=by kernel_rfl
section
variable {H:Type} {enc:TypeId×Value→H} {W:World} {base b0:Nat} {spare:Nat→Bool} {held:Bool} {v:Value} {d:DataW H} {p:List MemPlace} {r:Reach}
theorem open_ribbon (hv:Value.okWide Tryz.prog W r b0 24 v) (h:DataW.Trod enc Tryz.prog W base spare held 24 v d p):∃ (n:Int) (f:List Int) (a:Option Addr) (c:Nat),v=C.rbv n a f c∧SlI (hp W) (.slice a f.length c) f:=by
 obtain⟨cs,rfl,hsz⟩:=okWide_struct Tryz.underlying24 hv
 rw[lcells24]at hsz
 obtain⟨fuel,h⟩:=h
 obtain⟨l⟩:=cs
 match l,hsz with
 | [c0,c1],_=>
  obtain⟨y0,y1,n,_,_,h0,h1⟩:=trod_struct2 Tryz.underlying24 h
  dsimp only at h0 h1
  have h0':DataW.trod enc Tryz.prog W base spare held n 3 [c0]=some y0:=by rw[lcells3]at h0; exact h0
  have h1':DataW.trod enc Tryz.prog W base spare held n 22 [c1]=some y1:=by rw[lcells22]at h1; exact h1
  obtain⟨z0,k0,_⟩:=el_int (k:=.i64) Tryz.underlying3 h0'
  obtain⟨br,a,cap,e0,hs⟩:=sl_of (en:=ei) (s:=1) Tryz.underlying22 lcells3 (fun _ _ _ h _=>by obtain⟨z,e,_⟩:=el_int Tryz.underlying3 h; exact⟨z,e⟩) h1'
  have k0':[c0]=[Value.int .i64 z0]:=k0
  simp only[List.cons.injEq,and_true]at k0'
  subst e0 k0'
  exact⟨z0,br,a,cap,rfl,hs⟩
theorem rd_kinds (hv:Value.okWide Tryz.prog W r b0 25 v) (h:DataW.Trod enc Tryz.prog W base spare held 25 v d p):∃ (l:List Kd) (a:Option Addr) (cap:Nat),v=.slice a l.length cap∧Sl (hp W) kde 3 (.slice a l.length cap) l:=by
 obtain⟨a,n,c,rfl⟩:=okWide_slice Tryz.underlying25 hv
 obtain⟨fuel,h⟩:=h
 refine sl_of Tryz.underlying25 lcells41 (fun _ cs _ h hl=>?_) h
 match cs,hl with
 | [c0,c1,c2],_=>
  obtain⟨z0,z1,z2,m,_,_,g0,g1,g2⟩:=trod_struct3 Tryz.underlying41 h
  dsimp only at g0 g1 g2
  obtain⟨x0,k0,_⟩:=el_int (k:=.i64) Tryz.underlying3 (by rw[lcells3]at g0; exact g0)
  obtain⟨x1,k1,_⟩:=el_int (k:=.i64) Tryz.underlying2 (by rw[lcells2]at g1; exact g1)
  obtain⟨x2,k2,_⟩:=el_int (k:=.i64) Tryz.underlying3 (by rw[lcells3]at g2; exact g2)
  have k0':[c0]=[Value.int .i64 x0]:=k0
  have k1':[c1]=[Value.int .i64 x1]:=k1
  have k2':[c2]=[Value.int .i64 x2]:=k2
  simp at k0' k1' k2'
  subst k0' k1' k2'
  exact⟨⟨x0,x1,x2⟩,rfl⟩
end
end Go.Proofs.YtmdcedioddchfaaGreatDoor
end
section
set_option maxRecDepth 100000
namespace Go.Proofs.YtmdcedioddchfaaGreatDoor
open Go Go.ChangeShapes Go.WideShapes
theorem zJoin:joinedFacts Tryz.pinned.checked.prog 3 Tryz.f3 Rows.topClippedGradeSpec Rows.topClippedGradeRow=true:=by
 show joinedFacts Tryz.prog 3 Tryz.f3 Rows.topClippedGradeSpec Rows.topClippedGradeRow=true
 unfold joinedFacts
 simp only[Bool.and_eq_true (_:Bool) (_:Bool)]
 exact⟨⟨⟨⟨⟨⟨⟨⟨⟨⟨⟨⟨⟨⟨⟨⟨⟨⟨⟨⟨⟨⟨⟨⟨⟨⟨⟨⟨⟨⟨⟨zj0,laidOut⟩,zj2⟩,zj3⟩,zj4⟩,zj5⟩,zj6⟩,zj7⟩,zj8⟩,(beq_iff_eq.2 inPlace_ok.symm)⟩,(beq_iff_eq.2 unf_ok.symm)⟩,(beq_iff_eq.2 rec_ok.symm)⟩,(beq_iff_eq.2 named_ok.symm)⟩,zj13⟩,zj14⟩,zj15⟩,zj16⟩,zj17⟩,zj18⟩,zj19⟩,zj20⟩,zj21⟩,zj22⟩,zj23⟩,zj24⟩,zj25⟩,zj26⟩,zj27⟩,zj28⟩,zj29⟩,zj30⟩,zj31⟩
theorem zGoes:false=Rows.topClippedGradeRow.goesBy Tryz.pinned.checked.prog:=by
 have e:Tryz.prog.goesFrom "crossband/crossbandtop.TopClippedGrade" = false:=by
  unfold Program.goesFrom
  rw[zNamed,Option.any_some]
  exact goes_ok
 have e2:Tryz.prog.goesAt .entering "crossband/crossbandtop.TopClippedGrade" = false:=by
  unfold Program.goesAt
  rw[e,Bool.false_or]
 unfold OpenClaim.goesBy
 rw[show Rows.topClippedGradeRow.start=.entering from rfl,show Rows.topClippedGradeRow.func = "crossband/crossbandtop.TopClippedGrade" from rfl,show Tryz.pinned.checked.prog=Tryz.prog from rfl,e2]
end Go.Proofs.YtmdcedioddchfaaGreatDoor
end
