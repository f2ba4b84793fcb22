/- A part. -/
import Derived.ProofKit
import Derived.OpenShut
import Derived.Carry
import Derived.Lib.SmallJoins
import Derived.Deep.Slices
import Derived.Handed
import Derived.LaidLaws
import Derived.Stop.Joined
import Derived.Test.YtnffcfhdnjbdbaaGreatDoorQ1
import Derived.Test.YtnffcfhdnjbdbaaGreatDoorQ6
set_option linter.unusedVariables false
set_option linter.unusedSimpArgs false
set_option linter.unusedSectionVars false
set_option linter.constructorNameAsVariable false
noncomputable section
namespace Go.Pm
open Go.Gl Go.Lw
theorem sl_det {V:View} {v:Value} {l m:List Int} (h:SlI V v l) (k:SlI V v m):l=m:=by
 obtain⟨a,c,rfl,_,_,ha,hc⟩:=h;obtain⟨a',c',e,_,_,ha',hc'⟩:=k;have e1:a=a':=by injection e
 have e2:l.length=m.length:=by injection e
 subst e1;apply List.ext_getElem e2;intro i h1 h2;have hne:l≠[]:=λh=>by rw[h]at h1;simp at h1
 obtain⟨p,rfl⟩:=Option.isSome_iff_exists.1 (ha hne);have x1:=hc p rfl i l[i] (List.getElem?_eq_getElem h1) 0 _ rfl;have x2:=hc' p rfl i m[i] (List.getElem?_eq_getElem h2) 0 _ rfl;rw[x1]at x2;have x3:=Option.some.inj x2;injection x3
end Go.Pm
namespace Go.Proofs.YtnffcfhdnjbdbaaGreatDoor.P
open Go.Lw Go.Gl Go.Pm Go.RowKit Go.Sort
abbrev tvl (q:Option Addr×Nat×Nat):Value:=.slice q.1 q.2.1 q.2.2
theorem sl_vle {V:View} {v:Value} {qs:List (Option Addr×Nat×Nat)} (h:Sl V sle 1 v qs):Sl V vle 1 v (qs.map tvl):=by
 obtain⟨a,c,rfl,h1,h2,h3,h4⟩:=h;refine⟨a,c,by rw[List.length_map],by rw[List.length_map];exact h1,h2,λhn=>h3 λe=>hn (by rw[e];rfl),λp hp i x hx=>?_⟩;rw[List.getElem?_map]at hx;cases hq:qs[i]? with
 | none=>rw[hq]at hx;cases hx
 | some q=>rw[hq]at hx;obtain rfl:=Option.some.inj hx;exact h4 p hp i q hq
def inV (V:View) (i:Int) (x:Value):Bool:=@decide (∃ l,SlI V x l/\i∈l) (Classical.propDecidable _)
theorem inV_of {V:View} {i:Int} {x:Value} {l:List Int} (h:SlI V x l):inV V i x=l.any (· == i):=by
 unfold inV;cases c:l.any (· == i)with
 | true=>
  obtain⟨y,hy,e⟩:=List.any_eq_true.1 c;have e:y=i:=by simpa using e
  subst e;exact @decide_eq_true _ (Classical.propDecidable _) ⟨l,h,hy⟩
 | false=>refine @decide_eq_false _ (Classical.propDecidable _) ?_;rintro⟨m,hm,him⟩;have:=sl_det hm h;subst this;rw[List.any_eq_true.2 ⟨i,him,by simp⟩]at c;cases c
theorem inV_any {V:View} {i:Int} {qs:List (Option Addr×Nat×Nat)} {ll:List (List Int)} (hlen:qs.length=ll.length) (h:∀ (j:Nat) (q:Option Addr×Nat×Nat) (l:List Int),qs[j]? = some q->ll[j]? = some l->SlI V (.slice q.1 q.2.1 q.2.2) l):(qs.map tvl).any (inV V i)=true↔∃ l∈ll,i∈l:=by
 rw[List.any_eq_true];constructor
 ·rintro⟨x,hx,hi⟩;obtain⟨q,hq,rfl⟩:=List.mem_map.1 hx;obtain⟨j,hj⟩:=List.getElem?_of_mem hq;have hjl:=(List.getElem?_eq_some_iff.1 hj).1;have hl:ll[j]? = some (ll[j]'(by omega)):=List.getElem?_eq_getElem (by omega);have hs:=h j q _ hj hl;rw[inV_of hs]at hi;obtain⟨y,hy,e⟩:=List.any_eq_true.1 hi;have e:y=i:=by simpa using e
  subst e;exact⟨_,List.mem_of_getElem? hl,hy⟩
 ·rintro⟨l,hl,hi⟩;obtain⟨j,hj⟩:=List.getElem?_of_mem hl;have hjl:=(List.getElem?_eq_some_iff.1 hj).1;have hq:qs[j]? = some (qs[j]'(by omega)):=List.getElem?_eq_getElem (by omega);have hs:=h j _ l hq hj;exact⟨tvl (qs[j]'(by omega)),List.mem_map_of_mem (List.mem_of_getElem? hq),by rw[inV_of hs];exact List.any_eq_true.2 ⟨i,hi,by simp⟩⟩
theorem parts1_f (i:Int) (V:View) (q:Addr) (x:Value) (l:List Int) (hq:Cells V q [iv i]) (hs:SlI V x l):Fnc Tryz.prog 61 ([]++[x]++[.pointer (some q)]) V λr _=>r=.bool (inV V i x):=by
 have he:=inV_of (i:=i) hs
 obtain⟨a,c,rfl,_⟩:=id hs;refine zG Tryz.func61 rfl Tryz.ntmps61 (Nat.le_of_ble_eq_true rfl) ?_;intro w0 hw0;refine zb (tT 0 [0]) ?_;refine ax (tT 0 [0,0,1,0]) ?_;refine ze ?_;refine kV tk3 ?_;refine zm rfl rfl ok62 (containsI_f l i _ _ hs) ?_;rintro _ rfl;refine zh ?_;exact zL rfl (.tmp rfl) (by rw[he])
theorem parts_f (s:Sh) (hok:ShOk s) (V:View) (b:Nat) (hb:BnV V b s):Fnc Tryz.prog 18 [.pointer (some ⟨b,0,none⟩)] V λr V'=>∃ ll,SL V' r ll/\PrtK (knL s).length (shN (gdS s) (knL s)) (knL s).length ll:=by
 obtain⟨ab,cb,ak,ck,hc0,hc1,hc2,hc3,hsb,hsk⟩:=bn_get hb;have n10:=hok.kn;refine zG Tryz.func18 rfl Tryz.ntmps18 (Nat.le_of_ble_eq_true rfl) ?_;intro w0 hw0;refine zb (tT 0 [0]) ?_;refine ax (tT 0 [0]) ?_;refine ax (tT 0 [0,0,0,0,0,0]) ?_;refine ze ?_;refine jh ?_;refine zw fo55_1 ?_;refine kV tk51 ?_;refine zZ Tryz.underlying51 ?_;refine ze ?_;refine AtT.dn ?_;refine xu 34 1 ?_;refine xc (ι:=Nat×List (Option Addr×Nat×Nat)×List (List Int)×Option Addr×Nat) (KS:=λg=>[(0,.pointer (some ⟨b,0,none⟩)),(3,.slice g.2.2.2.1 g.2.1.length g.2.2.2.2),(11,.slice ak (knL s).length ck),(12,iv (knL s).length),(13,iv g.1)])
  (OS:=λg=>[.row (.slice g.2.2.2.1 g.2.1.length g.2.2.2.2) 34 1 g.2.1.length (flat sle g.2.1)])
  (VS:=λg V'=>Le V V'/\g.1<=(knL s).length/\g.2.1.length=g.2.2.1.length/\g.2.1.length<=g.1/\PrtK (knL s).length (shN (gdS s) (knL s)) g.1 g.2.2.1/\∀ (j:Nat) (q:Option Addr×Nat×Nat) (l:List Int),g.2.1[j]? = some q->g.2.2.1[j]? = some l->SlI V' (.slice q.1 q.2.1 q.2.2) l) (μ:=λg=>(knL s).length-g.1) (0,[],[],none,0) ?_ ?_ ?_ ?_
 ·exact⟨rfl,rfl,rfl,rfl,rfl,trivial⟩
 ·exact Pt.zg
 ·exact⟨Le.refl _,Nat.zero_le _,rfl,Nat.le_refl _,.zero,λj q l h=>by simp at h⟩
 rintro⟨i,qs,ll,a3,c3⟩ V' ks' O' ⟨hVV,hil,hql,hqi,hprt,hqs⟩ hk hO hl2;dsimp only at hil hql hqi hprt hqs hk hO;subst hk hO;have hb':=hb.le hVV;have hc2':=hc2.le hVV;have hsk':=hsk.le hVV;refine zb (tT 0 [0]) ?_;refine qc ?_;refine AtT.dn ?_;refine zI rfl (λhp=>?_) (λhp=>?_);rotate_left
 ·obtain rfl:i=(knL s).length:=by omega
  refine zb (tT 0 [0,0]) ?_;refine ze ?_;refine zh ?_;refine xw (l:=qs) sle_len rfl rfl zo.zg (λV4 hV4 hs4=>?_);exact zL rfl (.tmp rfl) ⟨ll,⟨qs,hs4,hql,λj q l h1 h2=>(hqs j q l h1 h2).le hV4⟩,hprt⟩
 refine zb (tT 0 [0,1,2]) ?_;refine ze ?_;refine zW z3 ?_;intro b4;first | refine qK tk3 ?_ | refine zH tk3 ?_
 refine AtT.dn ?_;refine jN (b:=b4) zo.zg (λV2 hV2 hb4=>?_);have q4:=zQ hb4;have hl3:=hl2.trans hV2;refine lend zo.zg (λV3 hV3 hL=>?_);have hsq:=sl_vle (hL.sl sle_len);have q43:=q4.le hV3;have hqs3:∀ (j:Nat) (q:Option Addr×Nat×Nat) (l:List Int),qs[j]? = some q->ll[j]? = some l->SlI V3 (.slice q.1 q.2.1 q.2.2) l:=λj q l h1 h2=>((hqs j q l h1 h2).le hV2).le hV3;have hany:=inV_any (V:=V3) (i:=(i:Int)) hql hqs3;have hcl:∀ x,x∈qs.map tvl->Fnc Tryz.prog 61 ([]++[x]++[.pointer (some ⟨b4,0,none⟩)]) V3 λv _=>v=.bool (inV V3 i x):=λx hx=>by obtain⟨q,hq,rfl⟩:=List.mem_map.1 hx;obtain⟨j,hj⟩:=List.getElem?_of_mem hq;have hjl:=(List.getElem?_eq_some_iff.1 hj).1;have hl:ll[j]? = some (ll[j]'(by omega)):=List.getElem?_eq_getElem (by omega);exact parts1_f i V3 _ _ _ q43 (hqs3 j q _ hj hl)
 refine zb (tT 0 [0,0,1]) ?_;refine ze ?_;refine kfn ?_;refine zm rfl rfl ok60 (contains_v 61 [.pointer (some ⟨b4,0,none⟩)] (inV V3 i) _ _ _ hsq ok61 hcl) ?_;rintro _ rfl;refine AtT.dn ?_;refine At.cond rfl (λhc=>?_) (λhc=>?_)
 ·refine regain hL hV3 (Le.refl _) hl3 (λV4 hV4=>?_);refine zb (tT 0 [0,0]) ?_;refine zM ?_;refine ze ?_;refine AtT.dn ?_;refine At.round (i+1,qs,ll,a3,c3) ?_ ?_ ?_ ?_
  ·show(knL s).length-(i+1)<(knL s).length-i;omega
  ·exact⟨(hVV.trans hV2).trans hV4,by dsimp only;omega,hql,by dsimp only;omega,.skip hprt (hany.1 hc),λj q l h1 h2=>((hqs j q l h1 h2).le hV2).le hV4⟩
  ·exact⟨rfl,rfl,rfl,rfl,ivs (by dsimp only;omega),trivial⟩
  ·exact Pt.zg
 refine regain hL hV3 (Le.refl _) hl3 (λV4 hV4=>?_);have hnone:¬ ∃ l∈ll,(i:Int)∈l:=λh=>by rw[hany.2 h]at hc;cases hc
 have q44:=q4.le hV4
 have hl4:=hl3.trans hV4
 have hg4:Le V' V4:=hV2.trans hV4
 refine zb (tT 0 [0,1,0]) ?_;refine kV tk3 ?_;refine kbslice (zR _) ?_;intro b20;refine zh ?_;refine At.blkRow (b:=b20) (m:=1) (cap:=1) (s:=1) (xs:=flat ei [(i:Int)]) (rest:=[]) zo.zg rfl rfl (Nat.le_refl _) (by unfold maxLen;omega) ?_;refine zb (tT 0 [0]) ?_;refine zh ?_;refine xc (ι:=Nat×List Int×Option Addr×Nat) (KS:=λg=>[(0,.pointer (some ⟨b,0,none⟩)),(3,.slice a3 qs.length c3),(11,.slice ak (knL s).length ck),(12,iv (knL s).length),(13,iv i),(5,.slice g.2.2.1 g.2.1.length g.2.2.2),(6,iv g.1)])
  (OS:=λg=>[.row (.slice g.2.2.1 g.2.1.length g.2.2.2) 3 1 g.2.1.length (flat ei g.2.1),.row (.slice a3 qs.length c3) 34 1 qs.length (flat sle qs)])
  (VS:=λg V''=>Le V' V''/\g.1<=g.2.1.length/\Gat (knL s).length (shN (gdS s) (knL s)) i g.2.1/\Cls (knL s).length (shN (gdS s) (knL s)) g.2.1 g.1) (μ:=λg=>(knL s).length-g.1) (0,[(i:Int)],some ⟨b20,0,none⟩,1) ?_ ?_ ?_ ?_
 ·exact⟨rfl,rfl,rfl,rfl,rfl,rfl,rfl,trivial⟩
 ·exact Pt.zg
 ·exact⟨hg4,Nat.zero_le _,gat_start (by omega),λu a hu=>absurd hu (Nat.not_lt_zero u)⟩
 rintro⟨j,P,a5,c5⟩ V5 ks' O' ⟨hV5,hjP,hgat,hcls⟩ hk hO hl5;dsimp only at hjP hgat hcls hk hO;subst hk hO;have hPl:=gat_len hgat;have hb5:=hb'.le hV5;have hc25:=hc2'.le hV5;have hsk5:=hsk'.le hV5;have hqs5:∀ (j:Nat) (q:Option Addr×Nat×Nat) (l:List Int),qs[j]? = some q->ll[j]? = some l->SlI V5 (.slice q.1 q.2.1 q.2.2) l:=λj q l h1 h2=>(hqs j q l h1 h2).le hV5;refine zb (tT 0 [0,0,0,0]) ?_;refine ze ?_;refine ze ?_;refine zZ Tryz.underlying34 ?_;refine qc ?_;refine AtT.dn ?_;refine zI rfl (λhp2=>?_) (λhp2=>?_);rotate_left
 ·obtain rfl:j=P.length:=by omega
  have hpos:P.length≠0:=λh=>by
   have:=hgat.fst
   rw[List.eq_nil_of_length_eq_zero h]at this;cases this
  have hperm:=srtI_perm P
  have hpart:=gat_end (by omega) hgat hcls hperm (srtI_sorted hgat.nd)
  have hsl:(srtI P).length=P.length:=hperm.length_eq
  refine rowSplit (v:=.slice a5 P.length c5) zo.zg (λh1 h2 _=>absurd h2 hpos) (λbb cap rest hv hc1 hc2 hc3=>?_);cases hv;refine zb (tT 0 [0,2]) ?_;refine ze ?_;refine sortI rfl trivial rfl (show P.length<4611686018427387904 by omega) zo.zg (by decide) ?_ (l:=P) (rest:=rest) (b:=bb) (cap:=c5);refine AtT.dn ?_;refine jN (b:=bb) zo.zg (λV6 hV6 hb6=>?_);have hbase6:Le V V6:=(hVV.trans hV5).trans hV6;have hsn:SlI V6 (.slice (some ⟨bb,0,none⟩) P.length c5) (srtI P):=by rw[<-hsl];exact Sl.of_cells Lw.jP (cells_pre hb6) (by omega) hc2
  refine zb (tT 0 [0,0,1,2,0]) ?_;refine ze ?_;refine ze ?_;refine zy (bs37_1_0 _ _ _) ?_;intro q57 V57 hV57 hq57;have g57:Le V V57:=by first | exact hV57 | exact Le.trans (by assumption) hV57
  first | refine jq Tryz.underlying37 rw34 ?_
  intro a58 c58;refine zh ?_;have hql2:(qs++[((some ⟨bb,0,none⟩:Option Addr),P.length,c5)]).length=qs.length+1:=by rw[List.length_append];rfl
  refine zb (tT 0 [0,0]) ?_;refine zM ?_;refine ze ?_;refine AtT.dn ?_;refine At.round (i+1,qs++[((some ⟨bb,0,none⟩:Option Addr),P.length,c5)],ll++[srtI P],a58,c58) ?_ ?_ ?_ ?_
  ·show(knL s).length-(i+1)<(knL s).length-i;omega
  ·refine⟨(hVV.trans hV5).trans (by first | assumption | exact Le.trans (by assumption) (by assumption)),by dsimp only;omega,by dsimp only;rw[hql2,List.length_append,hql];rfl,by dsimp only;omega,.add hprt hnone hpart,λj q l h1 h2=>?_⟩;by_cases e:j<qs.length
   ·rw[List.getElem?_append_left e]at h1;rw[List.getElem?_append_left (by omega)]at h2;exact(hqs5 j q l h1 h2).le (by first | assumption | exact Le.trans (by assumption) (by assumption))
   ·have hj1:=(List.getElem?_eq_some_iff.1 h1).1
    dsimp only at hj1;rw[hql2]at hj1;obtain rfl:j=qs.length:=by omega
    rw[List.getElem?_append_right (Nat.le_refl _),Nat.sub_self]at h1;rw[List.getElem?_append_right (by omega),hql,Nat.sub_self]at h2;obtain rfl:=Option.some.inj h1;obtain rfl:=Option.some.inj h2;exact hsn.le (by first | assumption | exact Le.refl _ | exact Le.trans (by assumption) (by assumption))
  ·dsimp only;rw[hql2];exact⟨rfl,rfl,rfl,rfl,ivs (by omega),trivial⟩
  dsimp only;rw[hql2,zV]
  ·exact Pt.zg
 obtain⟨x,hx⟩:∃ x,P[j]? = some x:=⟨_,List.getElem?_eq_getElem (by omega)⟩;obtain⟨m,rfl,hmN,hmr⟩:=hgat.rch x (List.mem_of_getElem? hx);refine zb (tT 0 [0,0,0,0,0,0]) ?_;refine ze ?_;refine jh ?_;refine zw fo55_1 ?_;refine kV tk51 ?_;refine zZ Tryz.underlying51 ?_;refine ze ?_;refine AtT.dn ?_;refine xc (ι:=Nat×List Int×Option Addr×Nat) (KS:=λg=>[(0,.pointer (some ⟨b,0,none⟩)),(3,.slice a3 qs.length c3),(11,.slice ak (knL s).length ck),(12,iv (knL s).length),(13,iv i),(5,.slice g.2.2.1 g.2.1.length g.2.2.2),(6,iv j),(30,.slice ak (knL s).length ck),(31,iv (knL s).length),(32,iv g.1)])
  (OS:=λg=>[.row (.slice g.2.2.1 g.2.1.length g.2.2.2) 3 1 g.2.1.length (flat ei g.2.1),.row (.slice a3 qs.length c3) 34 1 qs.length (flat sle qs)])
  (VS:=λg V''=>Le V' V''/\g.1<=(knL s).length/\j<g.2.1.length/\g.2.1[j]? = some (m:Int)/\Gat (knL s).length (shN (gdS s) (knL s)) i g.2.1/\Cls (knL s).length (shN (gdS s) (knL s)) g.2.1 j/\∀ k,k<g.1->shN (gdS s) (knL s) m k=true->(k:Int)∈g.2.1) (μ:=λg=>(knL s).length-g.1) (0,P,a5,c5) ?_ ?_ ?_ ?_
 ·exact⟨rfl,rfl,rfl,rfl,rfl,rfl,rfl,rfl,rfl,rfl,trivial⟩
 ·exact Pt.zg
 ·exact⟨hV5,Nat.zero_le _,by dsimp only;omega,hx,hgat,hcls,λk hk=>absurd hk (Nat.not_lt_zero k)⟩
 rintro⟨k,P2,a6,c6⟩ V6 ks' O' ⟨hV6,hkl,hjP2,hx2,hgat2,hcls2,hsee⟩ hk hO hl6;dsimp only at hkl hjP2 hx2 hgat2 hcls2 hsee hk hO;subst hk hO;have hP2l:=gat_len hgat2;have hb6:=hb'.le hV6;have hc26:=hc2'.le hV6;have hsk6:=hsk'.le hV6;refine zb (tT 0 [0]) ?_;refine qc ?_;refine AtT.dn ?_;refine zI rfl (λhp3=>?_) (λhp3=>?_);rotate_left
 ·obtain rfl:k=(knL s).length:=by omega
  refine zb (tT 0 [0,0,0]) ?_;refine ze ?_;refine zM ?_;refine zh ?_;refine At.round (j+1,P2,a6,c6) ?_ ?_ ?_ ?_
  ·show(knL s).length-(j+1)<(knL s).length-j;omega
  ·refine⟨hV6,by dsimp only;omega,hgat2,λu a hu ha k' hk' hs'=>?_⟩;by_cases e:u=j
   ·subst e;rw[hx2]at ha;have e2:=Option.some.inj ha;obtain rfl:m=a:=by omega
    exact hsee k' hk' hs'
   ·exact hcls2 u a (by omega) ha k' hk' hs'
  ·exact⟨rfl,rfl,rfl,rfl,rfl,rfl,ivs (by dsimp only;omega),trivial⟩
  ·exact Pt.zg
 refine zb (tT 0 [0,0]) ?_;refine ze ?_;refine zh ?_;refine lend (xs:=flat ei P2) zo.zg (λV7 hV7 hL7=>?_);have hsp:=hL7.sl Lw.jP;have hb7:=hb6.le hV7;cases hin:P2.any (· == (k:Int))with
 | true=>
  refine zb (tT 0 [0,0,1,0,0,0,0,0,0,0,0,1,0]) ?_;refine ze ?_;refine ze ?_;refine zm rfl rfl ok62 (containsI_f P2 k _ _ hsp) ?_;rintro _ rfl;refine xn ?_;refine xy (d:=38) rfl ((show(!P2.any (· == (k:Int)))=false by rw[hin];rfl)) ?_;refine ze ?_;all_goals (first | refine kY 39 ?_ | refine kX (d:=39) rfl (λhg39=>?_) (λhg39=>?_) | refine kW (d:=39) rfl (λhg39=>?_) (λhg39=>?_))
  all_goals refine zJ ?_
  all_goals refine zJ ?_
  all_goals refine zJ ?_
  all_goals first|refine AtT.kp ?_|(refine kZ Tryz.underlying34 tk3 ?_);(intro p43 e43 he43 hc43)
  all_goals refine qi tk3 ?_
  all_goals refine zJ ?_
  all_goals first|refine kpN ?_|((fail))
  all_goals refine zF ?_
  all_goals refine AtT.done ?_
  all_goals refine nrm ?_
  refine zS rfl rfl ?_;refine regain hL7 hV7 (Le.refl _) hl6 (λV8 hV8=>?_);refine zb (tT 0 [0,0]) ?_;refine zM ?_;refine ze ?_;refine AtT.dn ?_;have hmem:(k:Int)∈P2:=by
   obtain⟨y,hy,e⟩:=List.any_eq_true.1 hin;have e:y=(k:Int):=by simpa using e
   rwa[e]at hy
  refine At.round (k+1,P2,a6,c6) ?_ ?_ ?_ ?_
  ·show(knL s).length-(k+1)<(knL s).length-k;omega
  ·refine⟨hV6.trans hV8,by dsimp only;omega,hjP2,hx2,hgat2,hcls2,λk' hk' hs'=>?_⟩;by_cases e:k'=k
   ·subst e;exact hmem
   ·exact hsee k' (by dsimp only at hk';omega) hs'
  ·exact⟨rfl,rfl,rfl,rfl,rfl,rfl,rfl,rfl,rfl,ivs (by dsimp only;omega),trivial⟩
  ·exact Pt.zg
 | false=>
  have hnmem:(k:Int)∉P2:=λh=>by rw[List.any_eq_true.2 ⟨_,h,by simp⟩]at hin;cases hin
  cases hsh:shN (gdS s) (knL s) m k with
  | false=>
   refine zb (tT 0 [0,0,1,0,0,0,0,0,0,0,0,1,0]) ?_;refine ze ?_;refine ze ?_;refine zm rfl rfl ok62 (containsI_f P2 k _ _ hsp) ?_;rintro _ rfl;refine xn ?_;refine xy (d:=38) rfl ((show(!P2.any (· == (k:Int)))=true by rw[hin];rfl)) ?_;refine ze ?_;all_goals (first | refine kY 39 ?_ | refine kX (d:=39) rfl (λhg39=>?_) (λhg39=>?_) | refine kW (d:=39) rfl (λhg39=>?_) (λhg39=>?_))
   all_goals refine zJ ?_
   all_goals refine zJ ?_
   all_goals refine zJ ?_
   all_goals first|refine AtT.kp ?_|(refine kZ Tryz.underlying34 tk3 ?_);(intro p43 e43 he43 hc43)
   all_goals refine qi tk3 ?_
   all_goals (obtain rfl:=qx hx2 he43)
   all_goals refine zJ ?_
   all_goals first|refine kpN ?_|((refine zm rfl rfl ok15 (share_f s hok m k (by omega) (by omega) _ b hb7) ?_);(rintro _ rfl;rw[hsh]))
   all_goals refine zF ?_
   all_goals refine AtT.done ?_
   all_goals refine nrm ?_
   refine zS rfl rfl ?_;refine regain hL7 hV7 (Le.refl _) hl6 (λV8 hV8=>?_);refine zb (tT 0 [0,0]) ?_;refine zM ?_;refine ze ?_;refine AtT.dn ?_;refine At.round (k+1,P2,a6,c6) ?_ ?_ ?_ ?_
   ·show(knL s).length-(k+1)<(knL s).length-k;omega
   ·refine⟨hV6.trans hV8,by dsimp only;omega,hjP2,hx2,hgat2,hcls2,λk' hk' hs'=>?_⟩;by_cases e:k'=k
    ·subst e;rw[hsh]at hs';cases hs'
    ·exact hsee k' (by dsimp only at hk';omega) hs'
   ·exact⟨rfl,rfl,rfl,rfl,rfl,rfl,rfl,rfl,rfl,ivs (by dsimp only;omega),trivial⟩
   ·exact Pt.zg
  | true=>
   have hadd:=gat_add hgat2 (List.mem_of_getElem? hx2) (by omega) hsh hnmem
   have hal:=gat_len hadd
   have hP3:(P2++[(k:Int)]).length=P2.length+1:=by rw[List.length_append];rfl
   refine zb (tT 0 [0,0,1,0,0,0,0,0,0,0,0,1,0]) ?_;refine ze ?_;refine ze ?_;refine zm rfl rfl ok62 (containsI_f P2 k _ _ hsp) ?_;rintro _ rfl;refine xn ?_;refine xy (d:=38) rfl ((show(!P2.any (· == (k:Int)))=true by rw[hin];rfl)) ?_;refine ze ?_;all_goals (first | refine kY 39 ?_ | refine kX (d:=39) rfl (λhg39=>?_) (λhg39=>?_) | refine kW (d:=39) rfl (λhg39=>?_) (λhg39=>?_))
   all_goals refine zJ ?_
   all_goals refine zJ ?_
   all_goals refine zJ ?_
   all_goals first|refine AtT.kp ?_|(refine kZ Tryz.underlying34 tk3 ?_);(intro p43 e43 he43 hc43)
   all_goals refine qi tk3 ?_
   all_goals (obtain rfl:=qx hx2 he43)
   all_goals refine zJ ?_
   all_goals first|refine kpN ?_|((refine zm rfl rfl ok15 (share_f s hok m k (by omega) (by omega) _ b hb7) ?_);(rintro _ rfl;rw[hsh]))
   all_goals refine zF ?_
   all_goals refine AtT.done ?_
   all_goals refine nrm ?_
   refine ql rfl rfl ?_;refine regain hL7 hV7 (Le.refl _) hl6 (λV8 hV8=>?_);have hbase8:Le V V8:=(hVV.trans hV6).trans hV8;refine zb (tT 0 [0,0,1,2,0]) ?_;refine ze ?_;refine ze ?_;refine zy (zR _) ?_;intro q50 V50 hV50 hq50;have g50:Le V V50:=by first | exact hV50 | exact Le.trans (by assumption) hV50
   first | refine jq Tryz.underlying34 rw3 ?_
   intro a51 c51;refine zh ?_;refine zb (tT 0 [0,0]) ?_;refine zM ?_;refine ze ?_;refine AtT.dn ?_;refine At.round (k+1,P2++[(k:Int)],a51,c51) ?_ ?_ ?_ ?_
   ·show(knL s).length-(k+1)<(knL s).length-k;omega
   ·refine⟨(hV6.trans hV8).trans (by first | assumption | exact Le.trans (by assumption) (by assumption)),by dsimp only;omega,by dsimp only;omega,by dsimp only;rw[List.getElem?_append_left hjP2];exact hx2,hadd,cls_add hcls2 (by omega),λk' hk' hs'=>?_⟩;by_cases e:k'=k
    ·subst e;simp
    ·exact List.mem_append_left _ (hsee k' (by dsimp only at hk';omega) hs')
   ·dsimp only;rw[hP3];exact⟨rfl,rfl,rfl,rfl,rfl,rfl,rfl,rfl,rfl,ivs (by omega),trivial⟩
   dsimp only;rw[hP3,zV]
   ·exact Pt.zg
end Go.Proofs.YtnffcfhdnjbdbaaGreatDoor.P
namespace Go.Proofs.YtnffcfhdnjbdbaaGreatDoor.P
open Go.Lw Go.Gl Go.Pm Go.RowKit
def PrR (s:Sh) (r:Value) (V':View):Prop:=∃ u ll,r=.tuple #[u,iv (chE s)]/\SL V' u ll/\((chE s≠0/\ll=[])\/(chE s=0/\PrtK (knL s).length (shN (gdS s) (knL s)) (knL s).length ll))
theorem partsP_f (s:Sh) (V:View) (v:Value) (hv:ShV V v s):Fnc Tryz.prog 8 [v] V (PrR s):=by
 obtain⟨a,c,rfl,hs⟩:=id hv;refine zG Tryz.func8 rfl Tryz.ntmps8 (Nat.le_of_ble_eq_true rfl) ?_;intro w0 hw0;refine zb (tT 0 [1,0,0]) ?_;refine qQ ?_;intro b1;refine zu ?_;refine zh ?_;by_cases h0:chE s=0;rotate_left
 ·refine zP (tT 0 [0,1,0,0,0,0,0]) ?_;refine qo tk24 ?_;refine kK rfl rfl ok13 (open_bad s h0 _ _ hv) ?_;rintro v8 V8 hV8 rfl;refine ze ?_;refine zx ?_;refine zx ?_;refine zu ?_;refine zh ?_;refine zb (tT 0 [0,0]) ?_;refine ze ?_;refine kJ ?_;refine AtT.dn ?_;refine ql rfl (decide_eq_true h0) ?_;refine zb (tT 0 [0,0,0]) ?_;refine ze ?_;refine zu ?_;refine zh ?_;exact ret2 rfl (.tmp rfl) (.tmp rfl) ⟨_,[],rfl,SL.nil _,.inl ⟨h0,rfl⟩⟩
 refine zP (tT 0 [0,1,0,0,0,0,0]) ?_;refine qo tk24 ?_;refine kK rfl rfl ok13 (open_ok s h0 _ _ hv) ?_;rintro v8 V8 hV8 ⟨b,rfl,hb⟩;refine ze ?_;refine zx ?_;refine zx ?_;refine zu ?_;refine zh ?_;refine zb (tT 0 [0,0]) ?_;refine ze ?_;refine kJ ?_;refine AtT.dn ?_;refine zS rfl rfl ?_;refine zb (tT 0 [0,1,0,0]) ?_;refine ze ?_;refine kK rfl rfl ok18 (parts_f s (chE_ok h0) _ b hb) ?_;rintro v15 V15 hV15 ⟨ll,hs15,hk15⟩;refine zu ?_;refine zh ?_;exact ret2 rfl (.tmp rfl) (.tmp rfl) ⟨_,ll,by rw[h0],hs15,.inr ⟨h0,hk15⟩⟩
end Go.Proofs.YtnffcfhdnjbdbaaGreatDoor.P
namespace Go.Lw
open Go.ChangeShapes Go.WideShapes Go.ChangeAt Go.RowKit Go.Joins Go.Deep
section
variable {H:Type} {enc:TypeId×Value->H} {P:Program} {W W':World}
theorem stays_all (hl:laidOutB P=true) (hb:Below W.heap.size W W'):∀ (ts:List TypeId) (vs:List Value) (ds:List (DataW H)) (ps:List MemPlace),(ts.all λt=>P.readableRec t && decide (t<P.types.size))=true->
  (∀ x∈ps,x.block<W.heap.size)->DataW.TrodAll enc P W 0 (λ_=>true) true ts vs ds ps->DataW.TrodAll enc P W' 0 (λb=>decide (b<W.heap.size)) true ts vs ds ps
 | [],vs,ds,ps,_,_,h=>by
  obtain⟨rfl,rfl,rfl⟩:=trodAll_nil h;exact trodAll_mk0
 | t::ts,vs,ds,ps,ht,hlt,h=>by
  obtain⟨v,vs',d,ds',p,q,rfl,rfl,rfl,h0,h1⟩:=trodAll_cons h;simp only[List.all_cons,Bool.and_eq_true,decide_eq_true_eq]at ht;exact trodAll_cons_mk (Below.trod hl ht.1.1 ht.1.2 h0 hb λx hx=>hlt x (List.mem_append_left _ hx))
   (stays_all hl hb ts vs' ds' q ht.2 (λx hx=>hlt x (List.mem_append_right _ hx)) h1)
variable {base:Nat} {spare:Nat->Bool} {held:Bool}
theorem cells_hp {a:Addr} {n:Nat} {cs:List Value} (h:W.cells? base a n=some cs):cs.length=n/\Cells (hp W) a cs:=by
 obtain⟨_,h1,h2⟩:=World.cells?_some h;refine⟨h1,λj u hj=>?_⟩;have hlt:j<n:=by rw[<-h1];exact(List.getElem?_eq_some_iff.1 hj).1
 rw[jy,h2 j hlt];exact hj
theorem sl_of {α:Type} {en:α->List Value} {T E:TypeId} {s:Nat} {fuel:Nat} {v:Value} {x:DataW H×List MemPlace} (hT:P.underlying T=some (.slice E)) (hE:P.cellsOf E=s)
  (hel:∀ fuel cs x,DataW.trod enc P W base spare held fuel E cs=some x->cs.length=s->∃ a,cs=en a) (h:DataW.trod enc P W base spare held fuel T [v]=some x) :
  ∃ (l:List α) (a:Option Addr) (cap:Nat),v=.slice a l.length cap/\Sl (hp W) en s (.slice a l.length cap) l:=by
 subst hE;rcases open_slice hT h with ⟨h0,_⟩ | ⟨a,len,cap,m,n,D,Pl,h0,_,hlc,hcm,hm,_,hx⟩
 ·simp only[List.cons.injEq,and_true]at h0;exact⟨[],none,0,h0,Sl.nil _ _ _⟩
 ·simp only[List.cons.injEq,and_true]at h0;have hlm:len<=m:=by rw[hm];split<;>omega
  have hch:∀ i,i<len->∃ y:α,Cells (hp W) (a.add (i*P.cellsOf E)) (en y):=λi hi=>by obtain⟨cs',h1,h2⟩:=hx i (by omega);obtain⟨hl,hc⟩:=cells_hp h1;obtain⟨y,rfl⟩:=hel _ _ _ h2 hl;exact⟨y,hc⟩
  have hl:∀ k,k<=len->∃ l:List α,l.length=k/\∀ i y,l[i]? = some y->Cells (hp W) (a.add (i*P.cellsOf E)) (en y):=by
   intro k;induction k with
   | zero=>exact λ_=>⟨[],rfl,λi y h=>by simp at h⟩
   | succ k ih=>
    intro hk;obtain⟨l,hl,hc⟩:=ih (by omega);obtain⟨y,hy⟩:=hch k (by omega);refine⟨l++[y],by simp[hl],λi z hz=>?_⟩;by_cases c:i<l.length
    ·rw[List.getElem?_append_left c]at hz;exact hc i z hz
    ·rw[List.getElem?_append_right (by omega)]at hz;have e:i=k:=by
      have:=(List.getElem?_eq_some_iff.1 hz).1
      simp at this;omega
     subst e;rw[hl]at hz;simp at hz;subst hz;exact hy
  obtain⟨l,hl,hc⟩:=hl len (Nat.le_refl _);subst hl;exact⟨l,some a,cap,h0,some a,cap,rfl,hlc,hcm,λ_=>rfl,λp hp i y hy=>by cases hp;exact hc i y hy⟩
theorem el_int {E:TypeId} {k:IntKind} (hE:P.underlying E=some (.int k)) {fuel:Nat} {cs:List Value} {x:DataW H×List MemPlace} (h:DataW.trod enc P W base spare held fuel E cs=some x):∃ z:Int,cs=[.int k z]/\(Lit.int k z).wf=true:=by obtain⟨n,h1,_,h3⟩:=DataW.trod_int hE h;exact⟨n,h1,h3⟩
end
section
variable {H:Type} {enc:TypeId×Value->H} {P:Program} {W W':World}
theorem law_liftL {laid:List (String×DataW Unit)} {C:Checked} {F:FuncId} {fn:Func} {tb:TypeId} {os:Os} {s:ChangeSpec} {conds:List PathCond} (hs:∀ ds:List (DataW H),ds.length=fn.params.size->s.fn H (ds++[]) = { results:=[.lit (.bool true)],args:=ds })
  (hvars:s.vars=[]) (hres:fn.resultTypes=#[tb]) (htb:C.prog.underlying tb=some .bool) (hl:laidOutB C.prog=true) (hts:(fn.params.toList.all λt=>C.prog.readableRec t && decide (t<C.prog.types.size))=true)
  (own:ownKnob C.prog.godebug=none) (started:os.Started) (noInit:C.prog.inits.idxOf? F=none) (hfn:C.prog.funcs[F]? = some fn)
  (witness:∃ (w:World) (tape:Tape) (i:Input),w.os=os/\(w.forCall tape i).Shaped C.prog/\i.vars=[]/\Input.okWide C.prog (w.forCall tape i) .any w.heap.size F i/\
   ((s.pre enc C.prog fn conds false (w.forCall tape i).memory i.args/\laidMetH C.prog laid (w.forCall tape i).memory)/\sizedMet enc C.prog fn (OpenSpec.ofChange s) false (w.forCall tape i).memory i.args)/\({} : Assume).holds C.prog (lone (Frame.enter C.prog F i.args .normal) [] (w.forCall tape i)))
  (walk:∀ (W:World) (base:Nat) (args:Array Value) (ds:List (DataW H)) (ps:List MemPlace),(∀ (j:Nat) t v,fn.params[j]? = some t->args[j]? = some v->Value.okWide C.prog W .any base t v)->
   DataW.TrodAll enc C.prog W 0 (λ_=>true) true fn.params.toList args.toList ds ps->∃ l:List Value,args=l.toArray/\Fnc C.prog F l (hp W) λv _=>v=.bool true) :
  ReturnsInHanded {} C os F .any (λw args=>(s.pre enc C.prog fn conds false w args/\laidMetH C.prog laid w)/\sizedMet enc C.prog fn (OpenSpec.ofChange s) false w args) (s.post enc C.prog fn false true false false):=by
 refine returnsInHanded_of_change_and (C:=C) (X:=λw _=>laidMetH C.prog laid w) (λ_ _ _ hh h=>h.of_heap hh) own started noInit hfn witness ?_;intro W base args ds gs before hval hW _ _ _ _;have hlt:=hW.lt;have hW':=hW;obtain⟨p,q,hA,hV,rfl,hfz,hnd⟩:=hW;rw[hvars]at hV;obtain⟨rfl,rfl⟩:=trodVars_none hV;obtain⟨l,rfl,hF⟩:=walk W base args ds p hval hA;refine(hF W (Le.refl _)).mono λe W' ⟨v,V',he,hb,_,_,_,hv⟩=>?_;subst hv;have hlen:ds.length=fn.params.size:=by
  have key:∀ (ts:List TypeId) (vs:List Value) (ds:List (DataW H)) (ps:List MemPlace),DataW.TrodAll enc C.prog W 0 (λ_=>true) true ts vs ds ps->ds.length=ts.length:=by
   intro ts;induction ts with
   | nil=>intro vs ds ps h;obtain⟨_,rfl,_⟩:=trodAll_nil h;rfl
   | cons t ts ih=>intro vs ds ps h;obtain⟨v,vs',d,ds',p,q,rfl,rfl,rfl,h0,h1⟩:=trodAll_cons h;simp[ih _ _ _ h1]
  simpa using key _ _ _ _ hA
 refine⟨_,he,ds,[],p++[],[],p,[],hW',?_,?_,?_,Below.frame hb _,λh=>by cases h⟩
 ·rw[hs ds hlen,hres];exact trodAll_mk1 (shut_bool htb true)
 ·rw[hs ds hlen];exact stays_all hl hb _ _ _ _ hts (λx hx=>hlt x (List.mem_append_left _ hx)) hA
 ·rw[hs ds hlen,hvars];exact rfl
end
end Go.Lw
namespace Go.Proofs.YtnffcfhdnjbdbaaGreatDoor
open Go
theorem pin_laid_unicode_utf8_first:Tryz.pinned.checked.prog.pinnedFits "unicode/utf8.first" = true:=by kernel_rfl
theorem noOwnUnsafe:Tryz.pinned.checked.prog.headLifts.contains "ownunsafe" = false:=by kernel_rfl
theorem fits1:Tryz.pinned.checked.prog.listedFits [("unicode/utf8.acceptRanges",Rows.laid_unicode_utf8_acceptRanges),("unicode/utf8.first",Rows.laid_unicode_utf8_first)]=true:=by
 unfold Program.listedFits;rw[noOwnUnsafe]
 kernel_rfl
end Go.Proofs.YtnffcfhdnjbdbaaGreatDoor
