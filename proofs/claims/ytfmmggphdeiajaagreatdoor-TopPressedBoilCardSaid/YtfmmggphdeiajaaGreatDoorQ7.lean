/- Texts that the last one of this claim imports. -/
import Derived.Laws.IdiomStrings
import Derived.Laws.AppendOwn
import Derived.Test.YtfmmggphdeiajaaGreatDoorQ1
import Derived.Test.YtfmmggphdeiajaaGreatDoorQ6
set_option linter.unusedVariables false
set_option linter.unusedSimpArgs false
set_option linter.unusedSectionVars false
section
set_option linter.unusedVariables false
namespace Go.Proofs.YtfmmggphdeiajaaGreatDoor
open Go.Lw Go.Cu Go.RowKit
theorem key355:KeyL Tryz.prog 358 smv where
 eq a b w:=by
  have:=(eqS358 a.p a.m b.p b.m).2 w
  have e:decide (a=b)=decide (a.p=b.p∧a.m=b.m):=by
   cases a; cases b; simp
  rw[e]; exact this
 ck e a w:=by
  have u3:=Tryz.underlying2
  have a3:=Tryz.isAgg2
  have z3:=Tryz.sizeOf2
  have ci:∀ (x:Int) (w:World),(Instr.checkKey e 9999 2 (.int .i64 x)).run Tryz.prog w=.ok () w:=fun x w=>by
   rw[show(9999:Nat)=9998+1 from rfl,Instr.checkKey]
   simp[run_underlying u3,Sem.run_bind,Result.andThen_ok,Sem.run_pure]
  rw[show(10000:Nat)=9999+1 from rfl,Instr.checkKey]
  simp only[Sem.run_bind,run_underlying Tryz.underlying358,Result.andThen_ok]
  rw[←Array.forIn_toList]
  simp only[List.forIn_cons,List.forIn_nil,Sem.run_bind,Sem.run_pure,Result.andThen_ok]
  generalize (9999:Nat)=q at ci⊢
  go_simp
 sb a:=by simp[Instr.sameBits]
 now:=⟨_,Tryz.underlying358,.inl fun a b=>rfl⟩
set_option maxHeartbeats 1600000 in
theorem sheets_f (x lo hi:Int) (S:List Sm) (a:Option Addr) (c:Nat) (b:Nat) (hx : -100≤x∧x≤100) (hlo:0≤lo∧lo≤50) (hhi:0≤hi∧hi≤50) (hS:∀ s∈S,good s) (hn:1≤S.length∧S.length≤7) (V:View)
  (h0:Cells V ⟨b,0,none⟩ [.slice a S.length c]) (h1:Cells V ⟨b,1,none⟩ [iv lo]) (h2:Cells V ⟨b,2,none⟩ [iv hi]) (hs:Sl V sme 2 (.slice a S.length c) S) :
  Fnc Tryz.prog 342 [.pointer (some ⟨b,0,none⟩),iv x] V fun r V'=>∃ m,r=.map (some m)∧V m=none∧V' m=some (qV smv smv (shM x lo hi (mostS ((S.length:Int)-1-(S.length:Int) / 2) lo S)) (MS x lo hi (endK x)).2):=by
 refine zS Tryz.func342 rfl Tryz.ntmps342 (Nat.le_of_ble_eq_true rfl) ?_
 intro w0 hw0
 refine At.nrm ?_
 refine At.zh (.q 0 .done) ?_
 refine AtT.zf ?_
 refine AtT.done ?_
 refine At.nrm ?_
 refine At.nrm ?_
 refine At.zh (.n false 0 (.q 1 .done)) ?_
 refine AtT.makeMap rfl trivial smv smv (by decide) ?_
 intro b15
 refine AtT.zf ?_
 refine AtT.done ?_
 refine At.nrm ?_
 refine At.zh (.q 0 .done) ?_
 refine AtT.zf ?_
 refine AtT.done ?_
 refine At.nrmB ?_
 refine At.cutG (ι:=Unit) (fun _=>[(0,.pointer (some ⟨b,0,none⟩)),(1,iv x),(5,.map (some b15))]) (fun _=>[.blk b15 (qV smv smv (MS x lo hi (endK x)).1 (MS x lo hi (endK x)).2)]) (fun _ V'=>V=V') ?_ ?_
 ·refine At.nrm ?_
  refine At.lp (ι:=Nat) (KS:=fun j=>[(0,.pointer (some ⟨b,0,none⟩)),(1,iv x),(5,.map (some b15)),(6,iv ((j:Int)-10))]) (OS:=fun j=>[.blk b15 (qV smv smv (MS x lo hi (101*j)).1 (MS x lo hi (101*j)).2)])
   (VS:=fun j V'=>V=V'∧j≤21∧(j=0∨x≠0)) (μ:=fun j=>21-j) 0 ?_ ?_ ?_ ?_
  ·exact⟨rfl,rfl,rfl,rfl,trivial⟩
  ·exact Pt.zx
  ·exact⟨rfl,by decide,.inl rfl⟩
  rintro j V' ks' O' ⟨rfl,hj,hjx⟩ hk hO hl
  subst hk hO
  refine At.nrm ?_
  refine At.zh (.q 0 (.q 1 .done)) ?_
  refine AtT.ze ?_
  refine AtT.kleq ?_
  refine AtT.done ?_
  refine At.nrm ?_
  refine At.zZ rfl (fun hp=>?_) (fun hp=>?_)
  ·refine At.nrm ?_
   refine At.zh (.q 0 .done) ?_
   refine AtT.zf ?_
   refine AtT.done ?_
   refine At.nrm ?_
   refine At.lp (ι:=Nat) (KS:=fun i=>[(0,.pointer (some ⟨b,0,none⟩)),(1,iv x),(5,.map (some b15)),(6,iv ((j:Int)-10)),(7,iv i)]) (OS:=fun i=>[.blk b15 (qV smv smv (MS x lo hi (101*j+i)).1 (MS x lo hi (101*j+i)).2)])
    (VS:=fun i V''=>V=V''∧i≤101∧((i=0∧j=0)∨x≠0)) (μ:=fun i=>101-i) 0 ?_ ?_ ?_ ?_
   ·exact⟨rfl,rfl,rfl,rfl,rfl,trivial⟩
   ·exact Pt.zx
   ·exact⟨rfl,by decide,by omega⟩
   rintro i V'' ks' O' ⟨rfl,hi1,hix⟩ hk hO hl2
   subst hk hO
   refine At.nrm ?_
   refine At.zh (.q 0 (.q 1 .done)) ?_
   refine AtT.ze ?_
   refine AtT.kleq ?_
   refine AtT.done ?_
   refine At.nrm ?_
   refine At.zZ rfl (fun hp2=>?_) (fun hp2=>?_)
   ·have f1:=mul_bd (a:=x) (b:=(i:Int)) (A:=100) (B:=100) (by omega) (by omega) (by omega) (by omega)
    have f2:=mul_bd (a:=x) (b:=(j:Int)-10) (A:=100) (B:=10) (by omega) (by omega) (by omega) (by omega)
    have f3:=mul_bd (a:=(j:Int)-10) (b:=lo) (A:=10) (B:=50) (by omega) (by omega) (by omega) (by omega)
    have f4:=mul_bd (a:=x) (b:=(i:Int)+((j:Int)-10)*lo) (A:=100) (B:=600) (by omega) (by omega) (by omega) (by omega)
    have ek:kD x lo hi (kP (101*j+i)) (kM (101*j+i))=kD x lo hi i ((j:Int)-10):=by
     unfold kP kM
     rw[show(101*j+i) % 101=i by omega,show(101*j+i) / 101=j by omega]
    have ep:kP (101*j+i)=i:=by unfold kP; rw[show(101*j+i) % 101=i by omega]
    have em:kM (101*j+i)=(j:Int)-10:=by unfold kM; rw[show(101*j+i) / 101=j by omega]
    refine At.nrm ?_
    refine At.zh (.q 0 (.q 1 (.q 2 (.q 3 (.q 4 (.q 5 (.q 6 (.n false 7 (.n true 8 .done))))))))) ?_
    refine AtT.ze ?_
    refine AtT.ze ?_
    first | refine AtT.kmul ?_ | refine AtT.kmulW ?_
    refine AtT.ze ?_
    refine AtT.ze ?_
    first | refine AtT.kmul ?_ | refine AtT.kmulW ?_
    refine AtT.jk (bd358_0_1 _ _) ?_
    refine AtT.qE z358 ?_
    intro b8
    refine AtT.qc tk358 ?_
    refine AtT.done ?_
    refine At.nrm ?_
    refine At.draw (.q 0 (.q 1 (.q 2 (.q 3 (.q 4 (.q 5 (.q 6 (.q 7 (.q 8 (.q 9 (.q 10 (.q 11 (.q 12 .done))))))))))))) ffm (by kernel_rfl) ?_
    refine AtT.ze ?_
    refine AtT.jI ?_
    first | refine AtT.zm qN ?_ | with_reducible refine AtT.zn qN ?_ | refine AtT.zq qN ?_
    first | refine AtT.zm kr ?_ | with_reducible refine AtT.zn kr ?_ | refine AtT.zq kr ?_
    first | refine AtT.zm ku ?_ | with_reducible refine AtT.zn ku ?_ | refine AtT.zq ku ?_
    first | refine AtT.zk tk2 ?_ | refine AtT.zo tk2 ?_
    refine AtT.ze ?_
    refine AtT.jI ?_
    first | refine AtT.zm qN ?_ | with_reducible refine AtT.zn qN ?_ | refine AtT.zq qN ?_
    first | refine AtT.zm kr ?_ | with_reducible refine AtT.zn kr ?_ | refine AtT.zq kr ?_
    first | refine AtT.zm fo224_1 ?_ | with_reducible refine AtT.zn fo224_1 ?_ | refine AtT.zq fo224_1 ?_
    first | refine AtT.zk tk2 ?_ | refine AtT.zo tk2 ?_
    refine AtT.jR ?_
    refine AtT.done ?_
    refine At.nrmB ?_
    refine At.cutG (ι:=Unit) (fun _=>[(0,.pointer (some ⟨b,0,none⟩)),(1,iv x),(5,.map (some b15)),(6,iv ((j:Int)-10)),(7,iv i),(8,.pointer (some ⟨b8,0,none⟩))])
     (fun _=>[.blk b15 (qV smv smv (MS x lo hi (101*j+i)).1 (MS x lo hi (101*j+i)).2),.blk b8 (LC (sme (kD x lo hi i ((j:Int)-10))) 358)]) (fun _ V2=>V=V2) ?_ ?_
    ·refine At.zZ rfl (fun hp3=>?_) (fun hp3=>?_)
     ·have e1:kD x lo hi i ((j:Int)-10)=⟨x*(i+((j:Int)-10)*lo),0⟩:=by unfold kD; rw[if_pos hp3]
      rw[e1]
      refine At.nrm ?_
      refine At.zh (.q 0 (.q 1 (.q 2 (.q 3 (.q 4 (.q 5 (.q 6 (.q 7 (.q 8 (.q 9 (.q 10 (.q 11 (.q 12 (.n true 13 .done)))))))))))))) ?_
      refine AtT.ze ?_
      refine AtT.ze ?_
      refine AtT.ze ?_
      refine AtT.ze ?_
      refine AtT.jI ?_
      first | refine AtT.zm qN ?_ | with_reducible refine AtT.zn qN ?_ | refine AtT.zq qN ?_
      first | refine AtT.zm kr ?_ | with_reducible refine AtT.zn kr ?_ | refine AtT.zq kr ?_
      first | refine AtT.zm ku ?_ | with_reducible refine AtT.zn ku ?_ | refine AtT.zq ku ?_
      first | refine AtT.zk tk2 ?_ | refine AtT.zo tk2 ?_
      first | refine AtT.kmul ?_ | refine AtT.kmulW ?_
      first | refine AtT.qm ?_ | refine AtT.zR ?_
      first | refine AtT.kmul ?_ | refine AtT.kmulW ?_
      refine AtT.jk (bd358_0_1 _ _) ?_
      refine AtT.qc tk358 ?_
      refine AtT.done ?_
      refine At.nrm ?_
      refine At.kH () rfl ⟨rfl,rfl,rfl,rfl,rfl,rfl,trivial⟩ ?_
      ·exact Pt.zx
     ·have e1:kD x lo hi i ((j:Int)-10)=⟨x*i,x*((j:Int)-10)⟩:=by unfold kD; rw[if_neg hp3]
      rw[e1]
      refine At.nrm ?_
      refine At.kH () rfl ⟨rfl,rfl,rfl,rfl,rfl,rfl,trivial⟩ ?_
      ·exact Pt.zx
    rintro _ _ ks' O' rfl hk hO hl3
    subst hk hO
    refine At.nrm ?_
    refine At.zh (.q 0 (.q 1 (.q 2 (.q 3 (.q 4 (.n true 5 .done)))))) ?_
    refine AtT.ze ?_
    first | refine AtT.zB tk358 ?_ | refine AtT.zM tk358 ?_ | refine AtT.zA tk358 ?_
    refine AtT.ze ?_
    refine AtT.ze ?_
    refine AtT.jk (bd237_0_1 _ _) ?_
    refine AtT.mapSet rfl trivial key355 (kD x lo hi i ((j:Int)-10)) (⟨(i:Int),(j:Int)-10⟩:Sm) Tryz.underlying364 rfl rfl rfl (by repeat first|exact Upd.here|apply Upd.there) ?_
    refine AtT.done ?_
    refine At.nrm ?_
    refine At.nrm ?_
    refine At.zh (.q 0 (.q 1 .done)) ?_
    refine AtT.ze ?_
    refine AtT.jR ?_
    refine AtT.done ?_
    refine At.nrm ?_
    have eM:MS x lo hi (101*j+i+1)=mput (kD x lo hi i ((j:Int)-10)) (⟨(i:Int),(j:Int)-10⟩:Sm) (MS x lo hi (101*j+i)).1 (MS x lo hi (101*j+i)).2:=by
     show mput (kD x lo hi (kP (101*j+i)) (kM (101*j+i))) (⟨kP (101*j+i),kM (101*j+i)⟩:Sm) _ _=_
     rw[ek,ep,em]
    rw[←eM]
    refine At.zZ rfl (fun hp3=>?_) (fun hp3=>?_)
    ·have he:endK x=101*j+i+1:=by unfold endK; rw[if_pos hp3]; omega
     refine At.nrm ?_
     refine At.kH () rfl ⟨rfl,rfl,rfl,trivial⟩ ?_
     rw[he]
     ·exact Pt.zx
    ·refine At.nrm ?_
     refine At.zh (.q 0 (.q 1 (.q 2 .done))) ?_
     refine AtT.ze ?_
     first | refine AtT.qm ?_ | refine AtT.zR ?_
     refine AtT.zf ?_
     refine AtT.done ?_
     refine At.nrm ?_
     refine At.round (i+1) ?_ ?_ ?_ ?_
     ·show 101-(i+1)<101-i; omega
     ·exact⟨rfl,by omega,.inr hp3⟩
     ·exact⟨rfl,rfl,rfl,rfl,by congr 2,trivial⟩
     ·exact Pt.zx
   ·obtain rfl:i=101:=by omega
    have hx0:x≠0:=by omega
    refine At.nrm ?_
    refine At.zh (.q 0 (.q 1 (.q 2 .done))) ?_
    refine AtT.ze ?_
    first | refine AtT.qm ?_ | refine AtT.zR ?_
    refine AtT.zf ?_
    refine AtT.done ?_
    refine At.nrm ?_
    refine At.round (j+1) ?_ ?_ ?_ ?_
    ·show 21-(j+1)<21-j; omega
    ·exact⟨rfl,by omega,.inr hx0⟩
    ·exact⟨rfl,rfl,rfl,ivs (by omega),trivial⟩
    rw[show 101*(j+1)=101*j+101 by omega]
    ·exact Pt.zx
  ·obtain rfl:j=21:=by omega
   have hx0:x≠0:=by omega
   have he:endK x=101*21:=by unfold endK; rw[if_neg hx0]
   refine At.nrm ?_
   refine At.kH () rfl ⟨rfl,rfl,rfl,trivial⟩ ?_
   rw[he]
   ·exact Pt.zx
 obtain⟨far,hfar⟩:∃ far,far=(S.length:Int)-1-(S.length:Int) / 2:=⟨_,rfl⟩
 have hfb:0≤far∧far≤3:=by omega
 have hmx:∀ s∈S, -600≤atS lo s∧atS lo s≤600∧-500≤s.m*lo∧s.m*lo≤500∧0≤mxS lo s∧mxS lo s≤600∧0≤far*mxS lo s∧far*mxS lo s≤1800:=fun s hs=>by
  obtain⟨q1,q2,q3,q4⟩:=hS s hs
  have f1:=mul_bd (a:=s.m) (b:=lo) (A:=10) (B:=50) (by omega) (by omega) (by omega) (by omega)
  have f2 : -600≤atS lo s∧atS lo s≤600:=by unfold atS; omega
  have f3:0≤mxS lo s∧mxS lo s≤600:=by unfold mxS; omega
  have f4:=mul_bd (a:=far) (b:=mxS lo s) (A:=3) (B:=600) (by omega) (by omega) (by omega) (by omega)
  have f5:=Int.mul_nonneg hfb.1 f3.1
  omega
 have hmb:∀ k,k≤S.length→0≤mostA far lo S k∧mostA far lo S k≤1800*k:=fun k=>by
  induction k with
  | zero=>intro _; simp[mostA,mostS]
  | succ k ih=>
   intro hk
   have:=ih (by omega)
   have hk':k<S.length:=by omega
   have:=hmx S[k] (List.getElem_mem hk')
   unfold mostA at *
   rw[List.take_succ_eq_append_getElem hk',mostS_app]
   omega
 rw[←hfar]
 rintro _ V3 ks' O' rfl hk hO hl
 subst hk hO
 refine At.nrm ?_
 refine At.zh (.q 0 (.q 1 (.q 2 (.q 3 (.q 4 (.q 5 (.q 6 (.q 7 (.n false 8 (.q 9 .done)))))))))) ?_
 refine AtT.ze ?_
 refine AtT.ze ?_
 refine AtT.jI ?_
 first | refine AtT.zm qN ?_ | with_reducible refine AtT.zn qN ?_ | refine AtT.zq qN ?_
 first | refine AtT.zm fo226_0 ?_ | with_reducible refine AtT.zn fo226_0 ?_ | refine AtT.zq fo226_0 ?_
 first | refine AtT.zk tk222 ?_ | refine AtT.zo tk222 ?_
 first | refine AtT.zK Tryz.underlying222 ?_ | refine AtT.zL Tryz.underlying222 ?_
 first | refine AtT.ksubt ?_ | refine AtT.ksubW ?_
 refine AtT.zJ rfl rfl ok340 (place_f ((S.length:Int)-1) S.length c a b (by omega) (by omega) _ h0) ?_
 rintro _ rfl; rw[←hfar]
 refine AtT.zf ?_
 refine AtT.done ?_
 refine At.nrm ?_
 refine At.zh (.q 0 .done) ?_
 refine AtT.zf ?_
 refine AtT.done ?_
 refine At.nrm ?_
 refine At.zh (.q 0 (.q 1 (.q 2 (.q 3 (.q 4 (.q 5 (.q 6 .done))))))) ?_
 refine AtT.ze ?_
 refine AtT.jI ?_
 first | refine AtT.zm qN ?_ | with_reducible refine AtT.zn qN ?_ | refine AtT.zq qN ?_
 first | refine AtT.zm fo226_0 ?_ | with_reducible refine AtT.zn fo226_0 ?_ | refine AtT.zq fo226_0 ?_
 first | refine AtT.zk tk222 ?_ | refine AtT.zo tk222 ?_
 first | refine AtT.zK Tryz.underlying222 ?_ | refine AtT.zL Tryz.underlying222 ?_
 refine AtT.ze ?_
 refine AtT.done ?_
 refine At.nrmB ?_
 refine At.cutG (ι:=Unit) (fun _=>[(0,.pointer (some ⟨b,0,none⟩)),(5,.map (some b15)),(10,iv (mostS far lo S))]) (fun _=>[.blk b15 (qV smv smv (MS x lo hi (endK x)).1 (MS x lo hi (endK x)).2)]) (fun _ V2=>V=V2) ?_ ?_
 ·have e0:mostA far lo S 0=0:=rfl
  refine At.nrm ?_
  refine At.lp (ι:=Nat) (KS:=fun k=>[(0,.pointer (some ⟨b,0,none⟩)),(5,.map (some b15)),(9,iv far),(10,iv (mostA far lo S k)),(77,.slice a S.length c),(78,iv S.length),(79,iv k)]) (OS:=fun _=>[.blk b15 (qV smv smv (MS x lo hi (endK x)).1 (MS x lo hi (endK x)).2)])
   (VS:=fun k V'=>V=V'∧k≤S.length) (μ:=fun k=>S.length-k) 0 ?_ ?_ ?_ ?_
  ·exact⟨rfl,rfl,rfl,rfl,rfl,rfl,rfl,trivial⟩
  ·exact Pt.zx
  ·exact⟨rfl,Nat.zero_le _⟩
  rintro k V' ks' O' ⟨rfl,hk1⟩ hk hO hl3
  subst hk hO
  refine At.nrm ?_
  refine At.zh (.q 0 .done) ?_
  refine AtT.qg ?_
  refine AtT.done ?_
  refine At.nrm ?_
  refine At.zZ rfl (fun hp=>?_) (fun hp=>?_)
  ·have hkl:k<S.length:=by omega
   have hb1:=hmb k hk1
   have hb2:=hmb (k+1) hkl
   refine At.nrm ?_
   refine At.zh (.q 0 (.q 1 (.n false 2 (.n true 3 .done)))) ?_
   refine AtT.zU Tryz.underlying222 tk237 ?_
   intro p81 e81 he81 hc81
   first | refine AtT.zB tk237 ?_ | refine AtT.zM tk237 ?_ | refine AtT.zA tk237 ?_
   refine AtT.qE z237 ?_
   intro b12
   refine AtT.qc tk237 ?_
   refine AtT.done ?_
   refine At.nrm ?_
   have hee:S[k]? = some e81:=by simpa using he81
   have hm:=hmx e81 (List.mem_of_getElem? hee)
   have hg:=hS e81 (List.mem_of_getElem? hee)
   unfold good at hg
   unfold atS at hm
   have hSk:S[k]=e81:=by rw[List.getElem?_eq_getElem hkl]at hee; simpa using hee
   have eA:mostA far lo S (k+1)=mostA far lo S k+far*mxS lo e81:=by unfold mostA; rw[List.take_succ_eq_append_getElem hkl,mostS_app,hSk]
   have eX:mxS lo e81=max (max e81.p (e81.p+e81.m*lo)) (-(e81.p+e81.m*lo)):=rfl
   rw[eX]at hm eA
   refine At.draw (.q 0 (.q 1 (.q 2 (.q 3 (.q 4 (.q 5 (.q 6 (.q 7 (.q 8 (.q 9 (.q 10 (.q 11 (.q 12 .done))))))))))))) ffm (by kernel_rfl) ?_
   first | refine AtT.zm fo237_0 ?_ | with_reducible refine AtT.zn fo237_0 ?_ | refine AtT.zq fo237_0 ?_
   first | refine AtT.zk tk2 ?_ | refine AtT.zo tk2 ?_
   first | refine AtT.zm fo237_1 ?_ | with_reducible refine AtT.zn fo237_1 ?_ | refine AtT.zq fo237_1 ?_
   first | refine AtT.zk tk2 ?_ | refine AtT.zo tk2 ?_
   refine AtT.ze ?_
   refine AtT.jI ?_
   first | refine AtT.zm qN ?_ | with_reducible refine AtT.zn qN ?_ | refine AtT.zq qN ?_
   first | refine AtT.zm kr ?_ | with_reducible refine AtT.zn kr ?_ | refine AtT.zq kr ?_
   first | refine AtT.zm ku ?_ | with_reducible refine AtT.zn ku ?_ | refine AtT.zq ku ?_
   first | refine AtT.zk tk2 ?_ | refine AtT.zo tk2 ?_
   first | refine AtT.kmul ?_ | refine AtT.kmulW ?_
   first | refine AtT.qm ?_ | refine AtT.zR ?_
   refine AtT.zf ?_
   refine AtT.done ?_
   refine At.nrm ?_
   refine At.zh (.q 0 (.q 1 (.q 2 (.q 3 (.q 4 (.q 5 (.q 6 (.q 7 (.q 8 (.q 9 (.q 10 .done))))))))))) ?_
   refine AtT.ze ?_
   refine AtT.ze ?_
   first | refine AtT.zm fo237_0 ?_ | with_reducible refine AtT.zn fo237_0 ?_ | refine AtT.zq fo237_0 ?_
   first | refine AtT.zk tk2 ?_ | refine AtT.zo tk2 ?_
   refine AtT.ze ?_
   refine AtT.ze ?_
   first | refine AtT.kneg ?_ | refine AtT.knegW ?_
   refine AtT.max3 rfl trivial rfl rfl rfl (by decide) ?_
   first | refine AtT.kmul ?_ | refine AtT.kmulW ?_
   first | refine AtT.qm ?_ | refine AtT.zR ?_
   refine AtT.zf ?_
   refine AtT.done ?_
   refine At.nrm ?_
   refine At.nrm ?_
   refine At.zh (.q 0 (.q 1 .done)) ?_
   first | refine AtT.qm ?_ | refine AtT.zR ?_
   refine AtT.ze ?_
   refine AtT.done ?_
   refine At.nrm ?_
   refine At.round (k+1) ?_ ?_ ?_ ?_
   ·show S.length-(k+1)<S.length-k; omega
   ·exact⟨rfl,hkl⟩
   ·exact⟨rfl,rfl,rfl,ivs eA.symm,rfl,rfl,by congr 2,trivial⟩
   ·exact Pt.zx
  ·obtain rfl:k=S.length:=by omega
   have eA:mostA far lo S S.length=mostS far lo S:=by unfold mostA; rw[List.take_length]
   refine At.nrm ?_
   refine At.kH () rfl ⟨rfl,rfl,ivs eA,trivial⟩ ?_
   ·exact Pt.zx
 rintro _ V4 ks' O' rfl hk hO hl
 subst hk hO
 obtain⟨M,hM⟩:∃ M,M=(MS x lo hi (endK x)).1:=⟨_,rfl⟩
 obtain⟨cM,hcM⟩:∃ c,c=(MS x lo hi (endK x)).2:=⟨_,rfl⟩
 obtain⟨q,hq⟩:∃ q,q=mostS far lo S:=⟨_,rfl⟩
 have hok:MOk M cM:=by rw[hM,hcM]; exact MS_ok _ _ _ _
 have hq2:0≤q∧q≤20000:=by
  have:=hmb S.length (Nat.le_refl _)
  unfold mostA at this
  rw[List.take_length,←hq]at this
  omega
 have hsh:shM x lo hi q=M.filter (inS q):=by unfold shM; rw[hM]
 rw[←hM,←hcM,←hq]
 rw[hsh]
 refine At.nrm ?_
 refine At.zh (.q 0 (.n false 1 .done)) ?_
 refine AtT.ze ?_
 refine AtT.range rfl trivial Tryz.underlying364 rfl zN.zx (by decide) ?_
 intro b107
 refine AtT.done ?_
 refine At.nrm ?_
 refine At.lp (ι:=Array Nat) (KS:=fun _=>[(5,.map (some b15)),(10,iv q),(107,.pointer (some ⟨b107,0,none⟩))])
  (OS:=fun seen=>[.blk b107 (.mapIter (some b15) cM seen cM),.blk b15 (qV smv smv (left (inS q) M seen) cM)])
  (VS:=fun _ V'=>Le V V') (μ:=fun seen=>(M.filter fun e=>!seen.contains e.2.2).length) #[] ?_ ?_ ?_ ?_
 ·exact⟨rfl,rfl,rfl,trivial⟩
 ·rw[left_nil]
  ·exact Pt.zx
 ·exact Le.refl _
 rintro seen V5 ks' O' hV5 hk hO hl3
 subst hk hO
 have hsub:∀ e∈left (inS q) M seen,e∈M:=fun e he=>(List.mem_filter.1 he).1
 refine At.nrm ?_
 refine At.zh (.n true 0 (.q 1 .done)) ?_
 all_goals (refine AtT.next rfl trivial rfl zN.zx zN.zx (fun e he=>hok.lt e (hsub e he)) (Nat.le_refl _) (by decide) (fun hall=>?_) (fun e he hns=>?_))
 all_goals (refine AtT.zI ?_)
 all_goals refine AtT.done ?_
 all_goals (refine At.nrm ?_)
 ·refine At.qf rfl rfl ?_
  rw[left_end hall]
  refine At.nrm ?_
  refine At.zh (.q 0 (.q 1 .done)) ?_
  refine AtT.ze ?_
  refine AtT.zf ?_
  refine AtT.done ?_
  refine At.nrm ?_
  refine At.giveM (b:=b15) zN.zx (fun V6 hV6 hb15 hn15=>?_)
  refine At.zT rfl (.tmp rfl) ⟨b15,rfl,?_,hb15⟩
  cases h:V b15 with
  | none=>rfl
  | some o=>rw[hV5 _ _ h]at hn15; cases hn15
 ·refine At.qK rfl rfl ?_
  have heM:=hsub e he
  have hun:=jN heM hns
  have hnd2:((left (inS q) M seen).map (·.2.2)).Nodup:=hok.borns.sublist (List.filter_sublist.map _)
  refine At.nrm ?_
  refine At.zh (.n false 0 (.q 1 (.n false 2 (.n true 3 .done)))) ?_
  refine AtT.entry rfl trivial rfl zN.zx zN.zx he hnd2 (by decide) ?_
  refine AtT.zI ?_
  refine AtT.qE z358 ?_
  intro b14
  refine AtT.qc tk358 ?_
  refine AtT.done ?_
  refine At.nrm ?_
  refine At.nrm ?_
  refine At.zh (.q 0 (.q 1 (.q 2 (.q 3 (.q 4 (.n false 5 (.n false 6 (.q 7 .done)))))))) ?_
  refine AtT.ze ?_
  first | refine AtT.kneg ?_ | refine AtT.knegW ?_
  refine AtT.ze ?_
  first | refine AtT.zm fo358_0 ?_ | with_reducible refine AtT.zn fo358_0 ?_ | refine AtT.zq fo358_0 ?_
  first | refine AtT.zk tk2 ?_ | refine AtT.zo tk2 ?_
  refine AtT.qi (bs113_1_0 _) ?_
  intro q117 V117 hV117 hq117
  have g117:Le V V117:=by first | exact hV117 | exact Le.trans (by assumption) hV117
  refine AtT.zJ rfl rfl ok257 (cwithin_f (-q) q e.1.p _ _ (Sl.lit hq117 rfl (by simp))) ?_
  rintro _ rfl
  refine AtT.knot ?_
  refine AtT.done ?_
  refine At.nrm ?_
  refine At.cond rfl (fun hm=>?_) (fun hm=>?_)
  ·have hg:inS q e=false:=by have h:(!inS q e)=true:=hm; simpa using h
   have hdel:=left_del (g:=inS q) (seen:=seen) hok.borns hok.keys heM hg
   refine At.nrm ?_
   refine At.zh (.q 0 (.q 1 (.n true 2 .done))) ?_
   refine AtT.ze ?_
   first | refine AtT.zB tk358 ?_ | refine AtT.zM tk358 ?_ | refine AtT.zA tk358 ?_
   refine AtT.mapDel rfl trivial key355 e.1 smv rfl Tryz.underlying364 rfl rfl (by repeat first|exact Upd.here|apply Upd.there) ?_
   refine AtT.done ?_
   refine At.nrm ?_
   refine At.round (seen.push e.2.2) hun (hV5.trans hV117) ⟨rfl,rfl,rfl,trivial⟩ ?_
   rw[hdel]
   ·exact Pt.zx
  ·have hg:inS q e=true:=by have h:(!inS q e)=false:=hm; simpa using h
   have hkeep:=left_keep (g:=inS q) (seen:=seen) hok.borns heM hg
   refine At.nrm ?_
   refine At.round (seen.push e.2.2) hun (hV5.trans hV117) ⟨rfl,rfl,rfl,trivial⟩ ?_
   rw[hkeep]
   ·exact Pt.zx
end Go.Proofs.YtfmmggphdeiajaaGreatDoor
end
section
set_option linter.unusedVariables false
set_option linter.unusedSimpArgs false
namespace Go.St
open Go.Lw Go.Cu
abbrev Ent:=Int×List (List Sm)
def gtE:List Ent→Nat→Ent
 | [],_=>(0,[])
 | e::_,0=>e
 | _::T,j+1=>gtE T j
def valW (T:List Ent) (h:Nat) (e:Sm×Int):Int:=(gtE T (h-e.1.p.toNat)).1+e.2
def endW (M:List (Sm×Int)) (h:Nat):List (Sm×Int):=M.filter fun e=>decide (e.1.m=(h:Int))
def mxI (a:Int) (l:List Int):Int:=l.foldl max a
def stepS (M:List (Sm×Int)) (T:List Ent) (h:Nat):Ent:=
 if mxI (gtE T 0).1 ((endW M h).map (valW T h))=(gtE T 0).1 then gtE T 0
 else (mxI (gtE T 0).1 ((endW M h).map (valW T h)),((endW M h).filter fun e=>decide (valW T h e=mxI (gtE T 0).1 ((endW M h).map (valW T h)))).flatMap fun e=>(gtE T (h-e.1.p.toNat)).2.map fun S=>S++[e.1])
def tabR (M:List (Sm×Int)):Nat→List Ent
 | 0=>[(0,[[]])]
 | h+1=>stepS M (tabR M h) h::tabR M h
def entM (M:List (Sm×Int)) (j:Nat):Ent:=gtE (tabR M j) 0
theorem ent_at (M:List (Sm×Int)) {j:Nat} : ∀ {h:Nat},j≤h→gtE (tabR M h) (h-j)=entM M j
 | 0,hj=>by
   obtain rfl:j=0:=by omega
   rfl
 | h+1,hj=>by
  by_cases c:j=h+1
  ·subst c; rw[Nat.sub_self]; rfl
  ·rw[show h+1-j=(h-j)+1 by omega]
   exact ent_at M (by omega)
theorem ent_new (M:List (Sm×Int)) (h:Nat):entM M (h+1)=stepS M (tabR M h) h:=rfl
theorem mxI_ge (a:Int):∀ l:List Int,a≤mxI a l∧(∀ x∈l,x≤mxI a l)∧(mxI a l=a∨mxI a l∈l):=by
 intro l
 induction l generalizing a with
 | nil=>exact⟨Int.le_refl _,fun x hx=>by(cases hx),.inl rfl⟩
 | cons y l ih=>
  obtain⟨h1,h2,h3⟩:=ih (max a y)
  show a≤mxI (max a y) l∧(∀ x∈y::l,x≤mxI (max a y) l)∧(mxI (max a y) l=a∨mxI (max a y) l∈y::l)
  refine⟨by omega,fun x hx=>?_,?_⟩
  ·rcases List.mem_cons.1 hx with rfl | hx
   ·omega
   ·exact h2 x hx
  ·rcases h3 with h3 | h3
   ·rcases(show max a y=a∨max a y=y by omega)with h | h
    ·exact .inl (h3.trans h)
    ·exact .inr (by rw[h3,h]; exact List.mem_cons_self)
   ·exact .inr (List.mem_cons_of_mem _ h3)
structure Ch where
 a:Option Addr
 n:Nat
 c:Nat
 k:Int
abbrev Ch.v (x:Ch):Value:=.slice x.a x.n x.c
def bst (out:Ch):List Ch→Ch
 | []=>out
 | x::l=>bst (if out.k<x.k then x else out) l
theorem bst_app (x:Ch):∀ (l:List Ch) (out:Ch),bst out (l++[x])=if (bst out l).k<x.k then x else bst out l
 | [],out=>rfl
 | y::l,out=>bst_app x l _
theorem bst_spec:∀ (l:List Ch) (out:Ch),out.k≤(bst out l).k∧(∀ x∈l,x.k≤(bst out l).k)∧((bst out l=out)∨(bst out l∈l∧out.k<(bst out l).k))
 | [],out=>⟨Int.le_refl _,fun x hx=>by(cases hx),.inl rfl⟩
 | y::l,out=>by
  simp only[bst]
  by_cases c:out.k<y.k
  ·rw[if_pos c]
   obtain⟨h1,h2,h3⟩:=bst_spec l y
   refine⟨by omega,fun x hx=>?_,.inr ⟨?_,by omega⟩⟩
   ·rcases List.mem_cons.1 hx with rfl | hx
    ·exact h1
    ·exact h2 x hx
   ·rcases h3 with h3 | h3
    ·rw[h3]; exact List.mem_cons_self
    ·exact List.mem_cons_of_mem _ h3.1
  ·rw[if_neg c]
   obtain⟨h1,h2,h3⟩:=bst_spec l out
   refine⟨h1,fun x hx=>?_,?_⟩
   ·rcases List.mem_cons.1 hx with rfl | hx
    ·omega
    ·exact h2 x hx
   ·rcases h3 with h3 | h3
    ·exact .inl h3
    ·exact .inr ⟨List.mem_cons_of_mem _ h3.1,h3.2⟩
theorem step_ok {M:List (Sm×Int)} {h:Nat} {Rw:Value→List Sm→Prop} {c0:Ch} {xs:List Ch} (hM:∀ e∈M,e.1.p≤e.1.m)
  (h0:c0.k=(entM M h).1) (h0S:∃ S∈(entM M h).2,Rw c0.v S)
  (h1:∀ x∈xs,∃ e∈M,e.1.m=(h:Int)∧x.k=(entM M e.1.p.toNat).1+e.2∧∃ S∈(entM M e.1.p.toNat).2,Rw x.v (S++[e.1]))
  (h2:∀ e∈M,e.1.m=(h:Int)→∃ x∈xs,x.k=(entM M e.1.p.toNat).1+e.2):(bst c0 xs).k=(entM M (h+1)).1∧∃ S∈(entM M (h+1)).2,Rw (bst c0 xs).v S:=by
 rw[ent_new]
 have g0:gtE (tabR M h) 0=entM M h:=rfl
 have gp:∀ e∈M,e.1.m=(h:Int)→gtE (tabR M h) (h-e.1.p.toNat)=entM M e.1.p.toNat:=fun e he hm=>ent_at M (by have:=hM e he; omega)
 have ge':∀ e∈endW M h,e∈M∧e.1.m=(h:Int):=fun e he=>by
  obtain⟨k1,k2⟩:=List.mem_filter.1 he
  exact⟨k1,by simpa using k2⟩
 have gv:∀ e∈M,e.1.m=(h:Int)→valW (tabR M h) h e=(entM M e.1.p.toNat).1+e.2:=fun e he hm=>by unfold valW; rw[gp e he hm]
 obtain⟨b1,b2,b3⟩:=bst_spec xs c0
 obtain⟨m1,m2,m3⟩:=mxI_ge (gtE (tabR M h) 0).1 ((endW M h).map (valW (tabR M h) h))
 have le:mxI (gtE (tabR M h) 0).1 ((endW M h).map (valW (tabR M h) h))≤(bst c0 xs).k:=by
  rcases m3 with m3 | m3
  ·rw[m3,g0,←h0]; exact b1
  ·obtain⟨w,hw,e⟩:=List.mem_map.1 m3
   obtain⟨k1,k2⟩:=ge' w hw
   obtain⟨x,hx,ex⟩:=h2 w k1 k2
   rw[←e,gv w k1 k2,←ex]; exact b2 x hx
 have ge:(bst c0 xs).k≤mxI (gtE (tabR M h) 0).1 ((endW M h).map (valW (tabR M h) h)):=by
  rcases b3 with b3 | ⟨b3,_⟩
  ·rw[b3,h0]; exact m1
  ·obtain⟨w,hw,hm,e,_⟩:=h1 _ b3
   rw[e,←gv w hw hm]; exact m2 _ (List.mem_map_of_mem (List.mem_filter.2 ⟨hw,by simpa using hm⟩))
 have eq:(bst c0 xs).k=mxI (gtE (tabR M h) 0).1 ((endW M h).map (valW (tabR M h) h)):=Int.le_antisymm ge le
 unfold stepS
 by_cases c:mxI (gtE (tabR M h) 0).1 ((endW M h).map (valW (tabR M h) h))=(gtE (tabR M h) 0).1
 ·simp only[c,if_true]
  rcases b3 with b3 | ⟨_,b3⟩
  ·rw[b3]; exact⟨h0,h0S⟩
  ·have e:(bst c0 xs).k=(entM M h).1:=eq.trans c
   omega
 ·simp only[c,if_false]
  refine⟨eq,?_⟩
  rcases b3 with b3 | ⟨b3,_⟩
  ·rw[b3,h0]at eq; exact absurd eq.symm c
  ·obtain⟨w,hw,hm,e,S,hS,hr⟩:=h1 _ b3
   refine⟨S++[w.1],List.mem_flatMap.2 ⟨w,List.mem_filter.2 ⟨List.mem_filter.2 ⟨hw,by simpa using hm⟩,by rw[gv w hw hm,←e,eq]; simp⟩,?_⟩,hr⟩
   rw[gp w hw hm]
   exact List.mem_map_of_mem hS
theorem ent_bd {M:List (Sm×Int)} (hM:∀ e∈M,0≤e.1.p∧e.1.p≤e.1.m∧0≤e.2∧e.2≤1000):∀ h j,j≤h→0≤(entM M j).1∧(entM M j).1≤1000*(j:Int):=by
 intro h
 induction h with
 | zero=>
   intro j hj; obtain rfl:j=0:=by omega
   exact⟨Int.le_refl _,Int.le_refl _⟩
 | succ h ih=>
  intro j hj
  by_cases c:j=h+1
  ·subst c
   rw[ent_new]
   have g0:gtE (tabR M h) 0=entM M h:=rfl
   have i0:=ih h (Nat.le_refl _)
   have key:∀ x,(x=(gtE (tabR M h) 0).1∨x∈(endW M h).map (valW (tabR M h) h))→0≤x∧x≤1000*((h+1:Nat):Int):=fun x hx=>by
    rcases hx with rfl | hx
    ·rw[g0]; omega
    ·obtain⟨w,hw,rfl⟩:=List.mem_map.1 hx
     obtain⟨k1,k2⟩:=List.mem_filter.1 hw
     have k3:w.1.m=(h:Int):=by simpa using k2
     obtain⟨q1,q2,q3,q4⟩:=hM w k1
     have:=ih w.1.p.toNat (by omega)
     unfold valW
     rw[ent_at M (j:=w.1.p.toNat) (by omega)]
     omega
   obtain⟨m1,m2,m3⟩:=mxI_ge (gtE (tabR M h) 0).1 ((endW M h).map (valW (tabR M h) h))
   unfold stepS
   split
   ·exact key _ (.inl rfl)
   ·exact key _ m3
  ·exact ih j (by omega)
theorem ent_len {M:List (Sm×Int)} (hM:∀ e∈M,0≤e.1.p∧e.1.p≤e.1.m∧0≤e.2∧e.2≤1000):∀ h j,j≤h→∀ S∈(entM M j).2,S.length≤j:=by
 intro h
 induction h with
 | zero=>
   intro j hj S hS; obtain rfl:j=0:=by omega
   obtain rfl:=List.mem_singleton.1 hS
   exact Nat.le_refl _
 | succ h ih=>
  intro j hj S hS
  by_cases c:j=h+1
  ·subst c
   rw[ent_new]at hS
   unfold stepS at hS
   split at hS
   ·have:=ih h (Nat.le_refl _) S hS
    omega
   ·obtain⟨e,he,hS⟩:=List.mem_flatMap.1 hS
    obtain⟨S',hS',rfl⟩:=List.mem_map.1 hS
    obtain⟨k1,k2⟩:=List.mem_filter.1 (List.mem_filter.1 he).1
    have k3:e.1.m=(h:Int):=by simpa using k2
    obtain⟨q1,q2,q3,q4⟩:=hM e k1
    rw[ent_at M (j:=e.1.p.toNat) (by omega)]at hS'
    have:=ih e.1.p.toNat (by omega) S' hS'
    rw[List.length_append,List.length_singleton]
    omega
  ·exact ih j (by omega) S hS
end Go.St
end
section
set_option linter.unusedVariables false
namespace Go.Proofs.YtfmmggphdeiajaaGreatDoor
open Go.Lw Go.Cu Go.St Go.RowKit
abbrev che (c:Ch):List Value:=[.slice c.a c.n c.c,iv c.k]
abbrev chv (c:Ch):Value:=.agg #[.slice c.a c.n c.c,iv c.k]
theorem che_len (c:Ch):(che c).length=2:=rfl
theorem stbetter_f (x y:Ch) (V:View):Fnc Tryz.prog 649 [chv x,chv y] V fun r _=>r=.bool (decide (y.k<x.k)):=by
 refine zS Tryz.func649 rfl Tryz.ntmps649 (Nat.le_of_ble_eq_true rfl) ?_
 intro w0 hw0
 refine At.nrm ?_
 refine At.zh (.n false 0 (.n false 1 (.q 2 .done))) ?_
 refine AtT.jS ?_
 intro b2
 refine AtT.jS ?_
 intro b3
 refine AtT.zf ?_
 refine AtT.done ?_
 refine At.nrm ?_
 refine At.zh (.q 0 (.q 1 (.q 2 (.q 3 (.q 4 (.q 5 .done)))))) ?_
 first | refine AtT.zm fo687_1 ?_ | with_reducible refine AtT.zn fo687_1 ?_ | refine AtT.zq fo687_1 ?_
 first | refine AtT.zk tk2 ?_ | refine AtT.zo tk2 ?_
 first | refine AtT.zm fo687_1 ?_ | with_reducible refine AtT.zn fo687_1 ?_ | refine AtT.zq fo687_1 ?_
 first | refine AtT.zk tk2 ?_ | refine AtT.zo tk2 ?_
 refine AtT.qx ?_
 refine AtT.zf ?_
 refine AtT.done ?_
 refine At.nrm ?_
 exact At.zT rfl (.tmp rfl) rfl
theorem stbest_f (L:List Ch) (c0:Ch) (xs:List Ch) (hL:L=c0::xs) (V:View) (a:Option Addr) (c:Nat) (hs:Sl V che 2 (.slice a L.length c) L):Fnc Tryz.prog 648 [.slice a L.length c,.func (.func 649) #[] #[]] V fun r _=>r=chv (bst c0 xs):=by
 have hl1:L.length=xs.length+1:=by rw[hL]; rfl
 have hlen:=hs.qI
 refine zS Tryz.func648 rfl Tryz.ntmps648 (Nat.le_of_ble_eq_true rfl) ?_
 intro w0 hw0
 refine At.nrm ?_
 refine At.zh (.n false 0 .done) ?_
 refine AtT.qE z687 ?_
 intro b4
 refine AtT.done ?_
 refine At.nrm ?_
 refine At.zh (.q 0 (.q 1 (.q 2 (.n false 3 (.n true 4 .done))))) ?_
 refine AtT.ze ?_
 refine AtT.zU Tryz.underlying685 qO ?_
 intro p9 e9 he9 hc9
 first | refine AtT.zB qO ?_ | refine AtT.zM qO ?_ | refine AtT.zA qO ?_
 refine AtT.qE z687 ?_
 intro b5
 refine AtT.qc qO ?_
 refine AtT.done ?_
 refine At.nrm ?_
 have he:e9=c0:=by
  have:L[0]? = some e9:=by simpa using he9
  rw[hL]at this
  simpa using this.symm
 subst he
 refine At.zh (.q 0 (.q 1 (.q 2 (.q 3 .done)))) ?_
 refine AtT.ze ?_
 refine AtT.ktail Tryz.underlying685 qO ?_
 intro a12 c12 hs12
 first | refine AtT.zK Tryz.underlying685 ?_ | refine AtT.zL Tryz.underlying685 ?_
 refine AtT.ze ?_
 refine AtT.done ?_
 refine At.nrm ?_
 have hd:List.drop (Int.toNat 1) L=xs:=by rw[hL]; rfl
 rw[hd]at hs12
 rw[hd]
 refine At.lp (ι:=Nat) (KS:=fun k=>[(1,.func (.func 649) #[] #[]),(4,.pointer (some ⟨b4,0,none⟩)),(5,.pointer (some ⟨b5,0,none⟩)),(12,.slice a12 xs.length c12),(13,iv xs.length),(14,iv k)])
  (OS:=fun k=>[.blk b5 (LC (che (bst e9 (xs.take k))) 687),.blk b4 (LC [.slice none 0 0,iv 0] 687)]) (VS:=fun k V'=>V=V'∧k≤xs.length) (μ:=fun k=>xs.length-k) 0 ?_ ?_ ?_ ?_
 ·exact⟨rfl,rfl,rfl,rfl,rfl,rfl,trivial⟩
 ·exact Pt.zx
 ·exact⟨rfl,Nat.zero_le _⟩
 rintro k V' ks' O' ⟨rfl,hk1⟩ hk hO hl3
 subst hk hO
 refine At.nrm ?_
 refine At.zh (.q 0 .done) ?_
 refine AtT.qg ?_
 refine AtT.done ?_
 refine At.nrm ?_
 refine At.zZ rfl (fun hp=>?_) (fun hp=>?_)
 ·have hkl:k<xs.length:=by omega
  refine At.nrm ?_
  refine At.zh (.q 0 (.q 1 (.n false 2 (.n true 3 .done)))) ?_
  refine AtT.zU Tryz.underlying685 qO ?_
  intro p16 e16 he16 hc16
  first | refine AtT.zB qO ?_ | refine AtT.zM qO ?_ | refine AtT.zA qO ?_
  refine AtT.qE z687 ?_
  intro b7
  refine AtT.qc qO ?_
  refine AtT.done ?_
  refine At.nrm ?_
  have hee:xs[k]? = some e16:=by simpa using he16
  have hnx:xs.take (k+1)=xs.take k++[e16]:=by
   rw[List.take_succ_eq_append_getElem hkl]; congr 1; rw[List.getElem?_eq_getElem hkl]at hee; simpa using hee
  refine At.nrm ?_
  refine At.zh (.q 0 (.q 1 (.q 2 (.n false 3 .done)))) ?_
  refine AtT.ze ?_
  first | refine AtT.zB qO ?_ | refine AtT.zM qO ?_ | refine AtT.zA qO ?_
  first | refine AtT.zB qO ?_ | refine AtT.zM qO ?_ | refine AtT.zA qO ?_
  refine AtT.kcallV rfl rfl rfl ok649 (stbetter_f e16 (bst e9 (xs.take k)) _) ?_
  rintro _ rfl
  refine AtT.done ?_
  refine At.nrm ?_
  refine At.zZ rfl (fun hb=>?_) (fun hb=>?_)
  ·refine At.nrm ?_
   refine At.zh (.q 0 (.n true 1 .done)) ?_
   first | refine AtT.zB qO ?_ | refine AtT.zM qO ?_ | refine AtT.zA qO ?_
   refine AtT.qc qO ?_
   refine AtT.done ?_
   refine At.nrm ?_
   refine At.nrm ?_
   refine At.zh (.q 0 (.q 1 .done)) ?_
   first | refine AtT.qm ?_ | refine AtT.zR ?_
   refine AtT.ze ?_
   refine AtT.done ?_
   refine At.nrm ?_
   refine At.round (k+1) ?_ ?_ ?_ ?_
   ·show xs.length-(k+1)<xs.length-k; omega
   ·exact⟨rfl,hkl⟩
   ·exact⟨rfl,rfl,rfl,rfl,rfl,by congr 2,trivial⟩
   rw[hnx,bst_app,if_pos hb]
   ·exact Pt.zx
  ·refine At.nrm ?_
   refine At.zh (.q 0 (.q 1 .done)) ?_
   first | refine AtT.qm ?_ | refine AtT.zR ?_
   refine AtT.ze ?_
   refine AtT.done ?_
   refine At.nrm ?_
   refine At.round (k+1) ?_ ?_ ?_ ?_
   ·show xs.length-(k+1)<xs.length-k; omega
   ·exact⟨rfl,hkl⟩
   ·exact⟨rfl,rfl,rfl,rfl,rfl,by congr 2,trivial⟩
   rw[hnx,bst_app,if_neg hb]
   ·exact Pt.zx
 ·obtain rfl:k=xs.length:=by omega
  rw[List.take_length]
  refine At.nrm ?_
  refine At.zh (.q 0 (.n true 1 .done)) ?_
  first | refine AtT.zB qO ?_ | refine AtT.zM qO ?_ | refine AtT.zA qO ?_
  refine AtT.qc qO ?_
  refine AtT.done ?_
  refine At.nrm ?_
  exact At.zT rfl (.agg rfl qO zN.zx rfl) rfl
end Go.Proofs.YtfmmggphdeiajaaGreatDoor
end
section
set_option linter.unusedVariables false
namespace Go.Lw
open Go.Instr Go.RowKit
abbrev sT (l:List UInt8):Value:=.string ⟨l.toArray⟩
abbrev stL (l:List UInt8):List Value:=[sT l]
theorem sT_inj {a b:List UInt8} : (⟨a.toArray⟩:ByteArray)=⟨b.toArray⟩↔a=b:=⟨fun h=>congrArg bt h,fun h=>by rw[h]⟩
section
variable {cx:Cx} {n:Nat} {ks:List (Nat×Value)} {O R:List Own} {V:View} {P:Program} {ops:Array Oper} {Qn:Act→World→Prop} {t:Tr} {i d:Nat} {x y:Operand} {T:TypeId} {pos:String} {after:Array Edge} {gd:Option (Nat×Bool)} {X Y:TypeId} {wr:Bool}
theorem AtT.eqT {a b:List UInt8} (ho:ops[i]? = some ⟨some d,.binOp .eql X x y Y,T,pos,after,gd⟩) (hg:Gd ks ops gd) (hx:ev ks x=some (sT a)) (hy:ev ks y=some (sT b)) (hn:d<n)
  (next:AtT cx n ((d,.bool (decide (a=b)))::ks) O V P ops Qn t):AtT cx n ks O V P ops Qn (.q i t):=
 AtT.eqStr ho hg hx hy hn (by rw[show decide ((⟨a.toArray⟩:ByteArray)=⟨b.toArray⟩)=decide (a=b)from decide_eq_decide.2 sT_inj]; exact next)
end
end Go.Lw
end
section
set_option linter.unusedVariables false
namespace Go.Lw
open Go.Instr Go.RowKit
section
variable {cx:Cx} {n:Nat} {ks:List (Nat×Value)} {O R:List Own} {V:View} {P:Program} {ops:Array Oper} {Qn:Act→World→Prop} {t:Tr} {i d:Nat} {x y:Operand} {T:TypeId} {pos:String} {after:Array Edge} {gd:Option (Nat×Bool)} {X Y Z:TypeId} {wr:Bool} {p q:Int} {v:Value}
theorem AtT.slVL {u l:Value} {lo':Operand} (ho:ops[i]? = some ⟨some d,.slice X x (some lo') none none,T,pos,after,gd⟩) (hg:Gd ks ops gd) (hx:ev ks x=some v) (hl:ev ks lo'=some l) (hr:∀ w,(Instr.sliceAt X v (some l) none none).run P w=.ok u w) (hn:d<n)
  (next:AtT cx n ((d,u)::ks) O V P ops Qn t):AtT cx n ks O V P ops Qn (.q i t):=
 .q ho hg rfl hn (fun a w hk hm=>by simp only[execOp,hk.ev hx,hk.ev hl,Option.map_none,Option.map_some,Sem.run_bind,hr,Result.andThen_ok,Sem.run_pure]) next
end
end Go.Lw
end
section
set_option linter.unusedVariables false
namespace Go.Proofs.YtfmmggphdeiajaaGreatDoor
open Go.Lw Go.Cu Go.St Go.RowKit
def RwS (V V':View) (v:Value) (S:List Sm):Prop:=(v=.slice none 0 0∧S=[])∨(RwB V V' 224 2 sme v S∧S≠[])
theorem RwS.le {V V' V2:View} {v:Value} {S:List Sm} (h:RwS V V' v S) (hl:Le V' V2):RwS V V2 v S:=h.imp id fun h=>⟨h.1.le hl,h.2⟩
theorem RwS.sl {V V':View} {v:Value} {S:List Sm} (h:RwS V V' v S):Sl V' sme 2 v S:=by
 rcases h with ⟨rfl,rfl⟩ | h
 ·exact Sl.nil _ _ _
 ·exact h.1.sl fun _=>rfl
def UOk (V V':View) (M:List (Sm×Int)) (U:List Ch) (h:Nat):Prop:=∀ j,j≤h→∃ u,U[j]? = some u∧u.k=(entM M j).1∧∃ S∈(entM M j).2,RwS V V' u.v S
def XOk (V V':View) (M:MM Sm Int) (P:List (Sm×Int)) (h:Nat) (xs:List Ch) (seen:Array Nat):Prop:=
 (∀ x∈xs,∃ e∈P,e.1.m=(h:Int)∧x.k=(entM P e.1.p.toNat).1+e.2∧∃ S∈(entM P e.1.p.toNat).2,RwS V V' x.v (S++[e.1]))∧
 (∀ e∈M,e.1.m=(h:Int)→e.2.2∈seen→∃ x∈xs,x.k=(entM P e.1.p.toNat).1+e.2.1)∧xs.length+(M.filter fun e=>!seen.contains e.2.2).length≤M.length
theorem XOk.le {V V' V2:View} {M:MM Sm Int} {P:List (Sm×Int)} {h:Nat} {xs:List Ch} {seen:Array Nat} (k:XOk V V' M P h xs seen) (hl:Le V' V2):XOk V V2 M P h xs seen:=
 ⟨fun x hx=>by obtain⟨e,he,h1,h2,S,hS,h3⟩:=k.1 x hx; exact⟨e,he,h1,h2,S,hS,h3.le hl⟩,k.2⟩
theorem seen_push2 {α β:Type} {M:MM α β} {seen:Array Nat} {e e':α×β×Nat} (hb:(M.map (·.2.2)).Nodup) (he:e∈M) (he':e'∈M) (h:e'.2.2∈seen.push e.2.2):e'.2.2∈seen∨e'=e:=by
 rw[Array.mem_push]at h
 exact h.imp id fun h=>inj_of (fun e:α×β×Nat=>e.2.2) hb he' he h
theorem XOk.idle {V V':View} {M:MM Sm Int} {P:List (Sm×Int)} {h:Nat} {xs:List Ch} {seen:Array Nat} {e:Sm×Int×Nat} (k:XOk V V' M P h xs seen) (hb:(M.map (·.2.2)).Nodup) (he:e∈M) (hns:e.2.2∉seen) (hm:¬ e.1.m=(h:Int)):XOk V V' M P h xs (seen.push e.2.2):=by
 refine⟨k.1,fun e' he' hm' hs=>?_,?_⟩
 ·rcases seen_push2 hb he he' hs with h1 | rfl
  ·exact k.2.1 e' he' hm' h1
  ·exact absurd hm' hm
 ·have:=jN he hns
  have:=k.2.2
  omega
theorem XOk.more {V V':View} {M:MM Sm Int} {h:Nat} {xs:List Ch} {seen:Array Nat} {e:Sm×Int×Nat} {x:Ch} (k:XOk V V' M (M.map fun e=>(e.1,e.2.1)) h xs seen) (hb:(M.map (·.2.2)).Nodup) (he:e∈M) (hns:e.2.2∉seen) (hm:e.1.m=(h:Int))
  (hx:x.k=(entM (M.map fun e=>(e.1,e.2.1)) e.1.p.toNat).1+e.2.1) (hS:∃ S∈(entM (M.map fun e=>(e.1,e.2.1)) e.1.p.toNat).2,RwS V V' x.v (S++[e.1])):XOk V V' M (M.map fun e=>(e.1,e.2.1)) h (xs++[x]) (seen.push e.2.2):=by
 refine⟨fun y hy=>?_,fun e' he' hm' hs=>?_,?_⟩
 ·rcases List.mem_append.1 hy with hy | hy
  ·exact k.1 y hy
  ·obtain rfl:=List.mem_singleton.1 hy
   exact⟨(e.1,e.2.1),List.mem_map_of_mem he,hm,hx,hS⟩
 ·rcases seen_push2 hb he he' hs with h1 | rfl
  ·obtain⟨y,hy,h2⟩:=k.2.1 e' he' hm' h1
   exact⟨y,List.mem_append_left _ hy,h2⟩
  ·exact⟨x,by simp,hx⟩
 ·have:=jN he hns
  have:=k.2.2
  rw[List.length_append,List.length_singleton]
  omega
theorem UOk.set {V V':View} {M:List (Sm×Int)} {U:List Ch} {h:Nat} (k:UOk V V' M U h) {b:Ch} (hl:h+1<U.length) (h1:b.k=(entM M (h+1)).1) (h2:∃ S∈(entM M (h+1)).2,RwS V V' b.v S):UOk V V' M (U.set (h+1) b) (h+1):=fun j hj=>by
 by_cases c:j=h+1
 ·subst c
  exact⟨b,by rw[List.getElem?_set_self hl],h1,h2⟩
 ·obtain⟨u,k1,k2⟩:=k j (by omega)
  exact⟨u,by rw[List.getElem?_set_ne (fun e=>c e.symm)]; exact k1,k2⟩
theorem UOk.le {V V' V2:View} {M:List (Sm×Int)} {U:List Ch} {h:Nat} (k:UOk V V' M U h) (hl:Le V' V2):UOk V V2 M U h:=fun j hj=>by
 obtain⟨u,h1,h2,S,hS,h3⟩:=k j hj; exact⟨u,h1,h2,S,hS,h3.le hl⟩
theorem flat_piece {α:Type} {enc:α→List Value} {s:Nat} (he:∀ x,(enc x).length=s):∀ {l:List α} {i:Nat} {x:α},l[i]? = some x→((flat enc l).drop (i*s)).take s=enc x
 | y::l,0,x,h=>by
  simp at h; subst h
  simp only[Nat.zero_mul,List.drop_zero,flat,List.flatMap_cons]
  rw[←he y]; exact List.take_left
 | y::l,i+1,x,h=>by
  have e:(flat enc (y::l)).drop ((i+1)*s)=(flat enc l).drop (i*s):=by
   simp only[flat,List.flatMap_cons]
   rw[show(i+1)*s=(enc y).length+i*s by rw[he y,Nat.add_mul,Nat.one_mul]; omega,←List.drop_drop,List.drop_left]
  rw[e]
  exact flat_piece he (by simpa using h)
theorem flat_more {α:Type} {enc:α→List Value} (l:List α) (x:α):flat enc (l++[x])=flat enc l++enc x:=by simp[flat]
abbrev prs (M:MM Sm Int):List (Sm×Int):=M.map fun e=>(e.1,e.2.1)
theorem sl686 (b:Nat) (w:World):(Instr.sliceAt 685 (.slice (some ⟨b,0,none⟩) 102 102) (some (.int .i64 1)) none none).run Tryz.prog w=.ok (.slice (some ⟨b,2,none⟩) 101 101) w:=by
 have hX':Tryz.prog.underlying 685=some (.slice (Tryz.prog.elem 685)):=by simp[Program.elem,Tryz.underlying685]
 have hEl:Tryz.prog.elem 685=687:=by simp[Program.elem,Tryz.underlying685]
 simp only[Sem.run_bind,run_sliceAt_slice w 685 _ _ _ _ hX']
 rw[run_slice_l w 685 _ 102 102 hX' .i64 1 (by decide) (by decide),hEl,Lw.run_sizeOf qO]
 rfl
theorem proof_tail:∃ c1 c2 c3 c4 ct,Tryz.f565.body=some (.seq c1 (.seq c2 (.seq c3 (.seq c4 ct))))∧∀ (M:MM Sm Int) (cM:Nat) (hbo:(M.map (·.2.2)).Nodup) (hlt:∀ e∈M,e.2.2<cM) (hMl:M.length≤1000) (hM:∀ e∈M,0≤e.1.p∧e.1.p≤e.1.m∧e.1.m≤100∧0≤e.2.1∧e.2.1≤1000)
  (b3 mb:Nat) (V:View) (ds:List Deferred) (w0:World) (hV0:Le V (hp w0)) (h3:Cells V ⟨b3,0,none⟩ [.map (some mb)]) (hm:V mb=some (qV smv iv M cM)),
  At ⟨w0,V,ds⟩ 95 [(3,.pointer (some ⟨b3,0,none⟩))] [] V (ct.wpIn (FW none) 0 Tryz.prog fun e a' w'=>e=.ret∧a'.defers=ds∧a'.tmps.size=95∧Below w0.heap.size w0 w'∧∃ v V',a'.tmps[2]? = some v∧Le V' (hp w')∧∃ S∈(entM (prs M) 101).2,RwS V V' v S):=by
 refine⟨_,_,_,_,_,rfl,?_⟩
 intro M cM hbo hlt hMl hM b3 mb V ds w0 hV0 h3 hmb
 have hP:∀ e∈prs M,0≤e.1.p∧e.1.p≤e.1.m∧0≤e.2∧e.2≤1000:=fun e he=>by
  obtain⟨x,hx,rfl⟩:=List.mem_map.1 he
  have:=hM x hx
  exact⟨this.1,this.2.1,this.2.2.2.1,this.2.2.2.2⟩
 have hbd:=ent_bd hP 102
 have hln:=ent_len hP 102
 refine At.nrm ?_
 refine At.zh (.n false 0 (.q 1 .done)) ?_
 refine AtT.makeSl rfl trivial che rfl Tryz.underlying685 rw687 rfl rfl (by decide) rfl rfl (by omega) (by omega) (by decide) (m:=102) (za:=(⟨none,0,0,0⟩:Ch)) ?_
 intro b33
 refine AtT.zf ?_
 refine AtT.done ?_
 refine At.nrm ?_
 refine At.zh (.q 0 (.q 1 (.q 2 (.q 3 .done)))) ?_
 refine AtT.ze ?_
 refine AtT.slVL rfl trivial rfl rfl (sl686 b33) (by decide) ?_
 first | refine AtT.zK Tryz.underlying685 ?_ | refine AtT.zL Tryz.underlying685 ?_
 refine AtT.ze ?_
 refine AtT.done ?_
 refine At.nrmB ?_
 refine At.nrm ?_
 refine At.lp (ι:=Nat×List Ch) (KS:=fun g=>[(3,.pointer (some ⟨b3,0,none⟩)),(7,.slice (some ⟨b33,0,none⟩) 102 102),(36,iv 101),(37,iv g.1)]) (OS:=fun g=>[.blk b33 (LC (flat che g.2) 687)])
  (VS:=fun g V'=>Le V V'∧g.1≤101∧g.2.length=102∧UOk V V' (prs M) g.2 g.1) (μ:=fun g=>101-g.1) (0,List.replicate 102 ⟨none,0,0,0⟩) ?_ ?_ ?_ ?_
 ·exact⟨rfl,rfl,rfl,rfl,trivial⟩
 ·exact Pt.zx
 ·refine⟨Le.refl _,Nat.zero_le _,by simp,fun j hj=>?_⟩
  obtain rfl:j=0:=by dsimp only at hj; omega
  exact⟨⟨none,0,0,0⟩,rfl,rfl,[],List.mem_singleton.2 rfl,.inl ⟨rfl,rfl⟩⟩
 rintro⟨h,U⟩ V1 ks' O' ⟨hV1,hh,hUl,hU⟩ hk hO hl1
 dsimp only at hh hUl hU hk hO
 subst hk hO
 have hmb1:=hV1 _ _ hmb
 have h31:=h3.le hV1
 refine At.nrm ?_
 refine At.zh (.q 0 .done) ?_
 refine AtT.qg ?_
 refine AtT.done ?_
 refine At.nrm ?_
 refine At.zZ rfl (fun hp=>?_) (fun hp=>?_)
 ·have hh2:h<101:=by omega
  obtain⟨u,hu,huk,Su,hSu,hRu⟩:=hU h (Nat.le_refl _)
  have hpu:=flat_piece che_len hu
  refine At.nrm ?_
  refine At.zh (.q 0 (.q 1 .done)) ?_
  refine AtT.ze ?_
  refine AtT.zf ?_
  refine AtT.done ?_
  refine At.nrm ?_
  refine At.zh (.q 0 (.q 1 (.q 2 (.q 3 (.n false 4 (.q 5 .done)))))) ?_
  refine AtT.ze ?_
  refine AtT.ze ?_
  refine AtT.idxZ rfl trivial Tryz.underlying685 qO rfl rfl (by omega) (by decide) ?_
  refine AtT.loadOP rfl trivial rfl qO zN.zx hpu rfl (by decide) ?_
  refine AtT.kbslice (bs685_1_0 _ _ _ _) ?_
  intro b44
  refine AtT.zf ?_
  refine AtT.done ?_
  refine At.nrm ?_
  refine At.blkRow (b:=b44) (m:=1) (cap:=1) (s:=2) (xs:=che u) (rest:=[]) zN.zx rfl rfl (Nat.le_refl _) (by decide) ?_
  refine At.nrm ?_
  refine At.zh (.q 0 (.n false 1 .done)) ?_
  first | refine AtT.zk tk681 ?_ | refine AtT.zo tk681 ?_
  refine AtT.rangeV rfl trivial Tryz.underlying681 rfl (hmb1) (by decide) ?_
  intro b46
  refine AtT.done ?_
  refine At.nrm ?_
  refine At.nrm ?_
  refine At.lp (ι:=Array Nat×List Ch×Option Addr×Nat) (KS:=fun g=>[(3,.pointer (some ⟨b3,0,none⟩)),(7,.slice (some ⟨b33,0,none⟩) 102 102),(36,iv 101),(37,iv h),(8,iv h),(9,.slice g.2.2.1 (g.2.1.length+1) g.2.2.2),(46,.pointer (some ⟨b46,0,none⟩))])
   (OS:=fun g=>[.blk b33 (LC (flat che U) 687),.blk b46 (.mapIter (some mb) cM g.1 cM),.row (.slice g.2.2.1 (g.2.1.length+1) g.2.2.2) 687 2 (g.2.1.length+1) (flat che (u::g.2.1))])
   (VS:=fun g V'=>Le V1 V'∧XOk V V' M (prs M) h g.2.1 g.1) (μ:=fun g=>(M.filter fun e=>!g.1.contains e.2.2).length) (#[],[],some ⟨b44,0,none⟩,1) ?_ ?_ ?_ ?_
  ·exact⟨rfl,rfl,rfl,rfl,rfl,rfl,rfl,trivial⟩
  ·exact Pt.zx
  ·refine⟨Le.refl _,fun x hx=>by(cases hx),fun e _ _ he=>by simp at he,?_⟩
   show 0+_≤_
   rw[Nat.zero_add]
   exact List.length_filter_le _ _
  rintro⟨seen,xs,ao,co⟩ V2 ks' O' ⟨hV2,hX⟩ hk hO hl2
  dsimp only at hX hk hO
  subst hk hO
  have hmb2:=hV2 _ _ hmb1
  have h32:=h31.le hV2
  have hxl:xs.length≤1000:=by have:=hX.2.2; omega
  refine At.nrm ?_
  refine At.zh (.n true 0 (.q 1 .done)) ?_
  all_goals (refine AtT.nextV rfl trivial rfl zN.zx hmb2 (fun e he=>hlt e he) (Nat.le_refl _) (by decide) (fun hall=>?_) (fun e he hns=>?_))
  all_goals (refine AtT.zI ?_)
  all_goals refine AtT.done ?_
  all_goals (refine At.nrm ?_)
  ·refine At.qf rfl rfl ?_
   have hst:=step_ok (M:=prs M) (h:=h) (Rw:=RwS V V2) (c0:=u) (xs:=xs) (fun e he=>(hP e he).2.1) huk ⟨Su,hSu,hRu.le hV2⟩ hX.1 (fun e he hm=>by
    obtain⟨x,hx,rfl⟩:=List.mem_map.1 he
    exact hX.2.1 x hx hm (hall x hx))
   refine At.nrm ?_
   refine At.giveSl (l:=u::xs) che_len rfl rfl zN.zx (fun V3 hV3 hs3=>?_)
   have hset:=flat_set che_len U (h+1) (bst u xs) (by omega)
   have hfl:(flat che U).length=204:=by rw[qa che_len,hUl]
   have hcast:((h:Int)+1)=((h+1:Nat):Int):=by omega
   have hUn:=((hU.le (hV2.trans hV3)).set (b:=bst u xs) (by omega) hst.1 (by obtain⟨S,h1,h2⟩:=hst.2; exact⟨S,h1,h2.le hV3⟩))
   refine At.nrm ?_
   refine At.zh (.q 0 (.q 1 (.q 2 (.q 3 (.n false 4 (.q 5 (.n true 6 .done))))))) ?_
   refine AtT.ze ?_
   refine AtT.ze ?_
   first | refine AtT.qm ?_ | refine AtT.zR ?_
   rw[hcast]
   refine AtT.ze ?_
   refine AtT.zJ rfl rfl ok648 (stbest_f (u::xs) u xs rfl _ _ _ hs3) ?_
   rintro _ rfl
   refine AtT.idxZ rfl trivial Tryz.underlying685 qO rfl rfl (by omega) (by decide) ?_
   refine AtT.store rfl trivial rfl rfl qO rfl rfl (by simp only[hfl,List.length_cons,List.length_nil]; omega) rfl hset (by repeat first|exact Upd.here|apply Upd.there) ?_
   refine AtT.done ?_
   refine At.nrm ?_
   refine At.nrm ?_
   refine At.zh (.q 0 (.q 1 .done)) ?_
   first | refine AtT.qm ?_ | refine AtT.zR ?_
   refine AtT.ze ?_
   refine AtT.done ?_
   refine At.nrm ?_
   refine At.round (h+1,U.set (h+1) (bst u xs)) ?_ ?_ ?_ ?_
   ·show 101-(h+1)<101-h; omega
   ·exact⟨hV1.trans (hV2.trans hV3),by dsimp only; omega,by dsimp only; rw[List.length_set]; exact hUl,hUn⟩
   ·exact⟨rfl,rfl,rfl,ivs (by dsimp only; omega),trivial⟩
   ·exact Pt.zx
  ·refine At.qK rfl rfl ?_
   have hun:=jN he hns
   obtain⟨⟨ep,em⟩,en,eb⟩:=e
   obtain⟨q1,q2,q3,q4,q5⟩:=hM _ he
   dsimp only at q1 q2 q3 q4 q5 hns hun
   obtain⟨p,rfl⟩:∃ p:Nat,ep=(p:Int):=⟨ep.toNat,by omega⟩
   refine At.nrm ?_
   refine At.zh (.n false 0 (.q 1 (.q 2 (.n false 3 (.n true 4 (.q 5 .done)))))) ?_
   refine AtT.entryV rfl trivial rfl zN.zx hmb2 he hbo (by decide) ?_
   refine AtT.zI ?_
   refine AtT.zI ?_
   refine AtT.qE z224 ?_
   intro b10
   refine AtT.qc tk224 ?_
   refine AtT.zf ?_
   refine AtT.done ?_
   refine At.nrm ?_
   refine At.nrm ?_
   refine At.zh (.q 0 (.q 1 (.q 2 (.q 3 .done)))) ?_
   first | refine AtT.zm fo224_1 ?_ | with_reducible refine AtT.zn fo224_1 ?_ | refine AtT.zq fo224_1 ?_
   first | refine AtT.zk tk2 ?_ | refine AtT.zo tk2 ?_
   refine AtT.ze ?_
   refine AtT.jR ?_
   refine AtT.done ?_
   refine At.nrm ?_
   refine At.zZ rfl (fun hm=>?_) (fun hm=>?_)
   ·have hm':em=(h:Int):=hm
    obtain⟨up,hup,hupk,Sp,hSp,hRp⟩:=hU p (by omega)
    have hb2:=hbd p (by omega)
    have hl2':=hln p (by omega) Sp hSp
    have hpp:=flat_piece che_len hup
    obtain⟨pa,pn,pc,pk⟩:=up
    have hslp:=(hRp.le hV2).sl
    obtain⟨_,_,hsle,_⟩:=id hslp
    cases hsle
    refine At.nrm ?_
    refine At.zh (.q 0 (.q 1 (.q 2 (.q 3 (.q 4 (.n false 5 (.n true 6 .done))))))) ?_
    refine AtT.ze ?_
    first | refine AtT.zm ku ?_ | with_reducible refine AtT.zn ku ?_ | refine AtT.zq ku ?_
    first | refine AtT.zk tk2 ?_ | refine AtT.zo tk2 ?_
    refine AtT.idxZ rfl trivial Tryz.underlying685 qO rfl rfl (by omega) (by decide) ?_
    refine AtT.loadOP rfl trivial rfl qO zN.zx hpp rfl (by decide) ?_
    refine AtT.qE z687 ?_
    intro b12
    refine AtT.qc qO ?_
    refine AtT.done ?_
    refine At.nrm ?_
    refine At.nrm ?_
    refine At.draw (.q 0 (.q 1 (.q 2 (.q 3 (.q 4 (.q 5 (.q 6 (.q 7 (.q 8 (.q 9 (.q 10 (.q 13 (.q 14 (.q 15 (.q 16 (.n false 11 (.n false 12 (.q 17 (.n false 18 (.n true 19 (.q 20 .done))))))))))))))))))))) ffm (by kernel_rfl) ?_
    refine AtT.ze ?_
    first | refine AtT.zm ko ?_ | with_reducible refine AtT.zn ko ?_ | refine AtT.zq ko ?_
    first | refine AtT.zk tk435 ?_ | refine AtT.zo tk435 ?_
    first | refine AtT.zm ko ?_ | with_reducible refine AtT.zn ko ?_ | refine AtT.zq ko ?_
    first | refine AtT.zk tk435 ?_ | refine AtT.zo tk435 ?_
    first | refine AtT.zK Tryz.underlying435 ?_ | refine AtT.zL Tryz.underlying435 ?_
    first | refine AtT.zm ko ?_ | with_reducible refine AtT.zn ko ?_ | refine AtT.zq ko ?_
    first | refine AtT.zk tk435 ?_ | refine AtT.zo tk435 ?_
    first | refine AtT.zK Tryz.underlying435 ?_ | refine AtT.zL Tryz.underlying435 ?_
    first | refine AtT.kclipAll Tryz.underlying435 tk224 ?_ | refine AtT.kclip Tryz.underlying435 tk224 ?_
    intro a70 hs70
    first | refine AtT.zB tk224 ?_ | refine AtT.zM tk224 ?_ | refine AtT.zA tk224 ?_
    first | refine AtT.zm fo687_1 ?_ | with_reducible refine AtT.zn fo687_1 ?_ | refine AtT.zq fo687_1 ?_
    first | refine AtT.zk tk2 ?_ | refine AtT.zo tk2 ?_
    refine AtT.ze ?_
    first | refine AtT.qm ?_ | refine AtT.zR ?_
    refine AtT.qi (bs435_1_0 _ _) ?_
    intro q72 V72 hV72 hq72
    refine AtT.appendCR rfl trivial Tryz.underlying435 rw224 rfl (by decide) rfl (by first | assumption | exact Sl.le (by assumption) (by assumption)) rfl rfl (by first | assumption | exact Cells.le (by assumption) (by assumption)) (fun _=>rfl) (by simp) (by unfold maxLen; simp only[List.length_cons,List.length_nil]; omega) (by simp only[List.length_cons,List.length_nil]; omega) (by decide) (enc:=sme) (m:=[⟨(p:Int),em⟩]) ?_
    intro a73 c73 V73 hV73 hr73
    refine AtT.jk (bd687_0_1 _ _ _ _) ?_
    refine AtT.qi (bs685_1_0 _ _ _ _) ?_
    intro q79 V79 hV79 hq79
    first | refine AtT.kX Tryz.underlying685 rw687 ?_
    intro a80 c80
    refine AtT.zf ?_
    refine AtT.done ?_
    refine At.nrm ?_
    have ew:IntKind.i64.wrap (pk+en)=pk+en:=wrap_fit (Fit.of (by dsimp only at hupk; omega) (by dsimp only at hupk; omega))
    have hge:=hV72.trans (hV73.trans hV79)
    refine At.round (seen.push eb,xs++[(⟨a73,(Sp++[(⟨(p:Int),em⟩:Sm)]).length,c73,pk+en⟩:Ch)],a80,c80) ?_ ?_ ?_ ?_
    ·exact hun
    ·exact⟨hV2.trans hge,(hX.le hge).more (e:=(⟨(p:Int),em⟩,en,eb)) hbo he hns hm' (by rw[show(pk:Int)=(entM (prs M) p).1 from hupk]; rfl) ⟨Sp,hSp,.inr ⟨(hr73.base (hV1.trans (hV2.trans hV72))).le hV79,by simp⟩⟩⟩
    ·dsimp only; rw[List.length_append,List.length_singleton]; exact⟨rfl,rfl,rfl,rfl,rfl,rfl,rfl,trivial⟩
    ·dsimp only
     rw[List.length_append,List.length_singleton,←List.cons_append,flat_more]
     rw[ew]
     exact Pt.zx
   ·refine At.nrm ?_
    refine At.round (seen.push eb,xs,ao,co) ?_ ?_ ?_ ?_
    ·exact hun
    ·exact⟨hV2,hX.idle (e:=(⟨(p:Int),em⟩,en,eb)) hbo he hns hm⟩
    ·exact⟨rfl,rfl,rfl,rfl,rfl,rfl,rfl,trivial⟩
    ·exact Pt.zx
 ·obtain rfl:h=101:=by omega
  obtain⟨u,hu,huk,Su,hSu,hRu⟩:=hU 101 (Nat.le_refl _)
  have hpu:=flat_at che_len U 101 u hu 0 _ rfl
  refine At.nrm ?_
  refine At.zh (.q 0 (.q 1 (.q 2 (.q 3 (.q 4 (.q 5 (.q 6 (.q 7 .done)))))))) ?_
  refine AtT.ze ?_
  refine AtT.ze ?_
  first | refine AtT.zK Tryz.underlying685 ?_ | refine AtT.zL Tryz.underlying685 ?_
  first | refine AtT.ksubt ?_ | refine AtT.ksubW ?_
  refine AtT.idxZ rfl trivial Tryz.underlying685 qO rfl rfl (by omega) (by decide) (j:=101) ?_
  first | refine AtT.zm ko ?_ | with_reducible refine AtT.zn ko ?_ | refine AtT.zq ko ?_
  refine AtT.loadO rfl trivial rfl tk435 zN.zx hpu (by decide) ?_
  refine AtT.zf ?_
  refine AtT.done ?_
  refine At.nrm ?_
  exact fun a w hk hm=>⟨rfl,hk.defers,hk.size,hm.below,_,V1,hk.known 2 _ rfl,hm.view,Su,hSu,hRu⟩
end Go.Proofs.YtfmmggphdeiajaaGreatDoor
end
section
set_option linter.unusedVariables false
set_option linter.unusedSimpArgs false
namespace Go.Cu
open Go.Lw
section
variable {α β:Type} [DecidableEq α]
theorem mmod_map {g:Nat→α} {h:Nat→β} {i:Nat} {v:β} : ∀ {l:List Nat},(∀ a∈l,g a=g i→a=i)→l.Nodup→mmod (g i) v (l.map fun p=>(g p,h p,p))=l.map fun p=>(g p,if p=i then v else h p,p)
 | [],_,_=>rfl
 | a::l,hg,hn=>by
  simp only[List.map_cons,mmod]
  by_cases c:g i=g a
  ·have e:=hg a List.mem_cons_self c.symm
   subst e
   rw[if_pos rfl,if_pos rfl]
   congr 1
   refine List.map_congr_left fun p hp=>?_
   rw[if_neg (fun e'=>(List.nodup_cons.1 hn).1 (by rw[←e']; exact hp))]
  ·rw[if_neg c,if_neg (fun e=>c (by rw[e])),mmod_map (fun b hb=>hg b (List.mem_cons_of_mem _ hb)) (List.nodup_cons.1 hn).2]
theorem mhas_map {g:Nat→α} {h:Nat→β} {a:α} {l:List Nat} : kW a (l.map fun p=>(g p,h p,p))=true↔∃ p∈l,g p=a:=by
 rw[mhas_keys,List.map_map]
 simp
end
theorem mul_inj {x a b:Int} (hx:x≠0) (h:x*a=x*b):a=b:=Int.eq_of_mul_eq_mul_left hx h
theorem MS_A {x lo hi:Int} (hx:x≠0) (hl:lo≠hi):∀ k,MS x lo hi k=((List.range k).map (fun j=>((⟨x*kP j,x*kM j⟩:Sm),(⟨kP j,kM j⟩:Sm),j)),k)
 | 0=>rfl
 | k+1=>by
  have ek:kD x lo hi (kP k) (kM k)=⟨x*kP k,x*kM k⟩:=by unfold kD; rw[if_neg hl]
  have hno:¬ kW (⟨x*kP k,x*kM k⟩:Sm) ((List.range k).map (fun j=>((⟨x*kP j,x*kM j⟩:Sm),(⟨kP j,kM j⟩:Sm),j)))=true:=fun h=>by
   obtain⟨p,hp,e⟩:=(mhas_map (g:=fun j=>(⟨x*kP j,x*kM j⟩:Sm)) (h:=fun j=>(⟨kP j,kM j⟩:Sm))).1 h
   simp only[Sm.mk.injEq]at e
   have e1:=mul_inj hx e.1
   have e2:=mul_inj hx e.2
   have:=List.mem_range.1 hp
   unfold kP at e1
   unfold kM at e2
   omega
  show mput (kD x lo hi (kP k) (kM k)) ⟨kP k,kM k⟩ (MS x lo hi k).1 (MS x lo hi k).2=_
  rw[ek,MS_A hx hl k]
  dsimp only
  unfold mput
  rw[if_neg hno,List.range_succ,List.map_append]
  rfl
theorem MS_B0 {x:Int} (hx:x≠0):∀ k,k≤101→MS x 0 0 k=((List.range k).map (fun j:Nat=>((⟨x*(j:Int),0⟩:Sm),(⟨(j:Int), -10⟩:Sm),j)),k)
 | 0,_=>rfl
 | k+1,hk=>by
  have e1:kP k=k:=by unfold kP; omega
  have e2:kM k = -10:=by unfold kM; omega
  have ek:kD x 0 0 (kP k) (kM k)=⟨x*(k:Int),0⟩:=by unfold kD; rw[if_pos rfl,Int.mul_zero,Int.add_zero,e1]
  have hno:¬ kW (⟨x*(k:Int),0⟩:Sm) ((List.range k).map (fun j:Nat=>((⟨x*(j:Int),0⟩:Sm),(⟨(j:Int), -10⟩:Sm),j)))=true:=fun h=>by
   obtain⟨p,hp,e⟩:=(mhas_map (g:=fun j:Nat=>(⟨x*(j:Int),0⟩:Sm)) (h:=fun j:Nat=>(⟨(j:Int), -10⟩:Sm))).1 h
   simp only[Sm.mk.injEq]at e
   have e1:=mul_inj hx e.1
   have:=List.mem_range.1 hp
   omega
  show mput (kD x 0 0 (kP k) (kM k)) ⟨kP k,kM k⟩ (MS x 0 0 k).1 (MS x 0 0 k).2=_
  rw[ek,MS_B0 hx k (by omega),e1,e2]
  dsimp only
  unfold mput
  rw[if_neg hno,List.range_succ,List.map_append]
  rfl
theorem MS_B {x:Int} (hx:x≠0) (j:Nat):∀ i,i≤101→MS x 0 0 (101+(101*j+i))=((List.range 101).map (fun p:Nat=>((⟨x*(p:Int),0⟩:Sm),(⟨(p:Int),if p<i then (j:Int)-9 else (j:Int)-10⟩:Sm),p)),101)
 | 0,_=>by
  cases j with
  | zero=>
   rw[show 101+(101*0+0)=101 from rfl,MS_B0 hx 101 (Nat.le_refl _)]
   rfl
  | succ j=>
   rw[show 101+(101*(j+1)+0)=101+(101*j+101) by omega,MS_B hx j 101 (Nat.le_refl _)]
   congr 1
   refine List.map_congr_left fun p hp=>?_
   rw[if_pos (List.mem_range.1 hp),if_neg (Nat.not_lt_zero _)]
   congr 3
   omega
 | i+1,hi=>by
  have e1:kP (101+(101*j+i))=i:=by unfold kP; omega
  have e2:kM (101+(101*j+i))=(j:Int)-9:=by unfold kM; omega
  have ek:kD x 0 0 (kP (101+(101*j+i))) (kM (101+(101*j+i)))=⟨x*(i:Int),0⟩:=by unfold kD; rw[if_pos rfl,Int.mul_zero,Int.add_zero,e1]
  have hyes:kW (⟨x*(i:Int),0⟩:Sm) ((List.range 101).map (fun p:Nat=>((⟨x*(p:Int),0⟩:Sm),(⟨(p:Int),if p<i then (j:Int)-9 else (j:Int)-10⟩:Sm),p)))=true:=
   (mhas_map (g:=fun p:Nat=>(⟨x*(p:Int),0⟩:Sm)) (h:=fun p:Nat=>(⟨(p:Int),if p<i then (j:Int)-9 else (j:Int)-10⟩:Sm))).2 ⟨i,List.mem_range.2 (by omega),rfl⟩
  show mput (kD x 0 0 (kP (101+(101*j+i))) (kM (101+(101*j+i)))) ⟨kP (101+(101*j+i)),kM (101+(101*j+i))⟩ (MS x 0 0 (101+(101*j+i))).1 (MS x 0 0 (101+(101*j+i))).2=_
  rw[ek,MS_B hx j i (by omega),e1,e2]
  dsimp only
  unfold mput
  rw[if_pos hyes]
  have:=mmod_map (g:=fun p:Nat=>(⟨x*(p:Int),0⟩:Sm)) (h:=fun p:Nat=>(⟨(p:Int),if p<i then (j:Int)-9 else (j:Int)-10⟩:Sm)) (i:=i) (v:=(⟨(i:Int),(j:Int)-9⟩:Sm)) (l:=List.range 101) (fun a _ h=>by
   simp only[Sm.mk.injEq]at h
   have:=mul_inj hx h.1
   omega) List.nodup_range
  rw[this]
  congr 1
  refine List.map_congr_left fun p hp=>?_
  by_cases c:p=i
  ·subst c
   rw[if_pos rfl,if_pos (by omega)]
  ·rw[if_neg c]
   by_cases d:p<i
   ·rw[if_pos d,if_pos (by omega)]
   ·rw[if_neg d,if_neg (by omega)]
def ent (x lo hi:Int):List (Sm×Sm×Nat):=
 if x=0 then [(⟨0,0⟩,⟨0, -10⟩,0)]else if lo=hi then (List.range 101).map (fun p:Nat=>(⟨x*(p:Int),0⟩,⟨(p:Int),10⟩,p))else (List.range 2121).map (fun j=>(⟨x*kP j,x*kM j⟩,⟨kP j,kM j⟩,j))
theorem MS_end {x lo hi:Int} (h:lo=hi→lo=0):(MS x lo hi (endK x)).1=ent x lo hi:=by
 unfold ent endK
 by_cases hx:x=0
 ·subst hx
  rw[if_pos rfl,if_pos rfl]
  show(mput (kD 0 lo hi (kP 0) (kM 0)) (⟨kP 0,kM 0⟩:Sm) [] 0).1=_
  have:kD 0 lo hi (kP 0) (kM 0)=⟨0,0⟩:=by unfold kD; split<;>simp
  rw[this]
  rfl
 ·rw[if_neg hx,if_neg hx]
  by_cases hl:lo=hi
  ·rw[if_pos hl]
   have h0:=h hl
   subst hl; subst h0
   rw[show 2121=101+(101*19+101)from rfl,MS_B hx 19 101 (Nat.le_refl _)]
   refine List.map_congr_left fun p hp=>?_
   rw[if_pos (List.mem_range.1 hp)]
   rfl
  ·rw[if_neg hl,MS_A hx hl]
end Go.Cu
end
section
set_option linter.unusedVariables false
set_option linter.unusedSimpArgs false
set_option linter.constructorNameAsVariable false
namespace Go.Ev
open Go.Lw Go.RowKit Go.Proofs
abbrev Sm:=Go.Cu.Sm
noncomputable def nI {Z:Type} (n:Int) (K:Int→Z):Z:=Int.rec (motive:=fun _=>Z) (fun m=>nat m fun m=>K (.ofNat m)) (fun m=>nat m fun m=>K (.negSucc m)) n
theorem nI_eq {Z:Type} (n:Int) (K:Int→Z):nI n K=K n:=by
 cases n with
 | ofNat m=>exact nat_eq m fun m=>K (.ofNat m)
 | negSucc m=>exact nat_eq m fun m=>K (.negSucc m)
noncomputable def prs:List Sc→Option (List Sm)
 | .i .i64 a::.i .i64 b::l=>(match prs l with | some r=>some (⟨a,b⟩::r) | none=>none)
 | []=>some []
 | _=>none
noncomputable def goodB (s:Sm):Bool:=jF 0 s.p && jF s.p 100 && jF (-10) s.m && jF s.m 10
noncomputable def bldF {Z:Type} (f:Nat→Sm×Sm) (q:Int) (l:List Nat) (K:List (AV×AV)→Option Z):Option Z:=
 List.rec (motive:=fun _=>(List (AV×AV)→Option Z)→Option Z) (fun K=>K []) (fun j _ ih K=>nI (f j).1.p fun a=>jZ (jF (-q) a && jF a q)
  (nI (f j).1.m fun b=>nI (f j).2.p fun c=>nI (f j).2.m fun d=>ih fun r=>K ((.a [.i .i64 a,.i .i64 b],.a [.i .i64 c,.i .i64 d])::r)) (ih K)) l K
noncomputable def shF (x lo hi:Int):Nat→Sm×Sm:=bif ieqB x 0 then fun _=>(⟨0,0⟩,⟨0, -10⟩)else bif ieqB lo hi then fun p=>(⟨x*(p:Int),0⟩,⟨(p:Int),10⟩)else fun j=>(⟨x*Go.Cu.kP j,x*Go.Cu.kM j⟩,⟨Go.Cu.kP j,Go.Cu.kM j⟩)
noncomputable def shN (x lo hi:Int):Nat:=bif ieqB x 0 then 1 else bif ieqB lo hi then 101 else 2121
noncomputable def rd3 {Z:Type} (l:List Sc) (K:So→Int→Int→Option Z):Option Z:=match l with | [.o so,.i .i64 lo,.i .i64 hi]=>K so lo hi | _=>none
noncomputable def sliceS (h:H) (so:So) (K:Nat→Nat→Nat→R):R:=match so with | .s i o m c=>gd (Nat.ble m c && Nat.ble c 1000000) (K i o m) | .w i o m _=>rowK h i fun _ _ _=>K i o m | _=>none
noncomputable def orSheets:Orc:=.mk fun args h K=>kK args fun bp xv=>asP bp fun id off=>gd (Nat.beq off 0) (asI xv fun k x=>gd (Nat.beq (kNo k) (kNo .i64)) (jB h id fun E n t=>gd (Nat.ble 3 n) (getL t 0 3 fun r=>rd3 r fun so lo hi=>
 sliceS h so fun i o m=>csE i o m 2 h fun _ cs=>obn (prs cs) fun S=>gd (jF (-100) x && jF x 100 && jF 0 lo && jF lo 50 && jF 0 hi && jF hi 50 && Nat.ble 1 m && Nat.ble m 7 && S.all goodB && (!ieqB lo hi || ieqB lo 0)) (
 nI (Go.Cu.mostS ((m:Int)-1-(m:Int) / 2) lo S) fun q=>bldF (shF x lo hi) q (List.range (shN x lo hi)) fun l=>newB h (.o (.m l)) fun id h=>K (.x (.o (.m id))) h))))
def absE (e:Sm×Sm×Nat):AV×AV:=(.a [.i .i64 e.1.p,.i .i64 e.1.m],.a [.i .i64 e.2.1.p,.i .i64 e.2.1.m])
theorem bldF_eq {Z:Type} (f:Nat→Sm×Sm) (q:Int):∀ (l:List Nat) (K:List (AV×AV)→Option Z),bldF f q l K=K (((l.map fun j=>((f j).1,(f j).2,j)).filter (Go.Cu.inS q)).map absE)
 | [],K=>rfl
 | j::l,K=>by
  have e:bldF f q (j::l) K=nI (f j).1.p fun a=>jZ (jF (-q) a && jF a q)
   (nI (f j).1.m fun b=>nI (f j).2.p fun c=>nI (f j).2.m fun d=>bldF f q l fun r=>K ((.a [.i .i64 a,.i .i64 b],.a [.i .i64 c,.i .i64 d])::r)) (bldF f q l K):=rfl
  rw[e,nI_eq,kg,kg,nI_eq,nI_eq,nI_eq,bldF_eq f q l,bldF_eq f q l]
  simp only[List.map_cons,List.filter_cons]
  by_cases c:Go.Cu.inS q ((f j).1,(f j).2,j)=true
  ·have c' : -q≤(f j).1.p∧(f j).1.p≤q:=by simpa [Go.Cu.inS]using c
   rw[if_pos c,decide_eq_true c'.1,decide_eq_true c'.2]
   rfl
  ·rw[if_neg c]
   have c':(decide (-q≤(f j).1.p) && decide ((f j).1.p≤q))=false:=by
    simp only[Go.Cu.inS,decide_eq_true_eq]at c
    rw[Bool.and_eq_false_iff,decide_eq_false_iff_not,decide_eq_false_iff_not]
    omega
   rw[c']
   rfl
theorem sh_ent (x lo hi:Int):(List.range (shN x lo hi)).map (fun j=>((shF x lo hi j).1,(shF x lo hi j).2,j))=Go.Cu.ent x lo hi:=by
 unfold shN shF Go.Cu.ent
 rw[ieqB_eq,ieqB_eq]
 by_cases hx:x=0
 ·rw[if_pos hx,decide_eq_true hx]; rfl
 ·rw[if_neg hx,decide_eq_false hx]
  by_cases hl:lo=hi
  ·rw[if_pos hl,decide_eq_true hl]; rfl
  ·rw[if_neg hl,decide_eq_false hl]; rfl
theorem prs_law {e:Env} : ∀ {cs:List Sc} {S:List Sm} {us:List Value},prs cs=some S→zO (DnC e) cs us→us=flat Go.Cu.sme S∧cs.length=S.length*2
 | [],S,us,h,ha=>by
  unfold prs at h
  cases h
  cases us with
  | nil=>exact⟨rfl,rfl⟩
  | cons _ _=>exact ha.elim
 | [a],S,us,h,ha=>by
  unfold prs at h
  split at h
  ·rename_i h2; cases h2
  ·rename_i h2; cases h2
  ·cases h
 | a::b::l,S,us,h,ha=>by
  unfold prs at h
  split at h
  ·rename_i a' b' l' h2
   cases h2
   split at h
   ·rename_i r hr
    cases h
    match us,ha with
    | u::v::us,ha=>
     obtain⟨h1,h2⟩:=prs_law hr ha.2.2
     have e1:u=.int .i64 a':=ha.1.1
     have e2:v=.int .i64 b':=ha.2.1.1
     subst e1; subst e2
     refine⟨by rw[h1]; rfl,by simp[h2]; omega⟩
    | [],ha=>exact ha.elim
    | [_],ha=>exact ha.2.elim
   ·cases h
  ·cases ‹_::_=[]›
  ·cases h
theorem ents_ok {e:Env} : ∀ M:List (Sm×Sm×Nat),zO (DnE e) (M.map absE) (M.map (mE Go.Cu.smv Go.Cu.smv))
 | []=>trivial
 | _::M=>⟨⟨⟨_,rfl,⟨rfl,rfl⟩,⟨rfl,rfl⟩,trivial⟩,⟨_,rfl,⟨rfl,rfl⟩,⟨rfl,rfl⟩,trivial⟩⟩,ents_ok M⟩
theorem csE_cells {w0:World} {e:Env} {h:H} {w:World} (R:zG w0 e h w) {id off n s:Nat} (hd:e.dom id) {Z:Type} {z:Z} {K:Nat→List Sc→Option Z} (hh:csE id off n s h K=some z):∃ l us,K n l=some z∧l.length=n*s∧zO (DnC e) l us∧∀ j u,us[j]? = some u→w.cell? ((adr e id off).add j)=some u:=by
 cases n with
 | zero=>exact⟨[],[],hh,by simp,trivial,fun j u hj=>by simp at hj⟩
 | succ n=>
  have h':(jB h id fun E q t=>gd (Nat.ble (off+(n+1)*s) q) (getL t off ((n+1)*s) fun r=>K (n+1) r))=some z:=hh
  obtain⟨E,q,t,hb,h'⟩:=je h'
  obtain⟨h1,h'⟩:=zw h'
  have h1:=Nat.le_of_ble_eq_true h1
  obtain⟨l,h2,h3,h'⟩:=getL_law h'
  obtain⟨us,k1,k2,k3⟩:=R.row hd hb h3 (by omega)
  exact⟨l,us,h',h2,k2,k3⟩
theorem sliceS_law {w0:World} {e:Env} {h:H} {w:World} {z:List (AV×H)} (R:zG w0 e h w) {so:So} {v:Value} {K:Nat→Nat→Nat→Ev.R} (hh:sliceS h so K=some z) (hx:DnO e so v):∃ i o m c,v=.slice (some (adr e i o)) m c∧e.dom i∧m≤c∧c≤maxLen∧K i o m=some z:=by
 unfold sliceS at hh
 split at hh
 ·rename_i i o m c
  obtain⟨hd,rfl⟩:=hx
  obtain⟨g,hh⟩:=zw hh
  rw[Bool.and_eq_true]at g
  have g1:=Nat.le_of_ble_eq_true g.1
  have g2:=Nat.le_of_ble_eq_true g.2
  exact⟨i,o,m,c,rfl,hd,g1,by unfold maxLen; omega,hh⟩
 ·rename_i i o m c
  obtain⟨hd,rfl,hc⟩:=hx
  obtain⟨E,n,t,hb,hh⟩:=rowK_law hh
  have ok:=R.ok i hd
  rw[hb]at ok
  obtain⟨cs,zz,k1,k2,k3,k4,k5⟩:=ok
  exact⟨i,o,m,_,rfl,hd,by omega,by omega,hh⟩
 ·cases hh
theorem sheets_ok (w0:World):FOk w0 orSheets.g 342:=by
 intro e h K z args us w hh ha R
 refine⟨by rw[jH]; exact zu Tryz.func342 (by kernel_rfl) (by kernel_rfl),?_⟩
 have hh':kK args _=some z:=hh
 obtain⟨bp,xv,rfl,hq⟩:=kJ hh'
 obtain⟨id,off,rfl,hq⟩:=jo hq
 obtain⟨g1,hq⟩:=zw hq
 have:=Nat.eq_of_beq_eq_true g1; subst this
 obtain⟨k,x,rfl,hq⟩:=qR hq
 obtain⟨g2,hq⟩:=zw hq
 have hk:k=.i64:=by
  have:=Nat.eq_of_beq_eq_true g2
  cases k<;>first | rfl | cases this
 subst hk
 obtain⟨E,n,t,hb,hq⟩:=je hq
 obtain⟨g3,hq⟩:=zw hq
 obtain⟨r,r1,r2,hq⟩:=getL_law hq
 unfold rd3 at hq
 split at hq
 rotate_left
 ·cases hq
 rename_i so lo hi
 match us,ha with
 | [u,v],ha=>
  obtain⟨hd,rfl⟩:e.dom id∧u=.pointer (some (adr e id 0)):=ha.1
  obtain rfl:v=.int .i64 x:=ha.2.1
  obtain⟨us3,u1,u2,u3⟩:=R.row hd hb r2 (by have:=Nat.le_of_ble_eq_true g3; simpa using this)
  match us3,u2 with
  | [v0,v1,v2],u2=>
   obtain rfl:v1=.int .i64 lo:=u2.2.1.1
   obtain rfl:v2=.int .i64 hi:=u2.2.2.1.1
   have hv0:DnO e so v0:=u2.1.1
   obtain⟨i,o,m,c,rfl,hdi,hmc,hcm,hq⟩:=sliceS_law R hq hv0
   obtain⟨cs,us,hq,hcl,hcu,hcc⟩:=csE_cells R hdi hq
   obtain⟨S,hS,hq⟩:=zP hq
   obtain⟨g4,hq⟩:=zw hq
   simp only[Bool.and_eq_true,kg,ieqB_eq,decide_eq_true_eq,Bool.or_eq_true,Bool.not_eq_true',decide_eq_false_iff_not]at g4
   obtain⟨⟨⟨⟨⟨⟨⟨⟨⟨a1,a2⟩,a3⟩,a4⟩,a5⟩,a6⟩,a7⟩,a8⟩,a9⟩,a10⟩:=g4
   have a7:=Nat.le_of_ble_eq_true a7
   have a8:=Nat.le_of_ble_eq_true a8
   rw[nI_eq,bldF_eq,sh_ent]at hq
   obtain⟨rfl,hlen⟩:=prs_law hS hcu
   have hm:m=S.length:=by omega
   subst hm
   have hsl:Sl (hp w) Go.Cu.sme 2 (.slice (some (adr e i o)) S.length c) S:=Sl.of_cells (fun _=>rfl) (fun j u hj=>by rw[vcell_hp]; exact hcc j u hj) hmc hcm
   have cell:∀ (j:Nat) (u:Value),[Value.slice (some (adr e i o)) S.length c,.int .i64 lo,.int .i64 hi][j]? = some u→Cells (hp w) ⟨e.blk id,j,none⟩ [u]:=fun j u hj q v hv=>by
    cases q with
    | zero=>
     simp at hv
     subst hv
     rw[vcell_hp,Addr.add_lit,Nat.add_zero]
     have:=u3 j u hj
     rwa[jE,Nat.zero_add]at this
    | succ q=>simp at hv
   have hgood:∀ s∈S,Go.Cu.good s:=fun s hs=>by
    have:=List.all_eq_true.1 a9 s hs
    unfold goodB at this
    simp only[Bool.and_eq_true,kg,decide_eq_true_eq]at this
    exact⟨this.1.1.1,this.1.1.2,this.1.2,this.2⟩
   have F:=YtfmmggphdeiajaaGreatDoor.sheets_f x lo hi S (some (adr e i o)) c (e.blk id) ⟨by omega,by omega⟩ ⟨by omega,by omega⟩ ⟨by omega,by omega⟩ hgood ⟨by omega,by omega⟩ (hp w) (cell 0 _ rfl) (cell 1 _ rfl) (cell 2 _ rfl) hsl
   rw[jH]
   refine(F w (Le.refl _)).mono fun en w' ⟨q,V',h1,h2,h3,h4,h5,mb,h6,h7,h8⟩=>⟨q,h1,?_⟩
   subst h6
   have hb':w'.heap[mb]? = some (qV Go.Cu.smv Go.Cu.smv (Go.Cu.shM x lo hi (Go.Cu.mostS ((S.length:Int)-1-(S.length:Int) / 2) lo S)) (Go.Cu.MS x lo hi (Go.Cu.endK x)).2):=h4 _ _ h8
   have hlt:mb<w'.heap.size:=(Array.getElem?_eq_some_iff.1 hb').1
   have hge:w.heap.size≤mb:=by
    have:w.heap[mb]? = none:=h7
    simpa using this
   have hend:=Go.Cu.MS_end (x:=x) (lo:=lo) (hi:=hi) (fun h=>a10.resolve_left (fun h'=>h' h))
   have hok:=Go.Cu.MS_ok x lo hi (Go.Cu.endK x)
   refine R.alloc (al:=⟨.o (.m _),fun id=>.x (.o (.m id))⟩) ⟨h2,rfl,fun id hid=>⟨mb,0,.nilFunc,fun _=>⟨hge,hlt⟩,fun h=>⟨_,_,by rw[qy]; exact hb',?_⟩,⟨.inl rfl,by rw[qy]⟩⟩⟩ hq
   unfold Go.Cu.shM
   rw[hend]
   refine⟨ents_ok _,?_,?_⟩
   ·rw[List.map_map]
    have:=hok.borns
    rw[hend]at this
    exact this.sublist (List.filter_sublist.map _)
   ·intro en hen
    obtain⟨e1,he1,rfl⟩:=List.mem_map.1 hen
    have:=hok.lt e1 (by rw[hend]; exact(List.mem_filter.1 he1).1)
    exact this
  | [],u2=>exact u2.elim
  | [_],u2=>exact u2.2.elim
  | [_,_],u2=>exact u2.2.2.elim
  | _::_::_::_::_,u2=>exact u2.2.2.2.elim
 | [],ha=>exact ha.elim
 | [_],ha=>exact ha.2.elim
 | _::_::_::_,ha=>exact ha.2.2.elim
end Go.Ev
namespace Go.Ev
noncomputable def O2 (f:FuncId):Option Orc:=bif Nat.beq f 342 then some orSheets else O1 f
theorem oc2 (w0:World):OcOk w0 O2:=by
 intro f o h
 unfold O2 at h
 cases c:Nat.beq f 342 with
 | true=>
  rw[c]at h
  obtain rfl:=Nat.eq_of_beq_eq_true c
  cases h
  exact @sheets_ok w0
 | false=>rw[c]at h; exact oc1 w0 f o h
end Go.Ev
end
section
set_option linter.unusedVariables false
namespace Go.Bl
open Go.Gl Go.Lw
def stL (t s:Nat):List Nat:=if mtB t s=true then [s]else ((List.range 15).filter fun i=>t.testBit i).map fun i=>s ||| 2 ^ i
def gsL (ls:List Nat):Nat→List Nat
 | 0=>[0]
 | k+1=>(gsL ls k).flatMap (stL (ls.getD k 0))
theorem mem_stL {t s x:Nat} : x∈stL t s↔Stp t s x:=by
 unfold stL Stp
 by_cases c:mtB t s=true
 ·rw[if_pos c]
  simp[c]
 ·rw[if_neg c]
  have c':mtB t s=false:=by simpa using c
  simp only[c',List.mem_map,List.mem_filter,List.mem_range]
  constructor
  ·rintro⟨i,⟨h1,h2⟩,h3⟩; exact .inr ⟨trivial,i,h1,h2,h3.symm⟩
  ·rintro(⟨h,_⟩ | ⟨_,i,h1,h2,h3⟩)
   ·cases h
   ·exact⟨i,⟨h1,h2⟩,h3.symm⟩
theorem mem_gsL {ls:List Nat} : ∀ {k x:Nat},x∈gsL ls k↔GsK ls k x
 | 0,x=>by simp[gsL,GsK]
 | k+1,x=>by
  simp only[gsL,GsK,List.mem_flatMap,mem_stL,mem_gsL]
def lexT (A B:Nat):Bool:=(List.range 15).any fun i=>A.testBit i && !B.testBit i && (List.range i).all fun j=>A.testBit j == B.testBit j
theorem lexT_law {A B:Nat} (h:lexT A B=true):LexB A B:=by
 obtain⟨i,_,h2⟩:=List.any_eq_true.1 h
 simp only[Bool.and_eq_true,Bool.not_eq_true',List.all_eq_true,List.mem_range,beq_iff_eq]at h2
 exact⟨i,h2.1.1,h2.1.2,h2.2⟩
def pwB:List Nat→Bool
 | []=>true
 | x::l=>l.all (lexT x) && pwB l
theorem pwB_law:∀ {l:List Nat},pwB l=true→l.Pairwise LexB
 | [],_=>List.Pairwise.nil
 | x::l,h=>by
  simp only[pwB,Bool.and_eq_true,List.all_eq_true]at h
  exact List.Pairwise.cons (fun y hy=>lexT_law (h.1 y hy)) (pwB_law h.2)
def insT (x:Nat):List Nat→List Nat
 | []=>[x]
 | y::l=>if x=y then y::l else if lexT x y=true then x::y::l else y::insT x l
def mnL (G:List Nat):Nat:=G.foldl (fun m x=>min m (cnt x)) 99
def smR (G:List Nat) (mn:Nat):List Nat:=(G.filter fun x=>Nat.ble (cnt x) mn).foldl (fun l x=>insT x l) []
def smC (G lc:List Nat) (mn:Nat):Bool:=!lc.isEmpty && pwB lc && lc.all (fun x=>G.contains x && Nat.ble (cnt x) mn) && G.all fun x=>Nat.ble mn (cnt x) && (lc.contains x || !Nat.ble (cnt x) mn)
theorem smC_law {ls lc l:List Nat} {mn:Nat} (h:smC (gsL ls ls.length) lc mn=true) (ho:l.Pairwise LexB) (hm:∀ x,x∈l↔GsK ls ls.length x∧∀ y,GsK ls ls.length y→cnt x≤cnt y):l=lc:=by
 unfold smC at h
 simp only[Bool.and_eq_true,List.all_eq_true,List.contains_iff_mem,Nat.ble_eq,Bool.or_eq_true,Bool.not_eq_true']at h
 obtain⟨⟨⟨h0,h1⟩,h2⟩,h3⟩:=h
 refine lex_ext ho (pwB_law h1) fun x=>?_
 rw[hm]
 constructor
 ·rintro⟨a,b⟩
  rcases(h3 x (mem_gsL.2 a)).2 with c | c
  ·exact c
  ·cases lc with
   | nil=>cases h0
   | cons y lc=>
    obtain⟨k1,k2⟩:=h2 y (by simp)
    have:=b y (mem_gsL.1 k1)
    rw[Nat.ble_eq_true_of_le (by omega)]at c
    cases c
 ·intro hx
  obtain⟨a,b⟩:=h2 x hx
  exact⟨mem_gsL.1 a,fun y hy=>Nat.le_trans b (h3 y (mem_gsL.2 hy)).1⟩
end Go.Bl
end
section
namespace Go.Proofs.YtfmmggphdeiajaaGreatDoor
open Go
theorem pin_laid_first:Tryz.pinned.checked.prog.pinnedFits "unicode/utf8.first" = true:=by kernel_rfl
theorem noOwnUnsafe:Tryz.pinned.checked.prog.headLifts.contains "ownunsafe" = false:=by kernel_rfl
end Go.Proofs.YtfmmggphdeiajaaGreatDoor
end
section
namespace Go.Proofs.YtfmmggphdeiajaaGreatDoor
open Go
theorem fits1:Tryz.pinned.checked.prog.listedFits [("unicode/utf8.first",Rows.laid_unicode_utf8_first),("unicode/utf8.acceptRanges",Rows.laid_unicode_utf8_acceptRanges)]=true:=by
 unfold Program.listedFits
 rw[noOwnUnsafe]
 kernel_rfl
end Go.Proofs.YtfmmggphdeiajaaGreatDoor
end
