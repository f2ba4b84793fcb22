/- A part. -/
import Derived.Test.YtnffcfhdnjbdbaaGreatDoorQ7
import Derived.Test.YtnffcfhdnjbdbaaGreatDoorQ9
import Derived.Test.YtnffcfhdnjbdbaaGreatDoorQ10
import Derived.Test.YtnffcfhdnjbdbaaGreatDoorQ11
import Derived.Test.YtnffcfhdnjbdbaaGreatDoorQ12
import Derived.Test.YtnffcfhdnjbdbaaGreatDoorQ13
import Derived.Test.YtnffcfhdnjbdbaaGreatDoorQ24
import Derived.Test.YtnffcfhdnjbdbaaGreatDoorQ25
import Derived.Test.YtnffcfhdnjbdbaaGreatDoorQ26
import Derived.Test.YtnffcfhdnjbdbaaGreatDoorQ27
import Derived.Test.YtnffcfhdnjbdbaaGreatDoorQ28
import Derived.Test.YtnffcfhdnjbdbaaGreatDoorQ31
import Derived.Test.YtnffcfhdnjbdbaaGreatDoorQ32
import Derived.Test.YtnffcfhdnjbdbaaGreatDoorQ33
import Derived.Test.YtnffcfhdnjbdbaaGreatDoorQ34
import Derived.Test.YtnffcfhdnjbdbaaGreatDoorQ35
set_option linter.unusedVariables false
set_option linter.unusedSimpArgs false
set_option linter.unusedSectionVars false
set_option linter.constructorNameAsVariable false
noncomputable section
namespace Go.Ev
open Go.Lw Go.RowKit Go.Proofs
theorem bodyOf_eq {f:FuncId} {fn:Func} {c:Code} (hf:Pr.funcs[f]? = some fn) (hb:fn.body=some c):qA f=c:=by unfold qA;rw[hf];dsimp only;rw[hb]
theorem resOf_eq {f:FuncId} {fn:Func} (hf:Pr.funcs[f]? = some fn):resOf f=fn.results.toList:=by unfold resOf;rw[hf]
theorem body_is {f:FuncId} {fn:Func} (hf:Pr.funcs[f]? = some fn) (hb:fn.body.isSome=true):fn.body=some (qA f):=by
 cases h:fn.body with
 | none=>rw[h]at hb;cases hb
 | some c=>rw[bodyOf_eq hf h]
theorem not_in {l:List Nat} {n:Nat} (h:l.contains n=false):n∉l:=by simpa using h
theorem drp_add (m:Nat):∀ (n:Nat) (c:Code),drpC m (drpC n c)=drpC (n+m) c
 | 0,c=>by rw[Nat.zero_add];rfl
 | n+1,c=>by
  rw[Nat.add_right_comm];cases c with
  | seq a b=>exact drp_add m n b
  | _=>cases m<;>rfl
theorem ok04:okC 276 (qA 414)=true:=by decide +kernel
theorem wr04:(wrC (qA 414)).contains 1000=false:=by decide +kernel
theorem ok04b:okC 276 (drpC 12 (qA 414))=true:=by decide +kernel
theorem wr04b:(wrC (drpC 12 (qA 414))).contains 1000=false:=by decide +kernel
theorem ok04c:okC 276 (drpC 13 (qA 414))=true:=by decide +kernel
theorem re04:(resOf 414).all (okR 276)=true:=by decide +kernel
theorem works04 (w:World):Calls Pr 414 #[] w λen w'=>en=.returned (.bool true)/\Below w.heap.size w w':=by
 have hf:Pr.funcs[414]? = some Tryz.f414:=by rw[jf];exact Tryz.func414
 have hn:Tryz.f414.ntmps=276:=by kernel_rfl
 have hb:=body_is hf (by kernel_rfl)
 have hd:drpC 1 (drpC 12 (qA 414))=drpC 13 (qA 414):=drp_add 1 12 _
 refine staged_true hf hb (by rw[hn];rfl) w ?_;have oc:=oc1 w;have key:∀ {n:Nat},n=276->PC w n (QT w Tryz.f414) (qA 414) L3.e H.e:=λ {n} hn=>by subst hn;refine stage oc u04a ok04 (not_in wr04) (mkH_law (by decide +kernel) (by decide +kernel)) ?_;refine stage oc u04b ok04b (not_in wr04b) (mkH_law (by decide +kernel) (by decide +kernel)) ?_;have:=stage_end (fn:=Tryz.f414) oc (c:=drpC 13 (qA 414)) (by rw[<-resOf_eq hf];exact u04c) (by rw[‹Tryz.f414.ntmps=276›];exact ok04c) (by rw[<-resOf_eq hf,‹Tryz.f414.ntmps=276›];exact re04);rw[‹Tryz.f414.ntmps=276›]at this;rw[hd];exact this
 exact key hn
theorem ok02:okC 290 (qA 485)=true:=by decide +kernel
theorem wr02:(wrC (qA 485)).contains 1000=false:=by decide +kernel
theorem ok02b:okC 290 (drpC 11 (qA 485))=true:=by decide +kernel
theorem re02:(resOf 485).all (okR 290)=true:=by decide +kernel
theorem works02 (w:World):Calls Pr 485 #[] w λen w'=>en=.returned (.bool true)/\Below w.heap.size w w':=by
 have hf:Pr.funcs[485]? = some Tryz.f485:=by rw[jf];exact Tryz.func485
 have hn:Tryz.f485.ntmps=290:=by kernel_rfl
 have hb:=body_is hf (by kernel_rfl)
 refine staged_true hf hb (by rw[hn];rfl) w ?_;have oc:=o0_ok w;have key:∀ {n:Nat},n=290->PC w n (QT w Tryz.f485) (qA 485) L3.e H.e:=λ {n} hn=>by subst hn;refine stage oc u02a ok02 (not_in wr02) (mkH_law (by decide +kernel) (by decide +kernel)) ?_;have:=stage_end (fn:=Tryz.f485) oc (c:=drpC 11 (qA 485)) (by rw[<-resOf_eq hf];exact u02b) (by rw[‹Tryz.f485.ntmps=290›];exact ok02b) (by rw[<-resOf_eq hf,‹Tryz.f485.ntmps=290›];exact re02);rw[‹Tryz.f485.ntmps=290›]at this;exact this
 exact key hn
def decM:List (AV×AV)->Option (List (Sm×Int))
 | []=>some []
 | (.a [.i .i64 p,.i .i64 m],.x (.i .i64 n))::l=>(match decM l with | some r=>some ((⟨p,m⟩,n)::r) | none=>none)
 | _=>none
def okW1 (e:Sm×Int):Bool:=qO 0 e.1.p && qO e.1.p e.1.m && qO e.1.m 100 && qO 0 e.2 && qO e.2 1000
def stepE (M:List (Sm×Int)) (T:List Go.St.Ent) (h:Nat) (K:Go.St.Ent->R):R:=
 nI (Go.St.mxI (Go.St.gtE T 0).1 ((Go.St.endW M h).map (Go.St.valW T h))) λbest=>jV (ieqB best (Go.St.gtE T 0).1) (K (Go.St.gtE T 0))
  (K (best,((Go.St.endW M h).filter λe=>decide (Go.St.valW T h e=best)).flatMap λe=>(Go.St.gtE T (h-e.1.p.toNat)).2.map λS=>S++[e.1]))
def tabE (M:List (Sm×Int)) (h:Nat) (K:List Go.St.Ent->R):R:=
 Nat.rec (motive:=λ_=>(List Go.St.Ent->R)->R) (λK=>K [(0,[[]])]) (λh ih K=>ih λT=>nat h λh=>stepE M T h λe=>K (e::T)) h K
def allS (l:List (List Sm)) (f:List Sm->R):R:=List.rec (motive:=λ_=>R) (some []) (λS _ ih=>both (f S) ih) l
def flS (S:List Sm) (K:List Sc->R):R:=List.rec (motive:=λ_=>(List Sc->R)->R) (λK=>K []) (λs _ ih K=>nI s.p λp=>nI s.m λm=>ih λr=>K (.i .i64 p::.i .i64 m::r)) S K
def rowS (S:List Sm) (h:H) (K:KV):R:=nat (len S) λn=>Nat.rec (motive:=λ_=>R) (K (.x (.o (.c (.slice none 0 0)))) h) (λ_ _=>flS S λcs=>newV h (rowN 328 cs) (λid=>.x (.o (.w id 0 n 0))) K) n
def finP (K:KV) (τ:L3) (h:H):R:=asP ((q3 3).g τ) λi o=>gd (Nat.beq o 0) (jd h i λE n t=>gd (Nat.ble 1 n) (asO (t.get 0) λso=>(match so with
 | .m m=>mapB h m λl=>obn (decM l) λM=>gd (M.all okW1 && Nat.ble (len M) 1000) (tabE M 101 λT=>allS (Go.St.gtE T 0).2 λS=>rowS S h K)
 | _=>none)))
def orProof:Orc:=.mk λargs h K=>gd (Nat.ble (len args) 95) (setA args L3.e 0 λt=>cutE (fuel O1 1000) (finP K) 4 (qA 693) t h)
theorem stepE_eq (M:List (Sm×Int)) (T:List Go.St.Ent) (h:Nat) (K:Go.St.Ent->Ev.R):stepE M T h K=K (Go.St.stepS M T h):=by
 unfold stepE;rw[nI_eq,ieqB_eq];unfold Go.St.stepS;by_cases c:Go.St.mxI (Go.St.gtE T 0).1 ((Go.St.endW M h).map (Go.St.valW T h))=(Go.St.gtE T 0).1
 ·rw[if_pos c,decide_eq_true c];rfl
 ·rw[if_neg c,decide_eq_false c];rfl
theorem tabE_eq (M:List (Sm×Int)):∀ (h:Nat) (K:List Go.St.Ent->Ev.R),tabE M h K=K (Go.St.tabR M h)
 | 0,K=>rfl
 | h+1,K=>by
  have e:tabE M (h+1) K=tabE M h λT=>nat h λh=>stepE M T h λe=>K (e::T):=rfl
  rw[e,tabE_eq M h,nat_eq,stepE_eq];rfl
theorem allS_law {f:List Sm->Ev.R} {S:List Sm} : ∀ {l:List (List Sm)} {z:List (AV×H)},allS l f=some z->S∈l->∃ z',f S=some z'
 | [],_,_,h=>by cases h
 | T::l,z,hh,h=>by
  have hh':both (f T) (allS l f)=some z:=hh
  unfold both at hh';obtain⟨z1,h1,hh'⟩:=zA hh';obtain⟨z2,h2,_⟩:=zA hh';rcases List.mem_cons.1 h with rfl | h
  ·exact⟨z1,h1⟩
  ·exact allS_law h2 h
theorem flS_eq:∀ (S:List Sm) (K:List Sc->Ev.R),flS S K=K (S.flatMap λs=>[.i .i64 s.p,.i .i64 s.m])
 | [],K=>rfl
 | s::S,K=>by
  have e:flS (s::S) K=nI s.p λp=>nI s.m λm=>flS S λr=>K (.i .i64 p::.i .i64 m::r):=rfl
  rw[e,nI_eq,nI_eq,flS_eq S];rfl
theorem fl_dn {e:Env} : ∀ S:List Sm,zB (DnC e) (S.flatMap λs=>[.i .i64 s.p,.i .i64 s.m]) (flat Go.Cu.sme S)
 | []=>trivial
 | s::S=>⟨⟨rfl,rfl⟩,⟨rfl,rfl⟩,fl_dn S⟩
theorem decM_law {e:Env} : ∀ {l:List (AV×AV)} {P:List (Sm×Int)} {es:List MapEntry},decM l=some P->zB (DnE e) l es->∃ M:MM Sm Int,es=M.map (mE Go.Cu.smv Go.Cu.iv)/\P=M.map λe=>(e.1,e.2.1)
 | [],P,es,h,ha=>by
  unfold decM at h;cases h;cases es with
  | nil=>exact⟨[],rfl,rfl⟩
  | cons _ _=>exact ha.elim
 | a::l,P,es,h,ha=>by
  unfold decM at h;split at h
  ·rename_i h2;cases h2
  ·rename_i p m n l' h2;cases h2;split at h
   ·rename_i r hr;cases h
    match es,ha with
    | en::es,ha=>
     obtain⟨M,h1,h2⟩:=decM_law hr ha.2;obtain⟨vs,k1,k2⟩:=ha.1.1;have k3:en.val=.int .i64 n:=ha.1.2
     match vs,k2 with
     | [v1,v2],k2=>
      obtain rfl:v1=.int .i64 p:=k2.1.1;obtain rfl:v2=.int .i64 m:=k2.2.1.1;refine⟨(⟨p,m⟩,n,en.born)::M,?_,by rw[h2];rfl⟩;rw[h1];cases en;simp only at k1 k3;subst k1;subst k3;rfl
     | [],k2=>exact k2.elim
     | [_],k2=>exact k2.2.elim
     | _::_::_::_,k2=>exact k2.2.2.elim
    | [],ha=>exact ha.elim
   ·cases h
  ·cases h
section
variable {w0:World} {n N:Nat}
theorem cutE_law {O:FuncId->Option Orc} (OO:OcOk w0 O) {k:Nat} {Q:Exit->Act->World->Prop} {F:L3->H->Ev.R} : ∀ {m:Nat} {c:Code} {τ:L3} {h:H} {z:List (AV×H)} {e:Env} {a:Act} {w:World},cutE (fuel O k) F m c τ h=some z->okC n c=true->qF e n noZ τ a.tmps->zq w0 e h w->Dfs N e h a.defers->
  (∀ (τ':L3) (h':H) (z':List (AV×H)) (e':Env) (a':Act) (w':World),F τ' h'=some z'->qF e' n noZ τ' a'.tmps->zq w0 e' h' w'->Fr e h e' h'->Dfs N e' h' a'.defers->(drpC m c).wpIn (FW none) 0 Pr Q a' w')->c.wpIn (FW none) 0 Pr Q a w
 | 0,c,τ,h,z,e,a,w,hh,_,F',R,D,hk=>hk τ h z e a w hh F' R (.refl e h) D
 | m+1,c,τ,h,z,e,a,w,hh,hok,F',R,D,hk=>by
  cases c with
  | seq x y=>
   have hh':(codeE x).g (fuel O k) 100000 τ h (λex τ h=>Ex.rec (motive:=λ_=>Ev.R) (cutE (fuel O k) F m y τ h) (λ_=>none) none ex)=some z:=hh
   obtain⟨o1,o2⟩:=okC_seq hok;refine wpIn_seq (code_law (fn_ok OO (ih_ok OO k)) (rnd_law (ih_ok OO k)) 100000 none n N x o1 hh' F' R D (ro_nil e h) λex a' w' o=>?_);obtain⟨q,e',τ',h',z',rfl,hk2,F2,R2,Fr2,D2,ad,ag⟩:=o;cases q with
   | n=>exact cutE_law OO hk2 o2 F2 R2 D2 λτ3 h3 z3 e3 a3 w3 k1 k2 k3 k4 k5=>hk τ3 h3 z3 e3 a3 w3 k1 k2 k3 (Fr2.trans k4) k5
   | x i=>cases hk2
   | r=>cases hk2
  | _=>cases hh
end
theorem ok693:okC 95 (qA 693)=true:=by decide +kernel
theorem row_out {w0:World} {e:Env} {h:H} {w w':World} (R:zq w0 e h w) {S:List Sm} {K:KV} {z:List (AV×H)} (hh:rowS S h K=some z) {V':View} {v:Value} (hb:Below w.heap.size w w') (hv:Le V' (hp w')) (hS:YtnffcfhdnjbdbaaGreatDoor.RwS (hp w) V' v S):Out w0 e h K v w':=by
 unfold rowS at hh;rw[nat_eq,qz]at hh;rcases hS with ⟨rfl,rfl⟩ | ⟨⟨g,cap,cs,rfl,h1,h2,h3,h4,h5,h6⟩,hne⟩
 ·exact⟨_,h,e,z,hh,⟨rfl,rfl⟩,R.world hb,.refl e h⟩
 ·cases S with
  | nil=>exact absurd rfl hne
  | cons s S=>
   have hh':flS (s::S) (λcs=>newV h (rowN 328 cs) (λid=>.x (.o (.w id 0 (s::S).length 0))) K)=some z:=hh
   rw[flS_eq]at hh';obtain⟨b,hb',hh'⟩:=zA hh';obtain⟨t,rfl,t1,t2⟩:=rowN_law hb';have hg:w'.heap[g]? = some (LC cs 328):=hv _ _ h4;have hlt:g<w'.heap.size:=(Array.getElem?_eq_some_iff.1 hg).1;have hge:w.heap.size<=g:=by
    have:w.heap[g]? = none:=h3
    simpa using this
   have hcs:cs=flat Go.Cu.sme (s::S)++cs.drop ((s::S).length*2):=by rw[<-h6,List.take_append_drop]
   refine R.alloc (al:=⟨.r 328 _ t,λid=>.x (.o (.w id 0 (s::S).length 0))⟩) ⟨hb,rfl,λid hid=>⟨g,cap,.nilFunc,λ_=>⟨hge,hlt⟩,λh=>⟨cs,(true,2),by rw[qh];exact hg,?_,by rw[jf];exact YtnffcfhdnjbdbaaGreatDoor.tk328,by rw[qC];exact h5,by rw[qC];exact h2⟩,⟨.inl rfl,?_,by rw[qC];omega⟩⟩⟩ hh'
   ·rw[hcs];exact TOk.fresh' (fl_dn _) rfl t1 t2
   ·rw[qC,Nat.sub_zero,adr,qh]
theorem proof_ok (w0:World):FOk w0 orProof.g 693:=by
 intro e h K z args us w hh ha R;have hf:Pr.funcs[693]? = some Tryz.f693:=by rw[jf];exact Tryz.func693
 have hn:Tryz.f693.ntmps=95:=by kernel_rfl
 obtain⟨c1,c2,c3,c4,ct,hbody,htail⟩:=YtnffcfhdnjbdbaaGreatDoor.proof_tail;have hc:qA 693=.seq c1 (.seq c2 (.seq c3 (.seq c4 ct))):=bodyOf_eq hf hbody;have hres:Tryz.f693.results=#[.tmp 2]:=by kernel_rfl
 refine⟨zf hf (by kernel_rfl) (by rw[hbody];rfl),?_⟩;have hh':gd (Nat.ble (len args) 95) (setA args L3.e 0 λt=>cutE (fuel O1 1000) (finP K) 4 (qA 693) t h)=some z:=hh;obtain⟨g1,hh'⟩:=zk hh';have hlen:args.length<=95:=by rw[qz]at g1;exact Nat.le_of_ble_eq_true g1
 have hul:=ha.length
 obtain⟨t,hh',s1,s2⟩:=setA_law hh' (by omega);have F:qF e 95 noZ t ((⟨us⟩:Array Value)++Array.replicate (95-us.length) undef):=by
  refine⟨by simp;omega,by omega,λj v hv _=>?_⟩;by_cases cj:j<us.length
  ·have hv':us[j]? = some v:=by rw[Array.getElem?_append_left (by simpa using cj)]at hv;simpa using hv
   have hj:=List.getElem?_eq_getElem (show j<args.length by omega)
   have:=s1 j _ hj
   rw[Nat.zero_add]at this;rw[this];exact ha.at hj hv'
  ·rw[Array.getElem?_append_right (by simp;omega)]at hv;have hlt:=(Array.getElem?_eq_some_iff.1 hv).1;simp at hlt;have hv2:v=undef:=by
    rw[Array.getElem?_replicate]at hv;split at hv
    ·exact(Option.some.inj hv).symm
    ·cases hv
   rw[s2 j (by omega) (by omega),q3_e];exact hv2
 refine(jG (ro:=none) (n:=0)).1 (callsIn_of_wp_marks hf (show Tryz.f693.body=some (qA 693) by rw[hc];exact hbody) trivial ?_ rfl);rw[hn];refine cutE_law (N:=h.nxt) (oc1 w0) hh' ok693 F R ⟨Nat.le_refl _,[],rfl,List.nodup_nil,λi k=>by cases k⟩ λτ' h' z' e' a' w' hF F' R' Fr' D'=>?_;rw[hc];show ct.wpIn (FW none) 0 Pr _ a' w';obtain⟨i,o,hτ,hF⟩:=qW hF;obtain⟨g2,hF⟩:=zk hF;have:=Nat.eq_of_beq_eq_true g2;subst this;obtain⟨E,q,tv,hb,hF⟩:=qI hF;obtain⟨g3,hF⟩:=zk hF;obtain⟨so,hso,hF⟩:=qj hF;split at hF;rotate_left
 ·cases hF
 rename_i m;obtain⟨l,hm,hF⟩:=mapB_law hF;obtain⟨P,hP,hF⟩:=zA hF;obtain⟨g4,hF⟩:=zk hF;rw[Bool.and_eq_true]at g4;have g5:=Nat.le_of_ble_eq_true g4.2;rw[qz]at g5;rw[tabE_eq]at hF
 -- what is known
 have h3:a'.tmps[3]? = some (a'.tmps[3]'(by rw[F'.1];decide)):=Array.getElem?_eq_getElem _
 have d3:=F'.2.2 3 _ h3 (λk=>k)
 rw[hτ]at d3;obtain⟨di,e3⟩:e'.dom i/\a'.tmps[3]'(by rw[F'.1];decide)=.pointer (some (adr e' i 0)):=d3;rw[e3]at h3;obtain⟨cs,k1,k2⟩:=R'.cells di hb;obtain⟨s,v0,j1,j2,j3⟩:=k2.2.2 0 (Nat.le_of_ble_eq_true g3);rw[hso]at j2;cases j2;obtain⟨dm,rfl⟩:e'.dom m/\v0=.map (some (e'.blk m)):=j3.1;have ok:=R'.ok m dm;rw[hm]at ok;obtain⟨es,c,m1,m2⟩:=ok;obtain⟨M,rfl,rfl⟩:=decM_law hP m2.1;have hM:∀ e∈M,0<=e.1.p/\e.1.p<=e.1.m/\e.1.m<=100/\0<=e.2.1/\e.2.1<=1000:=λx hx=>by
  have:=List.all_eq_true.1 g4.1 _ (List.mem_map_of_mem (f:=λe:Sm×Int×Nat=>(e.1,e.2.1)) hx)
  unfold okW1 at this;simp only[Bool.and_eq_true,jr,decide_eq_true_eq]at this;exact⟨this.1.1.1.1,this.1.1.1.2,this.1.1.2,this.1.2,this.2⟩
 have hbo:(M.map (·.2.2)).Nodup:=by
  have:=m2.2.1
  rw[List.map_map]at this;exact this
 have hlt:∀ x∈M,x.2.2<c:=λx hx=>m2.2.2 _ (List.mem_map_of_mem hx)
 have cl:Cells (hp w') ⟨e'.blk i,0,none⟩ [.map (some (e'.blk m))]:=λj u hj=>by
  cases j with
  | zero=>
   simp at hj;subst hj;rw[jy,Addr.add_lit,Nat.add_zero,qP k1];exact j1
  | succ j=>simp at hj
 have hat:=htail M c hbo hlt (by simpa using g5) hM (e'.blk i) (e'.blk m) (hp w') a'.defers w' (Le.refl _) cl m1
 rw[jf];refine wpIn_mono (hat a' w' ⟨rfl,F'.1,λt v hv=>?_⟩ (Mem.start _ (Le.refl _))) λex a2 w2 hq=>?_
 ·have hv':(bif Nat.beq 3 t then some (Value.pointer (some ⟨e'.blk i,0,none⟩))else none)=some v:=hv
  cases c3:Nat.beq 3 t with
  | true=>
   rw[c3]at hv';have:=Nat.eq_of_beq_eq_true c3;subst this;cases hv';exact h3
  | false=>rw[c3]at hv';cases hv'
 obtain⟨rfl,q1,q2,q3,v,V',q4,q5,S,q6,q7⟩:=hq;obtain⟨z2,hS⟩:=allS_law hF q6;obtain⟨x,h2,e2,z3,r1,r2,r3,r4⟩:=row_out R' hS q3 q5 q7;have D2:=D'.keep r4 R';show LeavesInM (FW none) 0 Tryz.prog Tryz.f693 a2.tmps _ a2.defers .returning w2;rw[q1,<-jf];obtain⟨d0,ids,d1,d2,d3⟩:=D2;rw[d1];refine leaves_law (by simp) ids r3 d2 d3 λe4 w4 R4 G=>?_;refine⟨v,by simp[results,hres,q4],v,rfl,x,h2,e4,z3,r1,?_,R4,?_⟩
 ·rw[G.dn];exact r2
 ·have Fr':=Fr'.trans r4
  exact⟨⟨λj hj=>by rw[G.dom];exact Fr'.ext.dom j hj,λj hj=>by rw[G.blk];exact Fr'.ext.blk j hj,λj hj=>by rw[G.cap];exact Fr'.ext.cap j hj,λj hj=>by rw[G.clo];exact Fr'.ext.clo j hj,λj hj=>by rw[G.gh j (R.lt j hj)];exact Fr'.ext.gh j hj⟩,Fr'.nxt,Fr'.lo,Fr'.ac,λj hj=>Fr'.new j (by rw[G.dom]at hj;exact hj),Fr'.out,Fr'.prot,Fr'.kp⟩
def O3 (f:FuncId):Option Orc:=bif Nat.beq f 693 then some orProof else O2 f
theorem oc3 (w0:World):OcOk w0 O3:=by
 intro f o h;unfold O3 at h;cases c:Nat.beq f 693 with
 | true=>
  rw[c]at h;obtain rfl:=Nat.eq_of_beq_eq_true c;cases h;exact @proof_ok w0
 | false=>rw[c]at h;exact oc2 w0 f o h
def nts:List Sc->Option (List Nat)
 | .i .i64 (.ofNat a)::l=>(match nts l with | some r=>some (a::r) | none=>none)
 | []=>some []
 | _=>none
def nlF (l:List Nat) (K:List Nat->R):R:=List.rec (motive:=λ_=>(List Nat->R)->R) (λK=>K []) (λx _ ih K=>nat x λx=>ih λr=>K (x::r)) l K
theorem nlF_eq:∀ (l:List Nat) (K:List Nat->Ev.R),nlF l K=K l
 | [],K=>rfl
 | x::l,K=>by
  have e:nlF (x::l) K=nat x λx=>nlF l λr=>K (x::r):=rfl
  rw[e,nat_eq,nlF_eq l]
def orSmall:Orc:=.mk λargs h K=>jv args λbp=>asP bp λid off=>jd h id λE n t=>gd (Nat.ble (off+4) n) (asO (t.get (off+3)) λso=>sliceS h so λi o m=>csE i o m 1 h λ_ cs=>obn (nts cs) λls=>
 gd (Nat.ble (len ls) 16 && ls.all λs=>!Nat.beq s 0 && Nat.blt s 32768) (nlF (Go.Bl.gsL ls (len ls)) λG=>nat (Go.Bl.mnL G) λmn=>nlF (Go.Bl.smR G mn) λlc=>gd (Go.Bl.smC G lc mn) (nat (len lc) λn=>newV h (rowN 200 (lc.map λs=>.i .i64 (.ofNat s))) (λid=>.x (.o (.w id 0 n 0))) K)))
theorem nts_law {e:Env} : ∀ {cs:List Sc} {S:List Nat} {us:List Value},nts cs=some S->zB (DnC e) cs us->us=flat Go.Bl.ste S/\cs.length=S.length
 | [],S,us,h,ha=>by
  unfold nts at h;cases h;cases us with
  | nil=>exact⟨rfl,rfl⟩
  | cons _ _=>exact ha.elim
 | a::l,S,us,h,ha=>by
  unfold nts at h;split at h
  ·rename_i a' l' h2;cases h2;split at h
   ·rename_i r hr;cases h
    match us,ha with
    | u::us,ha=>
     obtain⟨h1,h2⟩:=nts_law hr ha.2;have e1:u=.int .i64 (.ofNat a'):=ha.1.1;subst e1;exact⟨by rw[h1];rfl,by simp[h2]⟩
    | [],ha=>exact ha.elim
   ·cases h
  ·cases ‹_::_=[]›
  ·cases h
theorem nt_dn {e:Env} : ∀ S:List Nat,zB (DnC e) (S.map λs=>.i .i64 (.ofNat s)) (flat Go.Bl.ste S)
 | []=>trivial
 | s::S=>⟨⟨rfl,rfl⟩,nt_dn S⟩
theorem small_ok (w0:World):FOk w0 orSmall.g 260:=by
 intro e h K z args us w hh ha R;refine⟨by rw[jf];exact zf Tryz.func260 (by kernel_rfl) (by kernel_rfl),?_⟩;have hh':jv args _=some z:=hh;obtain⟨bp,rfl,hq⟩:=jm hh';obtain⟨id,off,rfl,hq⟩:=qW hq;obtain⟨E,n,t,hb,hq⟩:=qI hq;obtain⟨g3,hq⟩:=zk hq;have g3:=Nat.le_of_ble_eq_true g3;obtain⟨so,hso,hq⟩:=qj hq
 match us,ha with
 | [u],ha=>
  obtain⟨hd,rfl⟩:e.dom id/\u=.pointer (some (adr e id off)):=ha.1;obtain⟨ds,k1,k2⟩:=R.cells hd hb;obtain⟨s,v0,j1,j2,j3⟩:=k2.2.2 (off+3) (by omega);rw[hso]at j2;cases j2;obtain⟨i,o,m,c,rfl,hdi,hmc,hcm,hq⟩:=sliceS_law R hq j3.1;obtain⟨cs,us,hq,hcl,hcu,hcc⟩:=csE_cells R hdi hq;obtain⟨S,hS,hq⟩:=zA hq;obtain⟨g4,hq⟩:=zk hq;rw[Bool.and_eq_true]at g4;have g5:=Nat.le_of_ble_eq_true g4.1;rw[nlF_eq,nat_eq,nlF_eq]at hq;obtain⟨g6,hfin⟩:=zk hq;rw[nat_eq]at hfin;simp only[qz]at hfin;rw[qz]at g5 g6;obtain⟨rfl,hlen⟩:=nts_law hS hcu;have hm:m=S.length:=by omega
  subst hm;have hsl:Sl (hp w) Go.Bl.ste 1 (.slice (some (adr e i o)) S.length c) S:=Sl.of_cells (λ_=>rfl) (λj u hj=>by rw[jy];exact hcc j u hj) hmc hcm;have hne:∀ s∈S,s≠0/\s<32768:=λs hs=>by
   have:=List.all_eq_true.1 g4.2 s hs
   rw[Bool.and_eq_true]at this;refine⟨λe=>?_,qR this.2⟩;subst e;exact absurd this.1 (by decide)
  have cl:Cells (hp w) ((adr e id off).add 3) [.slice (some (adr e i o)) S.length c]:=λj u hj=>by
   cases j with
   | zero=>
    simp at hj;subst hj;rw[jy,je,je,adr,qP k1];exact j1
   | succ j=>simp at hj
  have F:=YtnffcfhdnjbdbaaGreatDoor.smallest_g S g5 hne (hp w) (adr e id off) (some (adr e i o)) c cl hsl
  rw[jf];refine(F w (Le.refl _)).mono λen w' ⟨q,V',h1,h2,h3,h4,h5,l,h6,h7⟩=>⟨q,h1,?_⟩;have hlt:∀ x∈l,x<32768:=λx hx=>Go.Bl.gsK_lt ((h7.mem x).1 hx).1;obtain rfl:=Go.Bl.smC_law g6 (YtnffcfhdnjbdbaaGreatDoor.srt_lex hlt h7.nod h7.srt) h7.mem;obtain⟨g,cap,ds2,rfl,r1,r2,r3,r4,r5,r6⟩:=h6;obtain⟨b,hb',hfin⟩:=zA hfin;obtain⟨t2,rfl,t3,t4⟩:=rowN_law hb';have hg:w'.heap[g]? = some (LC ds2 200):=h4 _ _ r4;have hlt2:g<w'.heap.size:=(Array.getElem?_eq_some_iff.1 hg).1;have hge:w.heap.size<=g:=by
   have:w.heap[g]? = none:=r3
   simpa using this
  refine R.alloc (al:=⟨.r 200 _ t2,λid=>.x (.o (.w id 0 _ 0))⟩) ⟨h2,rfl,λid hid=>⟨g,cap,.nilFunc,λ_=>⟨hge,hlt2⟩,λh=>⟨ds2,(true,1),by rw[qh];exact hg,?_,by rw[jf];exact YtnffcfhdnjbdbaaGreatDoor.qG,by rw[qC];exact r5,by rw[qC];exact r2⟩,⟨.inl rfl,?_,by rw[qC];omega⟩⟩⟩ hfin
  ·rw[show ds2=flat Go.Bl.ste (Go.Bl.smR (Go.Bl.gsL S S.length) (Go.Bl.mnL (Go.Bl.gsL S S.length)))++ds2.drop ((Go.Bl.smR (Go.Bl.gsL S S.length) (Go.Bl.mnL (Go.Bl.gsL S S.length))).length*1) by rw[<-r6,List.take_append_drop]];exact TOk.fresh' (nt_dn _) rfl t3 t4
  ·rw[qC,Nat.sub_zero,adr,qh]
 | [],ha=>exact ha.elim
 | _::_::_,ha=>exact ha.2.elim
def orFails:Orc:=.mk λargs h K=>jW args λsv pv=>asO sv λso=>asA pv λps=>(match ps with
 | [.i .i64 a,.i .i64 b,.i .i64 c]=>gd (qO 0 a && qO a 4 && qO 0 b && qO b 4 && qO 0 c && qO c 4) (sliceS h so λi o m=>csE i o m 1 h λ_ cs=>obn (nts cs) λL=>gd (L.all λs=>Nat.blt s 32768) (nat (Go.Bl.flN L ⟨a,b,c⟩) λn=>K (.i .i64 (.ofNat n)) h))
 | _=>none)
theorem fails_ok (w0:World):FOk w0 orFails.g 167:=by
 intro e h K z args us w hh ha R;refine⟨by rw[jf];exact zf Tryz.func167 (by kernel_rfl) (by kernel_rfl),?_⟩;have hh':jW args _=some z:=hh;obtain⟨sv,pv,rfl,hp1⟩:=jL hh';obtain⟨so,rfl,hp2⟩:=qj hp1;obtain⟨ps,rfl,hq⟩:=jK hp2;clear hh hh' hp1 hp2;split at hq;rotate_left
 ·cases hq
 rename_i a b c;replace hq:=zk hq;obtain⟨g1,hq⟩:=hq;simp only[Bool.and_eq_true,jr,decide_eq_true_eq]at g1
 match us,ha with
 | [u,v],ha=>
  obtain⟨i,o,m,cc,rfl,hdi,hmc,hcm,hq⟩:=sliceS_law R hq ha.1;obtain⟨cs,us,hq,hcl,hcu,hcc⟩:=csE_cells R hdi hq;obtain⟨S,hS,hq⟩:=zA hq;obtain⟨g4,hfin⟩:=zk hq;rw[nat_eq]at hfin;obtain⟨rfl,hlen⟩:=nts_law hS hcu;have hm:m=S.length:=by omega
  subst hm;have hl4:=csE_size R hdi (z:=z) (K:=λ_ cs=>obn (nts cs) λL=>gd (L.all λs=>Nat.blt s 32768) (nat (Go.Bl.flN L ⟨a,b,c⟩) λn=>K (.i .i64 (.ofNat n)) h)) (n:=S.length) (s:=1) (off:=o) (id:=i) (by assumption);have hsl:Sl (hp w) Go.Bl.ste 1 (.slice (some (adr e i o)) S.length cc) S:=Sl.of_cells (λ_=>rfl) (λj u hj=>by rw[jy];exact hcc j u hj) hmc hcm;obtain⟨vs,rfl,hvs⟩:∃ vs,v=.agg ⟨vs⟩/\zB (DnC e) [.i .i64 a,.i .i64 b,.i .i64 c] vs:=ha.2.1
  match vs,hvs with
  | [v1,v2,v3],hvs=>
   obtain rfl:v1=.int .i64 a:=hvs.1.1;obtain rfl:v2=.int .i64 b:=hvs.2.1.1;obtain rfl:v3=.int .i64 c:=hvs.2.2.1.1;have F:=YtnffcfhdnjbdbaaGreatDoor.fails_f S (λx hx=>qR (List.all_eq_true.1 g4 x hx)) (by omega) ⟨a,b,c⟩ (by unfold Go.Bl.sndB;rw[decide_eq_true_eq];dsimp only;omega) (hp w) _ hsl;refine FOk.val (x:=.i .i64 (.ofNat (Go.Bl.flN S ⟨a,b,c⟩))) R hfin rfl ?_;rw[jf];refine(F w (Le.refl _)).mono λen w' ⟨q,V',h1,h2,h3,h4,h5,h6⟩=>⟨?_,h2⟩;rw[h1,h6];rfl
  | [],hvs=>exact hvs.elim
  | [_],hvs=>exact hvs.2.elim
  | [_,_],hvs=>exact hvs.2.2.elim
  | _::_::_::_::_,hvs=>exact hvs.2.2.2.elim
 | [],ha=>exact ha.elim
 | [_],ha=>exact ha.2.elim
 | _::_::_::_,ha=>exact ha.2.2.elim
def O4 (f:FuncId):Option Orc:=bif Nat.beq f 260 then some orSmall else bif Nat.beq f 167 then some orFails else O3 f
theorem oc4 (w0:World):OcOk w0 O4:=by
 intro f o h;unfold O4 at h;cases c:Nat.beq f 260 with
 | true=>
  rw[c]at h;obtain rfl:=Nat.eq_of_beq_eq_true c;cases h;exact @small_ok w0
 | false=>
  rw[c]at h;cases c2:Nat.beq f 167 with
  | true=>
   rw[c2]at h;obtain rfl:=Nat.eq_of_beq_eq_true c2;cases h;exact @fails_ok w0
  | false=>rw[c2]at h;exact oc3 w0 f o h
end Go.Ev
namespace Go.Proofs.YtnffcfhdnjbdbaaGreatDoor
open Go
theorem tie:Tryz.prog.laidByTextLater [("unicode/utf8.acceptRanges",Rows.laid_unicode_utf8_acceptRanges)] [.data] true:=
 Program.laidByTextLater_by_run 400 8 ta1 ta2 ta3 ta4 ta5 tb tc td te
theorem topPatchedMatch_row_tie:Rows.topPatchedMatchRow.laidByTextAt .later Tryz.pinned [.data,.pinned] true:=
 OpenClaim.laidByTextAt_pinned rfl rfl tie rfl rfl rfl rfl (λy hy _e=>by
  simp only[Rows.topPatchedMatchRow,List.zip_cons_cons,List.zip_nil_right,List.mem_cons,List.mem_nil_iff,or_false]at hy;rcases hy with rfl | rfl
  ·cases _e
  ·exact⟨pin_laid_unicode_utf8_first,by kernel_rfl⟩) fits1
end Go.Proofs.YtnffcfhdnjbdbaaGreatDoor
section
set_option maxRecDepth 100000
namespace Go.Proofs.YtnffcfhdnjbdbaaGreatDoor
open Go Go.Clo
theorem leads_ok:∀ x∈clA,leads Tryz.prog x.1=x.2:=by
 intro x hx;have:(clA.all λx=>eqL (leads Tryz.prog x.1) x.2)=true:=by unfold clA;simp only[List.all_append,le0,le1,le2,le3,le4,le5,le6,le7,Bool.and_true]
 exact eqL_eq _ _ (List.all_eq_true.1 this x hx)
theorem closure_is:Tryz.prog.closure 3=clA.map (·.1):=closure_ok _ _ _ _ chk_ok leads_ok
theorem inPlace_ok:Tryz.prog.inPlace 3=["internal/abi.NoEscape","internal/bytealg.MakeNoZero","internal/bytealg.IndexByteString","internal/bytealg.IndexString","internal/bytealg.CountString"]:=by unfold Program.inPlace;rw[closure_is];show(clA.map (·.1)).filterMap inpF=_;unfold clA;simp only[List.map_append,List.filterMap_append,ip0,ip1,ip2,ip3,ip4,ip5,ip6,ip7];rfl
theorem unf_one:(Tryz.prog.funcs[406]?).any (λfn=>match fn.body with | some c=>c.unfollowed | none=>entryCalls fn)=true:=by kernel_rfl
theorem unf_ok:Tryz.prog.unfollowed 3=true:=by unfold Program.unfollowed;rw[List.any_eq_true];exact⟨406,by rw[closure_is];decide +kernel,unf_one⟩
theorem rec_ok:Tryz.prog.recurses 3=true:=by unfold Program.recurses;rw[unf_ok,Bool.true_or]
theorem named_ok:Tryz.prog.varsNamed 3=Rows.topPatchedMatchRow.named:=by
 unfold Program.varsNamed;rw[closure_is];have a:(clA.map (·.1)).flatMap gnF=[1,2,0,0,0]:=by unfold clA;simp only[List.map_append,List.flatMap_append,gn0,gn1,gn2,gn3,gn4,gn5,gn6,gn7];rfl
 have b:(clA.map (·.1)).filterMap erF=["internal/bytealg.MaxLen"]:=by unfold clA;simp only[List.map_append,List.filterMap_append,er0,er1,er2,er3,er4,er5,er6,er7];rfl
 show((((clA.map (·.1)).flatMap gnF).eraseDups).filterMap (λg=>(Tryz.prog.globals[g]?).map (·.name))++(clA.map (·.1)).filterMap erF).eraseDups=_
 rw[a,b]
 kernel_rfl
end Go.Proofs.YtnffcfhdnjbdbaaGreatDoor
end
