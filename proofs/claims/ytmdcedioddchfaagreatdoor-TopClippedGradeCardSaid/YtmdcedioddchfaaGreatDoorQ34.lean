/- Texts that the last one of this claim imports. -/
import Derived.Test.YtmdcedioddchfaaGreatDoorQ6
import Derived.Test.YtmdcedioddchfaaGreatDoorQ8
import Derived.Test.YtmdcedioddchfaaGreatDoorQ9
import Derived.Test.YtmdcedioddchfaaGreatDoorQ10
import Derived.Test.YtmdcedioddchfaaGreatDoorQ11
import Derived.Test.YtmdcedioddchfaaGreatDoorQ12
import Derived.Test.YtmdcedioddchfaaGreatDoorQ22
import Derived.Test.YtmdcedioddchfaaGreatDoorQ23
import Derived.Test.YtmdcedioddchfaaGreatDoorQ24
import Derived.Test.YtmdcedioddchfaaGreatDoorQ25
import Derived.Test.YtmdcedioddchfaaGreatDoorQ26
import Derived.Test.YtmdcedioddchfaaGreatDoorQ29
import Derived.Test.YtmdcedioddchfaaGreatDoorQ30
import Derived.Test.YtmdcedioddchfaaGreatDoorQ31
import Derived.Test.YtmdcedioddchfaaGreatDoorQ32
import Derived.Test.YtmdcedioddchfaaGreatDoorQ33
set_option linter.unusedVariables false
set_option linter.unusedSimpArgs false
set_option linter.unusedSectionVars false
section
namespace Go.Ev
open Go.Lw Go.RowKit Go.Proofs
theorem bodyOf_eq {f:FuncId} {fn:Func} {c:Code} (hf:Pr.funcs[f]? = some fn) (hb:fn.body=some c):qO f=c:=by unfold qO; rw[hf]; dsimp only; rw[hb]
theorem resOf_eq {f:FuncId} {fn:Func} (hf:Pr.funcs[f]? = some fn):resOf f=fn.results.toList:=by unfold resOf; rw[hf]
theorem body_is {f:FuncId} {fn:Func} (hf:Pr.funcs[f]? = some fn) (hb:fn.body.isSome=true):fn.body=some (qO f):=by
 cases h:fn.body with
 | none=>rw[h]at hb; cases hb
 | some c=>rw[bodyOf_eq hf h]
theorem not_in {l:List Nat} {n:Nat} (h:l.contains n=false):n∉l:=by simpa using h
theorem drp_add (m:Nat):∀ (n:Nat) (c:Code),drpC m (drpC n c)=drpC (n+m) c
 | 0,c=>by rw[Nat.zero_add]; rfl
 | n+1,c=>by
  rw[Nat.add_right_comm]
  cases c with
  | seq a b=>exact drp_add m n b
  | _=>cases m<;>rfl
theorem ok04:okC 276 (qO 219)=true:=by decide +kernel
theorem wr04:(wrC (qO 219)).contains 1000=false:=by decide +kernel
theorem ok04b:okC 276 (drpC 12 (qO 219))=true:=by decide +kernel
theorem wr04b:(wrC (drpC 12 (qO 219))).contains 1000=false:=by decide +kernel
theorem ok04c:okC 276 (drpC 13 (qO 219))=true:=by decide +kernel
theorem re04:(resOf 219).all (okR 276)=true:=by decide +kernel
theorem works04 (w:World):Calls Pr 219 #[] w fun en w'=>en=.returned (.bool true)∧Below w.heap.size w w':=by
 have hf:Pr.funcs[219]? = some Tryz.f219:=by rw[xn]; exact Tryz.func219
 have hn:Tryz.f219.ntmps=276:=by kernel_rfl
 have hb:=body_is hf (by kernel_rfl)
 have hd:drpC 1 (drpC 12 (qO 219))=drpC 13 (qO 219):=drp_add 1 12 _
 refine staged_true hf hb (by rw[hn]; rfl) w ?_
 have oc:=oc1 w
 have key:∀ {n:Nat},n=276→PC w n (QT w Tryz.f219) (qO 219) L3.e H.e:=fun {n} hn=>by
  subst hn
  refine stage oc u04a ok04 (not_in wr04) (mkH_law (by decide +kernel) (by decide +kernel)) ?_
  refine stage oc u04b ok04b (not_in wr04b) (mkH_law (by decide +kernel) (by decide +kernel)) ?_
  have:=stage_end (fn:=Tryz.f219) oc (c:=drpC 13 (qO 219)) (by rw[←resOf_eq hf]; exact u04c) (by rw[‹Tryz.f219.ntmps=276›]; exact ok04c) (by rw[←resOf_eq hf,‹Tryz.f219.ntmps=276›]; exact re04)
  rw[‹Tryz.f219.ntmps=276›]at this
  rw[hd]
  exact this
 exact key hn
end Go.Ev
end
section
namespace Go.Ev
open Go.Lw Go.RowKit Go.Proofs
theorem ok02:okC 290 (qO 290)=true:=by decide +kernel
theorem wr02:(wrC (qO 290)).contains 1000=false:=by decide +kernel
theorem ok02b:okC 290 (drpC 11 (qO 290))=true:=by decide +kernel
theorem re02:(resOf 290).all (okR 290)=true:=by decide +kernel
theorem works02 (w:World):Calls Pr 290 #[] w fun en w'=>en=.returned (.bool true)∧Below w.heap.size w w':=by
 have hf:Pr.funcs[290]? = some Tryz.f290:=by rw[xn]; exact Tryz.func290
 have hn:Tryz.f290.ntmps=290:=by kernel_rfl
 have hb:=body_is hf (by kernel_rfl)
 refine staged_true hf hb (by rw[hn]; rfl) w ?_
 have oc:=o0_ok w
 have key:∀ {n:Nat},n=290→PC w n (QT w Tryz.f290) (qO 290) L3.e H.e:=fun {n} hn=>by
  subst hn
  refine stage oc u02a ok02 (not_in wr02) (mkH_law (by decide +kernel) (by decide +kernel)) ?_
  have:=stage_end (fn:=Tryz.f290) oc (c:=drpC 11 (qO 290)) (by rw[←resOf_eq hf]; exact u02b) (by rw[‹Tryz.f290.ntmps=290›]; exact ok02b) (by rw[←resOf_eq hf,‹Tryz.f290.ntmps=290›]; exact re02)
  rw[‹Tryz.f290.ntmps=290›]at this
  exact this
 exact key hn
end Go.Ev
end
section
set_option linter.unusedVariables false
set_option linter.unusedSimpArgs false
set_option linter.constructorNameAsVariable false
namespace Go.Ev
open Go.Lw Go.RowKit Go.Proofs
noncomputable def decM:List (AV×AV)→Option (List (Sm×Int))
 | []=>some []
 | (.a [.i .i64 p,.i .i64 m],.x (.i .i64 n))::l=>(match decM l with | some r=>some ((⟨p,m⟩,n)::r) | none=>none)
 | _=>none
noncomputable def okW1 (e:Sm×Int):Bool:=xc 0 e.1.p && xc e.1.p e.1.m && xc e.1.m 100 && xc 0 e.2 && xc e.2 1000
noncomputable def stepE (M:List (Sm×Int)) (T:List Go.St.Ent) (h:Nat) (K:Go.St.Ent→R):R:=
 nI (Go.St.mxI (Go.St.gtE T 0).1 ((Go.St.endW M h).map (Go.St.valW T h))) fun best=>kI (ieqB best (Go.St.gtE T 0).1) (K (Go.St.gtE T 0))
  (K (best,((Go.St.endW M h).filter fun e=>decide (Go.St.valW T h e=best)).flatMap fun e=>(Go.St.gtE T (h-e.1.p.toNat)).2.map fun S=>S++[e.1]))
noncomputable def tabE (M:List (Sm×Int)) (h:Nat) (K:List Go.St.Ent→R):R:=
 Nat.rec (motive:=fun _=>(List Go.St.Ent→R)→R) (fun K=>K [(0,[[]])]) (fun h ih K=>ih fun T=>nat h fun h=>stepE M T h fun e=>K (e::T)) h K
noncomputable def allS (l:List (List Sm)) (f:List Sm→R):R:=List.rec (motive:=fun _=>R) (some []) (fun S _ ih=>both (f S) ih) l
noncomputable def flS (S:List Sm) (K:List Sc→R):R:=List.rec (motive:=fun _=>(List Sc→R)→R) (fun K=>K []) (fun s _ ih K=>nI s.p fun p=>nI s.m fun m=>ih fun r=>K (.i .i64 p::.i .i64 m::r)) S K
noncomputable def rowS (S:List Sm) (h:H) (K:KV):R:=nat (len S) fun n=>Nat.rec (motive:=fun _=>R) (K (.x (.o (.c (.slice none 0 0)))) h) (fun _ _=>flS S fun cs=>newV h (rowN 148 cs) (fun id=>.x (.o (.w id 0 n 0))) K) n
noncomputable def finP (K:KV) (τ:L3) (h:H):R:=asP ((q3 3).g τ) fun i o=>gd (Nat.beq o 0) (jX h i fun E n t=>gd (Nat.ble 1 n) (asO (t.get 0) fun so=>(match so with
 | .m m=>mapB h m fun l=>obn (decM l) fun M=>gd (M.all okW1 && Nat.ble (len M) 1000) (tabE M 101 fun T=>allS (Go.St.gtE T 0).2 fun S=>rowS S h K)
 | _=>none)))
noncomputable def orProof:Orc:=.mk fun args h K=>gd (Nat.ble (len args) 95) (setA args L3.e 0 fun t=>cutE (fuel O1 1000) (finP K) 4 (qO 500) t h)
theorem stepE_eq (M:List (Sm×Int)) (T:List Go.St.Ent) (h:Nat) (K:Go.St.Ent→Ev.R):stepE M T h K=K (Go.St.stepS M T h):=by
 unfold stepE
 rw[nI_eq,ieqB_eq]
 unfold Go.St.stepS
 by_cases c:Go.St.mxI (Go.St.gtE T 0).1 ((Go.St.endW M h).map (Go.St.valW T h))=(Go.St.gtE T 0).1
 ·rw[if_pos c,decide_eq_true c]; rfl
 ·rw[if_neg c,decide_eq_false c]; rfl
theorem tabE_eq (M:List (Sm×Int)):∀ (h:Nat) (K:List Go.St.Ent→Ev.R),tabE M h K=K (Go.St.tabR M h)
 | 0,K=>rfl
 | h+1,K=>by
  have e:tabE M (h+1) K=tabE M h fun T=>nat h fun h=>stepE M T h fun e=>K (e::T):=rfl
  rw[e,tabE_eq M h,nat_eq,stepE_eq]
  rfl
theorem allS_law {f:List Sm→Ev.R} {S:List Sm} : ∀ {l:List (List Sm)} {z:List (AV×H)},allS l f=some z→S∈l→∃ z',f S=some z'
 | [],_,_,h=>by cases h
 | T::l,z,hh,h=>by
  have hh':both (f T) (allS l f)=some z:=hh
  unfold both at hh'
  obtain⟨z1,h1,hh'⟩:=zO hh'
  obtain⟨z2,h2,_⟩:=zO hh'
  rcases List.mem_cons.1 h with rfl | h
  ·exact⟨z1,h1⟩
  ·exact allS_law h2 h
theorem flS_eq:∀ (S:List Sm) (K:List Sc→Ev.R),flS S K=K (S.flatMap fun s=>[.i .i64 s.p,.i .i64 s.m])
 | [],K=>rfl
 | s::S,K=>by
  have e:flS (s::S) K=nI s.p fun p=>nI s.m fun m=>flS S fun r=>K (.i .i64 p::.i .i64 m::r):=rfl
  rw[e,nI_eq,nI_eq,flS_eq S]
  rfl
theorem fl_dn {e:Env} : ∀ S:List Sm,zN (DnC e) (S.flatMap fun s=>[.i .i64 s.p,.i .i64 s.m]) (flat Go.Cu.sme S)
 | []=>trivial
 | s::S=>⟨⟨rfl,rfl⟩,⟨rfl,rfl⟩,fl_dn S⟩
theorem decM_law {e:Env} : ∀ {l:List (AV×AV)} {P:List (Sm×Int)} {es:List MapEntry},decM l=some P→zN (DnE e) l es→∃ M:MM Sm Int,es=M.map (mE Go.Cu.smv Go.Cu.iv)∧P=M.map fun e=>(e.1,e.2.1)
 | [],P,es,h,ha=>by
  unfold decM at h
  cases h
  cases es with
  | nil=>exact⟨[],rfl,rfl⟩
  | cons _ _=>exact ha.elim
 | a::l,P,es,h,ha=>by
  unfold decM at h
  split at h
  ·rename_i h2; cases h2
  ·rename_i p m n l' h2
   cases h2
   split at h
   ·rename_i r hr
    cases h
    match es,ha with
    | en::es,ha=>
     obtain⟨M,h1,h2⟩:=decM_law hr ha.2
     obtain⟨vs,k1,k2⟩:=ha.1.1
     have k3:en.val=.int .i64 n:=ha.1.2
     match vs,k2 with
     | [v1,v2],k2=>
      obtain rfl:v1=.int .i64 p:=k2.1.1
      obtain rfl:v2=.int .i64 m:=k2.2.1.1
      refine⟨(⟨p,m⟩,n,en.born)::M,?_,by rw[h2]; rfl⟩
      rw[h1]
      cases en
      simp only at k1 k3
      subst k1; subst k3
      rfl
     | [],k2=>exact k2.elim
     | [_],k2=>exact k2.2.elim
     | _::_::_::_,k2=>exact k2.2.2.elim
    | [],ha=>exact ha.elim
   ·cases h
  ·cases h
section
variable {w0:World} {n N:Nat}
theorem cutE_law {O:FuncId→Option Orc} (OO:OcOk w0 O) {k:Nat} {Q:Exit→Act→World→Prop} {F:L3→H→Ev.R} : ∀ {m:Nat} {c:Code} {τ:L3} {h:H} {z:List (AV×H)} {e:Env} {a:Act} {w:World},cutE (fuel O k) F m c τ h=some z→okC n c=true→jc e n noZ τ a.tmps→zG w0 e h w→Dfs N e h a.defers→
  (∀ (τ':L3) (h':H) (z':List (AV×H)) (e':Env) (a':Act) (w':World),F τ' h'=some z'→jc e' n noZ τ' a'.tmps→zG w0 e' h' w'→Fr e h e' h'→Dfs N e' h' a'.defers→(drpC m c).wpIn (FW none) 0 Pr Q a' w')→c.wpIn (FW none) 0 Pr Q a w
 | 0,c,τ,h,z,e,a,w,hh,_,F',R,D,hk=>hk τ h z e a w hh F' R (.refl e h) D
 | m+1,c,τ,h,z,e,a,w,hh,hok,F',R,D,hk=>by
  cases c with
  | seq x y=>
   have hh':(codeE x).g (fuel O k) 100000 τ h (fun ex τ h=>Ex.rec (motive:=fun _=>Ev.R) (cutE (fuel O k) F m y τ h) (fun _=>none) none ex)=some z:=hh
   obtain⟨o1,o2⟩:=okC_seq hok
   refine wpIn_seq (code_law (fn_ok OO (ih_ok OO k)) (rnd_law (ih_ok OO k)) 100000 none n N x o1 hh' F' R D (ro_nil e h) fun ex a' w' o=>?_)
   obtain⟨q,e',τ',h',z',rfl,hk2,F2,R2,Fr2,D2,ad,ag⟩:=o
   cases q with
   | n=>exact cutE_law OO hk2 o2 F2 R2 D2 fun τ3 h3 z3 e3 a3 w3 k1 k2 k3 k4 k5=>hk τ3 h3 z3 e3 a3 w3 k1 k2 k3 (Fr2.trans k4) k5
   | x i=>cases hk2
   | r=>cases hk2
  | _=>cases hh
end
theorem ok500:okC 95 (qO 500)=true:=by decide +kernel
theorem row_out {w0:World} {e:Env} {h:H} {w w':World} (R:zG w0 e h w) {S:List Sm} {K:KV} {z:List (AV×H)} (hh:rowS S h K=some z) {V':View} {v:Value} (hb:Below w.heap.size w w') (hv:Le V' (hp w')) (hS:YtmdcedioddchfaaGreatDoor.RwS (hp w) V' v S):Out w0 e h K v w':=by
 unfold rowS at hh
 rw[nat_eq,qU]at hh
 rcases hS with ⟨rfl,rfl⟩ | ⟨⟨g,cap,cs,rfl,h1,h2,h3,h4,h5,h6⟩,hne⟩
 ·exact⟨_,h,e,z,hh,⟨rfl,rfl⟩,R.world hb,.refl e h⟩
 ·cases S with
  | nil=>exact absurd rfl hne
  | cons s S=>
   have hh':flS (s::S) (fun cs=>newV h (rowN 148 cs) (fun id=>.x (.o (.w id 0 (s::S).length 0))) K)=some z:=hh
   rw[flS_eq]at hh'
   obtain⟨b,hb',hh'⟩:=zO hh'
   obtain⟨t,rfl,t1,t2⟩:=rowN_law hb'
   have hg:w'.heap[g]? = some (LC cs 148):=hv _ _ h4
   have hlt:g<w'.heap.size:=(Array.getElem?_eq_some_iff.1 hg).1
   have hge:w.heap.size≤g:=by
    have:w.heap[g]? = none:=h3
    simpa using this
   have hcs:cs=flat Go.Cu.sme (s::S)++cs.drop ((s::S).length*2):=by rw[←h6,List.take_append_drop]
   refine R.alloc (al:=⟨.r 148 _ t,fun id=>.x (.o (.w id 0 (s::S).length 0))⟩) ⟨hb,rfl,fun id hid=>⟨g,cap,.nilFunc,fun _=>⟨hge,hlt⟩,fun h=>⟨cs,(true,2),by rw[qJ]; exact hg,?_,by rw[xn]; exact YtmdcedioddchfaaGreatDoor.tk148,by rw[jv]; exact h5,by rw[jv]; exact h2⟩,⟨.inl rfl,?_,by rw[jv]; omega⟩⟩⟩ hh'
   ·rw[hcs]
    exact TOk.fresh' (fl_dn _) rfl t1 t2
   ·rw[jv,Nat.sub_zero,adr,qJ]
theorem proof_ok (w0:World):FOk w0 orProof.g 500:=by
 intro e h K z args us w hh ha R
 have hf:Pr.funcs[500]? = some Tryz.f500:=by rw[xn]; exact Tryz.func500
 have hn:Tryz.f500.ntmps=95:=by kernel_rfl
 obtain⟨c1,c2,c3,c4,ct,hbody,htail⟩:=YtmdcedioddchfaaGreatDoor.proof_tail
 have hc:qO 500=.seq c1 (.seq c2 (.seq c3 (.seq c4 ct))):=bodyOf_eq hf hbody
 have hres:Tryz.f500.results=#[.tmp 2]:=by kernel_rfl
 refine⟨zu hf (by kernel_rfl) (by rw[hbody]; rfl),?_⟩
 have hh':gd (Nat.ble (len args) 95) (setA args L3.e 0 fun t=>cutE (fuel O1 1000) (finP K) 4 (qO 500) t h)=some z:=hh
 obtain⟨g1,hh'⟩:=zw hh'
 have hlen:args.length≤95:=by rw[qU]at g1; exact Nat.le_of_ble_eq_true g1
 have hul:=ha.length
 obtain⟨t,hh',s1,s2⟩:=setA_law hh' (by omega)
 have F:jc e 95 noZ t ((⟨us⟩:Array Value)++Array.replicate (95-us.length) undef):=by
  refine⟨by simp; omega,by omega,fun j v hv _=>?_⟩
  by_cases cj:j<us.length
  ·have hv':us[j]? = some v:=by
    rw[Array.getElem?_append_left (by simpa using cj)]at hv
    simpa using hv
   have hj:=List.getElem?_eq_getElem (show j<args.length by omega)
   have:=s1 j _ hj
   rw[Nat.zero_add]at this
   rw[this]
   exact ha.at hj hv'
  ·rw[Array.getElem?_append_right (by simp; omega)]at hv
   have hlt:=(Array.getElem?_eq_some_iff.1 hv).1
   simp at hlt
   have hv2:v=undef:=by
    rw[Array.getElem?_replicate]at hv
    split at hv
    ·exact(Option.some.inj hv).symm
    ·cases hv
   rw[s2 j (by omega) (by omega),q3_e]
   exact hv2
 refine(jB (ro:=none) (n:=0)).1 (callsIn_of_wp_marks hf (show Tryz.f500.body=some (qO 500) by rw[hc]; exact hbody) trivial ?_ rfl)
 rw[hn]
 refine cutE_law (N:=h.nxt) (oc1 w0) hh' ok500 F R ⟨Nat.le_refl _,[],rfl,List.nodup_nil,fun i k=>by cases k⟩ fun τ' h' z' e' a' w' hF F' R' Fr' D'=>?_
 rw[hc]
 show ct.wpIn (FW none) 0 Pr _ a' w'
 obtain⟨i,o,hτ,hF⟩:=jP hF
 obtain⟨g2,hF⟩:=zw hF
 have:=Nat.eq_of_beq_eq_true g2; subst this
 obtain⟨E,q,tv,hb,hF⟩:=jG hF
 obtain⟨g3,hF⟩:=zw hF
 obtain⟨so,hso,hF⟩:=qL hF
 split at hF
 rotate_left
 ·cases hF
 rename_i m
 obtain⟨l,hm,hF⟩:=mapB_law hF
 obtain⟨P,hP,hF⟩:=zO hF
 obtain⟨g4,hF⟩:=zw hF
 rw[Bool.and_eq_true]at g4
 have g5:=Nat.le_of_ble_eq_true g4.2
 rw[qU]at g5
 rw[tabE_eq]at hF
 -- what is known
 have h3:a'.tmps[3]? = some (a'.tmps[3]'(by rw[F'.1]; decide)):=Array.getElem?_eq_getElem _
 have d3:=F'.2.2 3 _ h3 (fun k=>k)
 rw[hτ]at d3
 obtain⟨di,e3⟩:e'.dom i∧a'.tmps[3]'(by rw[F'.1]; decide)=.pointer (some (adr e' i 0)):=d3
 rw[e3]at h3
 obtain⟨cs,k1,k2⟩:=R'.cells di hb
 obtain⟨s,v0,j1,j2,j3⟩:=k2.2.2 0 (Nat.le_of_ble_eq_true g3)
 rw[hso]at j2
 cases j2
 obtain⟨dm,rfl⟩:e'.dom m∧v0=.map (some (e'.blk m)):=j3.1
 have ok:=R'.ok m dm
 rw[hm]at ok
 obtain⟨es,c,m1,m2⟩:=ok
 obtain⟨M,rfl,rfl⟩:=decM_law hP m2.1
 have hM:∀ e∈M,0≤e.1.p∧e.1.p≤e.1.m∧e.1.m≤100∧0≤e.2.1∧e.2.1≤1000:=fun x hx=>by
  have:=List.all_eq_true.1 g4.1 _ (List.mem_map_of_mem (f:=fun e:Sm×Int×Nat=>(e.1,e.2.1)) hx)
  unfold okW1 at this
  simp only[Bool.and_eq_true,xu,decide_eq_true_eq]at this
  exact⟨this.1.1.1.1,this.1.1.1.2,this.1.1.2,this.1.2,this.2⟩
 have hbo:(M.map (·.2.2)).Nodup:=by
  have:=m2.2.1
  rw[List.map_map]at this
  exact this
 have hlt:∀ x∈M,x.2.2<c:=fun x hx=>m2.2.2 _ (List.mem_map_of_mem hx)
 have cl:Cells (hp w') ⟨e'.blk i,0,none⟩ [.map (some (e'.blk m))]:=fun j u hj=>by
  cases j with
  | zero=>
   simp at hj
   subst hj
   rw[vcell_hp,Addr.add_lit,Nat.add_zero,kH k1]
   exact j1
  | succ j=>simp at hj
 have hat:=htail M c hbo hlt (by simpa using g5) hM (e'.blk i) (e'.blk m) (hp w') a'.defers w' (Le.refl _) cl m1
 rw[xn]
 refine wpIn_mono (hat a' w' ⟨rfl,F'.1,fun t v hv=>?_⟩ (Mem.start _ (Le.refl _))) fun ex a2 w2 hq=>?_
 ·have hv':(bif Nat.beq 3 t then some (Value.pointer (some ⟨e'.blk i,0,none⟩))else none)=some v:=hv
  cases c3:Nat.beq 3 t with
  | true=>
   rw[c3]at hv'
   have:=Nat.eq_of_beq_eq_true c3
   subst this
   cases hv'
   exact h3
  | false=>rw[c3]at hv'; cases hv'
 obtain⟨rfl,q1,q2,q3,v,V',q4,q5,S,q6,q7⟩:=hq
 obtain⟨z2,hS⟩:=allS_law hF q6
 obtain⟨x,h2,e2,z3,r1,r2,r3,r4⟩:=row_out R' hS q3 q5 q7
 have D2:=D'.keep r4 R'
 show LeavesInM (FW none) 0 Tryz.prog Tryz.f500 a2.tmps _ a2.defers .returning w2
 rw[q1,←xn]
 obtain⟨d0,ids,d1,d2,d3⟩:=D2
 rw[d1]
 refine leaves_law (by simp) ids r3 d2 d3 fun e4 w4 R4 G=>?_
 refine⟨v,by simp[results,hres,q4],v,rfl,x,h2,e4,z3,r1,?_,R4,?_⟩
 ·rw[G.dn]; exact r2
 ·have Fr':=Fr'.trans r4
  exact⟨⟨fun j hj=>by rw[G.dom]; exact Fr'.ext.dom j hj,fun j hj=>by rw[G.blk]; exact Fr'.ext.blk j hj,fun j hj=>by rw[G.cap]; exact Fr'.ext.cap j hj,fun j hj=>by rw[G.clo]; exact Fr'.ext.clo j hj,fun j hj=>by rw[G.gh j (R.lt j hj)]; exact Fr'.ext.gh j hj⟩,Fr'.nxt,Fr'.lo,Fr'.ac,fun j hj=>Fr'.new j (by rw[G.dom]at hj; exact hj),Fr'.out,Fr'.prot,Fr'.kp⟩
noncomputable def O3 (f:FuncId):Option Orc:=bif Nat.beq f 500 then some orProof else O2 f
theorem oc3 (w0:World):OcOk w0 O3:=by
 intro f o h
 unfold O3 at h
 cases c:Nat.beq f 500 with
 | true=>
  rw[c]at h
  obtain rfl:=Nat.eq_of_beq_eq_true c
  cases h
  exact @proof_ok w0
 | false=>rw[c]at h; exact oc2 w0 f o h
end Go.Ev
end
section
namespace Go.Proofs.YtmdcedioddchfaaGreatDoor
open Go
theorem tie:Tryz.prog.laidByTextLater [("unicode/utf8.acceptRanges",Rows.laid_unicode_utf8_acceptRanges)] [.data] true:=
 Program.laidByTextLater_by_run 400 8 ta1 ta2 ta3 ta4 ta5 tb tc td te
theorem topClippedGrade_row_tie:Rows.topClippedGradeRow.laidByTextAt .later Tryz.pinned [.pinned,.data] true:=
 OpenClaim.laidByTextAt_pinned rfl rfl tie rfl rfl rfl rfl (fun y hy _e=>by
  simp only[Rows.topClippedGradeRow,List.zip_cons_cons,List.zip_nil_right,List.mem_cons,List.mem_nil_iff,or_false]at hy
  rcases hy with rfl | rfl
  ·exact⟨pin_laid_first,by kernel_rfl⟩
  ·cases _e) fits1
end Go.Proofs.YtmdcedioddchfaaGreatDoor
end
section
set_option maxRecDepth 100000
namespace Go.Proofs.YtmdcedioddchfaaGreatDoor
open Go Go.Clo
theorem leads_ok:∀ x∈clA,leads Tryz.prog x.1=x.2:=by
 intro x hx
 have:(clA.all fun x=>eqL (leads Tryz.prog x.1) x.2)=true:=by
  unfold clA
  simp only[List.all_append,le0,le1,le2,le3,le4,le5,le6,Bool.and_true]
 exact eqL_eq _ _ (List.all_eq_true.1 this x hx)
theorem closure_is:Tryz.prog.closure 3=clA.map (·.1):=closure_ok _ _ _ _ chk_ok leads_ok
theorem inPlace_ok:Tryz.prog.inPlace 3=["internal/abi.NoEscape","internal/bytealg.MakeNoZero","internal/bytealg.IndexByteString","internal/bytealg.IndexString","internal/bytealg.CountString"]:=by
 unfold Program.inPlace
 rw[closure_is]
 show(clA.map (·.1)).filterMap inpF=_
 unfold clA
 simp only[List.map_append,List.filterMap_append,ip0,ip1,ip2,ip3,ip4,ip5,ip6]
 rfl
theorem unf_one:(Tryz.prog.funcs[104]?).any (fun fn=>match fn.body with | some c=>c.unfollowed | none=>entryCalls fn)=true:=by kernel_rfl
theorem unf_ok:Tryz.prog.unfollowed 3=true:=by
 unfold Program.unfollowed
 rw[List.any_eq_true]
 exact⟨104,by rw[closure_is]; decide +kernel,unf_one⟩
theorem rec_ok:Tryz.prog.recurses 3=true:=by
 unfold Program.recurses
 rw[unf_ok,Bool.true_or]
theorem named_ok:Tryz.prog.varsNamed 3=Rows.topClippedGradeRow.named:=by
 unfold Program.varsNamed
 rw[closure_is]
 have a:(clA.map (·.1)).flatMap gnF=[1,2,0,0,0]:=by
  unfold clA
  simp only[List.map_append,List.flatMap_append,gn0,gn1,gn2,gn3,gn4,gn5,gn6]
  rfl
 have b:(clA.map (·.1)).filterMap erF=["internal/bytealg.MaxLen"]:=by
  unfold clA
  simp only[List.map_append,List.filterMap_append,er0,er1,er2,er3,er4,er5,er6]
  rfl
 show((((clA.map (·.1)).flatMap gnF).eraseDups).filterMap (fun g=>(Tryz.prog.globals[g]?).map (·.name))++(clA.map (·.1)).filterMap erF).eraseDups=_
 rw[a,b]
 kernel_rfl
end Go.Proofs.YtmdcedioddchfaaGreatDoor
end
