/- A part. -/
import Derived.Lib.Join
import Derived.Lib.SlTrimSet
import Derived.Lib.Bytealg
import Derived.Shelf.Strings.OnBuilder
import Derived.Shelf.Strings.SlTrimAscii
import Derived.Shelf.Strings.Count
import Derived.Test.YtnffcfhdnjbdbaaGreatDoorProg
import Derived.KernelRfl
import Derived.Shelf.SlSortCmp.NoneTotal
import Derived.WalkKit
import Derived.Deep.QuietTactic
import Derived.ChangeKeysEq
import Derived.Test.YtnffcfhdnjbdbaaGreatDoorQ5
set_option linter.unusedVariables false
set_option linter.unusedSimpArgs false
set_option linter.unusedSectionVars false
set_option linter.constructorNameAsVariable false
noncomputable section
namespace Go.Ev
open Go.Lw Go.RowKit
theorem wro_ok {n:Nat} {ops:Array Oper} : ∀ (l:List Oper),(∀ o∈l,okP n ops o=true)->∀ d∈wro l,d<n
 | [],_,d,hd=>by cases hd
 | o::l,h,d,hd=>by
  rw[wro_cons]at hd;have ho:=(kH (h o (by simp))).2.1;have ih:=wro_ok l (λx hx=>h x (List.mem_cons_of_mem _ hx)) d;cases hdst:o.dst with
  | none=>rw[hdst]at hd;exact ih hd
  | some x=>
   rw[hdst]at hd;rcases List.mem_cons.1 hd with rfl | hd
   ·exact ho _ hdst
   ·exact ih hd
theorem okC_region {n id:Nat} {ops:Array Oper} {dr:Bool} (h:okC n (.region id ops dr)=true):∀ o∈ops.toList,okP n ops o=true:=List.all_eq_true.1 (show ops.toList.all (okP n ops)=true from h)
theorem okC_seq {n:Nat} {a b:Code} (h:okC n (.seq a b)=true):okC n a=true/\okC n b=true:=by
 have h':(okC n a && okC n b)=true:=h
 simpa using h'
theorem okC_cond {n:Nat} {c:Operand} {a b:Code} (h:okC n (.cond c a b)=true):okO n c=true/\okC n a=true/\okC n b=true:=by
 have h':(okO n c && okC n a && okC n b)=true:=h
 simpa [and_assoc]using h'
theorem okC_rf {n:Nat} {f:Operand} {ps:Array Tmp} {a b:Code} (h:okC n (.rangeFunc f ps a b)=true):okO n f=true/\(∀ p∈ps.toList,p<n)/\okC n a=true/\okC n b=true:=by
 have h':(okO n f && ps.toList.all (Nat.blt · n) && okC n a && okC n b)=true:=h
 simp only[Bool.and_eq_true]at h';exact⟨h'.1.1.1,λp hp=>qR (List.all_eq_true.1 h'.1.1.2 p hp),h'.1.2,h'.2⟩
theorem wrC_lt {n:Nat} : ∀ (c:Code),okC n c=true->∀ d∈wrC c,d<n\/d=1000:=by
 intro c;induction c with
 | region id ops dr=>exact λh d hd=>.inl (wro_ok _ (okC_region h) d hd)
 | seq a b iha ihb=>
  intro h d hd;obtain⟨h1,h2⟩:=okC_seq h;have hd':d∈app (wrC a) (wrC b):=hd;rw[jJ,List.mem_append]at hd';exact hd'.elim (iha h1 d) (ihb h2 d)
 | cond c a b iha ihb=>
  intro h d hd;obtain⟨_,h1,h2⟩:=okC_cond h;have hd':d∈app (wrC a) (wrC b):=hd;rw[jJ,List.mem_append]at hd';exact hd'.elim (iha h1 d) (ihb h2 d)
 | block id c ih=>exact λh d hd=>ih h d hd
 | loop c ih=>exact λh d hd=>ih h d hd
 | rangeFunc f ps a b _ _=>exact λh d hd=>.inr (by simpa using (show d∈[1000]from hd))
 | scope c ih=>exact λh d hd=>ih h d hd
 | _=>exact λh d hd=>by cases(show d∈[]from hd)
theorem fgt_law {K:L3->Ev.R} {z:List (AV×H)} : ∀ (l:List Nat) (τ:L3),(∀ d∈l,d<512)->fgt l τ K=some z->∃ τ',K τ'=some z/\∀ j,j<512->(q3 j).g τ'=if j∈l then .u else (q3 j).g τ
 | [],τ,_,hh=>⟨τ,hh,λj _=>by simp⟩
 | d::l,τ,hl,hh=>by
  obtain⟨τ1,h1,h2⟩:=q3_set τ .u (hl d (by simp));have hh':((q3 d).s τ .u λτ=>fgt l τ K)=some z:=hh;rw[h1]at hh';obtain⟨τ2,k1,k2⟩:=fgt_law l τ1 (λx hx=>hl x (List.mem_cons_of_mem _ hx)) hh';refine⟨τ2,k1,λj hj=>?_⟩;rw[k2 j hj];by_cases c1:j∈l
  ·simp[c1]
  ·rw[if_neg c1,h2 j hj];by_cases c2:j=d
   ·simp[c2]
   ·simp[c1,c2]
theorem entE_map {g:L3->H->KC->Ev.R} {τ:L3} {h:H} {id mid:Nat} : ∀ (l:List (AV×AV)) (r:List ((AV×AV)×Bool)),entE g τ h id mid l=some r->r.map (·.1)=l
 | [],r,hh=>by
  have:some []=some r:=hh
  cases this;rfl
 | e::l,r,hh=>by
  have hh':obn (jc h id (.o (.q mid e.1 e.2)) λh=>jc h mid (.o .h) λh=>g τ h λex _ h=>blkO h mid _) (λrs=>(List.rec (motive:=λ_=>Option (List ((AV×AV)×Bool))) none (λr _ _=>asB r.1 λgone=>obn (entE g τ _ id mid l) λm=>some ((e,Bool.rec (motive:=λ_=>Bool) true false gone)::m)) rs:Option (List ((AV×AV)×Bool))))=some r:=hh
  obtain⟨rs,h1,hh⟩:=zA hh';cases rs with
  | nil=>cases hh
  | cons x rs=>obtain⟨gone,h2,hh⟩:=asB_law hh;obtain⟨m,h3,hh⟩:=zA hh;cases hh;have:=entE_map l m h3;simp[this]
theorem leftJ_start:∀ (es:List MapEntry) (ks:List Bool),es.length=ks.length->qY #[] (es.zip ks)=es
 | [],[],_=>rfl
 | x::es,k::ks,h=>by
  rw[List.zip_cons_cons,kg,if_pos (by simp),leftJ_start es ks (by simpa using h)]
 | [],_::_,h=>by simp at h
 | _::_,[],h=>by simp at h
theorem old_le {es:List MapEntry} {since g:Nat} {seen:Array Nat} (h:Old es since seen g):g<=es.length:=by obtain⟨_,h2,h3,h4⟩:=h;have:=List.Nodup.length_le_of_subset h2 h3;simpa [h4]using this
theorem set_same {l:List Bool} {j:Nat} {b:Bool} (h:l[j]? = some b):l.set j b=l:=by
 apply List.ext_getElem?;intro i;rw[List.getElem?_set];by_cases c:j=i
 ·subst c;rw[if_pos rfl,h];split<;>simp_all
 ·rw[if_neg c]
structure MJ (e:Env) (h:H) (id mid:Nat) (l:List (AV×AV)) (r:List ((AV×AV)×Bool)) (x:Nat) (hJ:H):Prop where
 nxt:hJ.nxt=h.nxt
 lo:hJ.lo=h.nxt
 ac:hJ.ac=(id+1,mid+1)
 get:∀ j,j<32768->hget hJ j=if j=mid then .o .h else if j=id then .o (.j mid r x)else hget h j
 hd:e.dom id
 hm:e.dom mid
 ne:mid≠id
 hb:hget h id=.o (.i mid l)
 hbm:hget h mid=.o .h
 map:r.map (·.1)=l
 lo1:h.lo<=id
 lo2:h.lo<=mid
theorem rndJ_law {id lo:Nat} {h:H} {z:List (AV×H)} (hh:rndJ id lo h=some z):∃ m key v l keep y key2 gone L,hget h id=.o (.k m key v l keep y false)/\hget h m=.o (.g key2 gone L)/\xor gone keep=true/\h.lo=lo:=by
 obtain⟨b,hb,hh⟩:=qJ hh;cases b with
 | k m key v l keep y cur=>
  obtain⟨b2,hb2,hh⟩:=qJ hh;cases b2 with
  | g key2 gone L=>
   obtain⟨g1,_⟩:=zk hh;simp only[Bool.and_eq_true,Bool.not_eq_true']at g1;obtain⟨⟨g2,g3⟩,g4⟩:=g1;subst g3;exact⟨m,key,v,l,keep,y,key2,gone,L,hb,hb2,g2,Nat.eq_of_beq_eq_true g4⟩
  | _=>cases hh
 | _=>cases hh
section
variable {w0:World} {e e':Env} {h h' hJ:H} {w w':World} {id mid s x:Nat} {l:List (AV×AV)} {r:List ((AV×AV)×Bool)}
theorem MJ.gid (C:MJ e h id mid l r x hJ) (hi:id<32768):hget hJ id=.o (.j mid r x):=by rw[C.get id hi,if_neg (λk=>C.ne k.symm),if_pos rfl]
theorem MJ.gmid (C:MJ e h id mid l r x hJ) (hi:mid<32768):hget hJ mid=.o .h:=by rw[C.get mid hi,if_pos rfl]
theorem MJ.goth (C:MJ e h id mid l r x hJ) {j:Nat} (hj:j<32768) (h1:j≠id) (h2:j≠mid):hget hJ j=hget h j:=by rw[C.get j hj,if_neg h2,if_neg h1]
theorem MJ.nact (C:MJ e h id mid l r x hJ) {j:Nat} (h1:j≠id) (h2:j≠mid):¬ hJ.act j:=by unfold H.act;rw[C.ac];simp only;omega
theorem round_back (C:MJ e h id mid l r x hJ) (Rp:zq w0 (e.qL id s) hJ w) (F:Fr (e.qL id s) hJ e' h') (R':zq w0 e' h' w') {z:List (AV×H)} (hk:rndJ id h.nxt h'=some z):zq w0 (e.qL id (s+1)) hJ w'/\s+1<=l.length:=by
 obtain⟨m,key,v,l2,keep,y,key2,gone2,L2,k1,k2,k3,k4⟩:=rndJ_law hk;have hi:=Rp.zN C.hd;have him:=Rp.zN C.hm;have lti:=Rp.lt id C.hd;have ltm:=Rp.lt mid C.hm;have gid:=C.gid hi;have gmid:=C.gmid him;have top:=Rp.top
 -- the iterator is the same one
 have kp:=F.kp id lti
 rw[gid,k1]at kp;have same:m=mid/\l2=r/\y=x:=by
  rcases kp with q | q | ⟨a,b,c,d,q⟩
  ·cases q
  ·cases q
  ·cases q;exact⟨rfl,rfl,rfl⟩
 obtain⟨rfl,rfl,rfl⟩:=same;have hl:h'.lo=hJ.lo:=by rw[k4,C.lo]
 have oth:∀ j,e.dom j->j≠id->j≠m->hget h' j=hget hJ j:=λj hj c1 c2=>by
  have:=Rp.lt j hj
  exact F.prot j this (by rw[hl,C.lo,<-C.nxt];exact this) (C.nact c1 c2)
 have ok':=R'.ok id (F.ext.dom id C.hd)
 rw[k1]at ok';obtain⟨a1,gone,L,a2,es,c,since,seen,j,en,a3,a4,⟨a5,a6,a7⟩,a8,a9,a10,a11⟩:=ok';rw[k2]at a2;have e1:key2=key/\gone2=gone/\L2=L:=by injection a2 with a2;injection a2 with x y z;exact⟨x,y,z⟩
 obtain⟨rfl,rfl,rfl⟩:=e1;have hkeep:(!gone2)=keep:=by cases gone2<;>cases keep<;>simp_all
 have hset:(l2.map (·.2)).set j (!gone2)=l2.map (·.2):=set_same (by rw[List.getElem?_map,a4,hkeep];rfl)
 rw[hset]at a5;have okp:=Rp.ok id C.hd;rw[gid]at okp;obtain⟨b1,b2,esp,cp,sincep,seenp,_,b8,_,_⟩:=okp;have xs:e'.gh id=s:=(F.ext.gh id C.hd).trans ku;have hM:MOk e (l2.map (·.1)) es c:=by
  have:=b8.back F.ext a8
  rw[MOk_gh]at this;exact this
 have hlen:es.length=l.length:=by rw[<-C.map];exact hM.1.length.symm
 have hold:Old es since (seen.push en.born) (s+1):=by rw[<-xs];exact a9
 refine⟨⟨R'.below,Rp.top,Rp.lt,λq hq=>?_,λq hq hin=>?_,Rp.inj,Rp.none,Rp.uniq⟩,by rw[<-hlen];exact old_le hold⟩
 ·by_cases c1:q=id
  ·subst c1;rw[gid];refine⟨C.hm,gmid,es,c,since,seen.push en.born,⟨?_,?_,a7⟩,by rw[MOk_gh];exact hM,by rw[ku];exact hold,a10,a11 rfl⟩
   ·have x1:e'.blk m=e.blk m:=F.ext.blk m C.hm
    show w'.heap[e.blk m]? = _
    rw[<-x1];exact a5
   ·have x1:=F.ext.blk m C.hm
    have x2:=F.ext.blk q C.hd
    show w'.heap[e.blk q]? = some (.mapIter (some (e.blk m)) since (seen.push en.born) c)
    rw[show e.blk q=e'.blk q from x2.symm,show e.blk m=e'.blk m from x1.symm];exact a6
  ·by_cases c2:q=m
   ·subst c2;rw[gmid];trivial
   ·have hq':=oth q hq c1 c2
    have kk:=Rp.ok q hq
    have kk':=R'.ok q (F.ext.dom q hq)
    rw[hq']at kk';have:=BOk.back (e:=e.qL id s) (h:=hJ) (h':=h') (w:=w) (w':=w') hq F.ext (λx hx hh=>?_) kk kk'
    ·rw[BOk_gh c1]at this⊢;exact this
    ·cases hg:hget hJ x with
     | o g=>
      refine⟨g,rfl,λk y z hz=>?_⟩;subst hz;have dx:=(Rp.refs hq hx).1;have:=oth x dx (λk=>by subst k;rw[gid]at hg;cases hg) (λk=>by subst k;rw[gmid]at hg;cases hg);rw[this,hg]
     | _=>rw[hg]at hh;exact hh.elim
 ·have key:inB (hget h' q):=by
   by_cases c1:q=id
   ·subst c1;rw[k1];trivial
   ·by_cases c2:q=m
    ·subst c2;rw[k2];trivial
    ·rw[oth q hq c1 c2];exact hin
  have:=R'.low q (F.ext.dom q hq) key
  rw[F.ext.blk q hq]at this;exact this
theorem outJ_le (lo' lh:Nat):outJ lo' lh<=lo'/\outJ lo' lh<=lh:=by
 unfold outJ;cases hb:Nat.ble lo' lh with
 | true=>have:=Nat.le_of_ble_eq_true hb;simp[this]
 | false=>
  have h:¬ lo'<=lh:=λk=>by rw[Nat.ble_eq_true_of_le k]at hb;cases hb
  simp only[cond_false];omega
theorem loop_left (C:MJ e h id mid l r x hJ) (R:zq w0 e h w) (F:Fr (e.qL id s) hJ e' h') (R':zq w0 e' h' w') {h1:H} (P:Put (.mk h'.nxt (outJ h.lo h'.lo) h.ac h'.t) id (.o .z) h1) :
  zq w0 (e'.qL id (e.gh id)) h1 w'/\Fr e h (e'.qL id (e.gh id)) h1:=by
 have hi:=R.zN C.hd
 have him:=R.zN C.hm
 have lti:id<hJ.nxt:=by rw[C.nxt];exact R.lt id C.hd
 have gid:=C.gid hi
 have gmid:=C.gmid him
 have top:=R.top
 have hd':=F.ext.dom id C.hd
 have kp:=F.kp id lti
 rw[gid]at kp;have hin:inB (hget h' id):=by rcases kp with q | q | ⟨a,b,c,d,q⟩<;>rw[q]<;>trivial
 have hnh:¬ hidK (hget h' id):=by rcases kp with q | q | ⟨a,b,c,d,q⟩<;>rw[q]<;>exact λk=>k
 have R1:zq w0 e' (.mk h'.nxt (outJ h.lo h'.lo) h.ac h'.t) w':=R'.same rfl λ_ _=>rfl
 have R2:zq w0 e' h1 w':=R1.put P hd' hin hnh (World.grownBy.refl _ _) trivial
 have R3:zq w0 (e'.qL id (e.gh id)) h1 w':=R2.regh λ_=>by rw[P.get id hi,if_pos rfl];trivial
 have gd:∀ j,j<32768->j≠id->hget h1 j=hget h' j:=λj hj c=>by rw[P.get j hj,if_neg c];rfl
 have xx:Ext e (e'.qL id (e.gh id)):=⟨F.ext.dom,F.ext.blk,F.ext.cap,F.ext.clo,λj hj=>by
  by_cases c:j=id
  ·subst c;rw[ku]
  ·rw[setG_ne c,F.ext.gh j hj,setG_ne c]⟩
 refine⟨R3,xx,?_,?_,P.ac,λj hj=>?_,λj hj hnd=>?_,λj hn hlt hna=>?_,λj hn=>?_⟩
 ·have:=F.nxt
  rw[C.nxt]at this;rw[P.nxt];exact this
 ·rw[P.lo];exact(outJ_le _ _).1
 ·rcases F.new j hj with k | k
  ·exact .inl k
  ·rw[C.nxt]at k;exact .inr k
 ·have c1:j≠id:=λk=>hnd (k▸C.hd)
  have c2:j≠mid:=λk=>hnd (k▸C.hm)
  rw[gd j (by omega) c1,F.out j (by rw[C.nxt];exact hj) hnd,C.goth (by omega) c1 c2]
 ·have l1:h1.lo=outJ h.lo h'.lo:=P.lo
  have l2:=outJ_le h.lo h'.lo
  have c1:j≠id:=λk=>by have:=C.lo1;omega
  have c2:j≠mid:=λk=>by have:=C.lo2;omega
  rw[gd j (by omega) c1,F.prot j (by rw[C.nxt];exact hn) (by omega) (C.nact c1 c2),C.goth (by omega) c1 c2]
 ·by_cases c1:j=id
  ·subst c1;rw[C.hb];trivial
  ·by_cases c2:j=mid
   ·subst c2;rw[C.hbm];trivial
   ·have:=F.kp j (by rw[C.nxt];exact hn)
    rw[C.goth (by omega) c1 c2]at this;rw[gd j (by omega) c1];exact this
end
section
variable {w0:World} {e:Env} {h hJ:H} {w:World} {id mid s n N x:Nat} {ro:Option Nat} {l:List (AV×AV)} {r:List ((AV×AV)×Bool)}
theorem MJ.dfs (C:MJ e h id mid l r x hJ) {ds:List Deferred} (R:zq w0 e h w) (D:Dfs N e h ds):Dfs N (e.qL id s) hJ ds:=by
 obtain⟨h0,ids,h1,h2,h3⟩:=D;refine⟨by rw[C.nxt];exact h0,ids,h1,h2,λi hi=>?_⟩;obtain⟨k1,k2,k3,k4⟩:=h3 i hi;have c1:i≠id:=λk=>by subst k;rw[C.hb]at k3;cases k3
 have c2:i≠mid:=λk=>by subst k;rw[C.hbm]at k3;cases k3
 exact⟨k1,k2,by rw[C.goth (R.zN k2) c1 c2];exact k3,by rw[setG_ne c1];exact k4⟩
theorem MJ.roOk (C:MJ e h id mid l r x hJ) (R:zq w0 e h w) (D:RoOk e h ro):RoOk (e.qL id s) hJ ro:=λy hx=>by
 obtain⟨i,bz,ps,a,b,t,h1,h2,h3⟩:=D y hx;have c1:i≠id:=λk=>by subst k;rw[C.hb]at h3;cases h3
 have c2:i≠mid:=λk=>by subst k;rw[C.hbm]at h3;cases h3
 exact⟨i,bz,ps,a,b,t,h1,h2,by rw[C.goth (R.zN h1) c1 c2];exact h3⟩
theorem MJ.start (C:MJ e h id mid l r x hJ) (R:zq w0 e h w) (hdst:dstK l=true):zq w0 (e.qL id 0) hJ w:=by
 have hi:=R.zN C.hd
 have him:=R.zN C.hm
 have ok:=R.ok id C.hd
 rw[C.hb]at ok;obtain⟨_,_,es,c,⟨i1,i2,i3⟩,hM⟩:=ok;have hlen:es.length=(r.map (·.2)).length:=by rw[<-hM.1.length,<-C.map];simp
 have R2:zq w0 (e.qL id 0) h w:=R.regh λ_=>by rw[C.hb];exact⟨C.hm,C.hbm,es,c,⟨i1,i2,i3⟩,by rw[MOk_gh];exact hM⟩
 obtain⟨h1,P⟩:=put_ex h (.o (.j mid r x)) hi;have R3:zq w0 (e.qL id 0) h1 w:=R2.put P C.hd (by rw[C.hb];trivial) (by rw[C.hb];exact λk=>k) (World.grownBy.refl _ _)
  ⟨C.hm,by rw[P.get mid him,if_neg C.ne];exact C.hbm,es,c,c,#[],⟨by rw[leftJ_start es _ hlen];exact i1,i2,i3⟩,by rw[MOk_gh,C.map];exact hM,⟨hM.2.2,by simp,λb hb=>by simp at hb,by rw[ku];rfl⟩,by rw[C.map];exact hdst,λi en _ _=>by simp⟩
  (λm hm=>by rw[C.hb];exact hm);refine R3.same (by rw[C.nxt,P.nxt]) λj hj=>?_;rw[C.get j hj,P.get j hj];by_cases c1:j=mid
 ·subst c1;rw[if_pos rfl,if_neg C.ne,C.hbm]
 ·rw[if_neg c1]
end
theorem map_loop {w0:World} {ro:Option Nat} {n N t:Nat} {g:L3->H->KC->Ev.R} {ws:List Nat} {c:Code} {y:Bool} (ha:CS w0 ro n N g ws c) (ht:t<n) (hws:∀ d∈ws,d<n\/d=1000):CS w0 ro n N (λτ h K=>mapLoop t ws y g τ h K) ws (.loop c):=λ {e τ h K z a w Q} hh F R D Ro hQ=>by
 obtain⟨id,off,hid,hh⟩:=qW hh;obtain⟨g1,hh⟩:=zk hh;simp only[Bool.and_eq_true,Bool.not_eq_true']at g1;obtain⟨⟨⟨g1a,g1b⟩,g1c⟩,g1d⟩:=g1;obtain⟨b,hb,hh⟩:=qJ hh;have htn:t<a.tmps.size:=by rw[F.1];exact ht
 have hd:e.dom id:=by
  have:=F.2.2 t _ (Array.getElem?_eq_getElem htn) (λk=>k)
  rw[hid]at this;exact this.1
 have h512:∀ d∈ws,d<512:=λd hd=>by
  rcases hws d hd with k | k
  ·exact Nat.lt_of_lt_of_le k F.2.1
  ·subst k;simp at g1c;exact absurd hd g1c
 have n1000:1000∉ws:=by simpa using g1c
 cases b with
 | i mid l=>
  obtain⟨g2,hh⟩:=zk hh;simp only[Bool.and_eq_true]at g2;rw[shut_eq]at hh;obtain⟨τf,hh,hf⟩:=fgt_law ws τ h512 hh;obtain⟨r,hr,hh⟩:=zA hh;have hi:=R.zN hd;have ok:=R.ok id hd;rw[hb]at ok;obtain⟨hm,hbm,_⟩:=ok;have him:=R.zN hm;obtain⟨hA,P1,hh⟩:=qN hh hi;obtain⟨hJ,P2,hh⟩:=qN hh him;have hmi:mid≠id:=λk=>by rw[k,hb]at hbm;cases hbm
  have C:MJ e h id mid l r _ hJ:=⟨by rw[P2.nxt,P1.nxt],by rw[P2.lo,P1.lo],by rw[P2.ac,P1.ac],λj hj=>by rw[P2.get j hj,P1.get j hj];rfl,hd,hm,hmi,hb,hbm,entE_map l r hr,Nat.le_of_ble_eq_true g1d,Nat.le_of_ble_eq_true g2.1⟩
  have F0:qF e n noZ τf a.tmps:=⟨F.1,F.2.1,λx v hv hz=>by
   have hx:x<n:=by rw[<-F.1];exact(Array.getElem?_eq_some_iff.1 hv).1
   rw[hf x (Nat.lt_of_lt_of_le hx F.2.1)];by_cases c1:x∈ws
   ·rw[if_pos c1];trivial
   ·rw[if_neg c1];exact F.2.2 x v hv hz⟩
  refine Go.Lw.wpIn_loop_ghost (λ(s:Nat) a' w'=>s<=l.length/\qF e n noZ τf a'.tmps/\zq w0 (e.qL id s) hJ w'/\a'.defers=a.defers) (λs=>l.length-s) (λs a1 w1 hI=>?_) 0 a w ⟨Nat.zero_le _,F0,C.start R g2.2,rfl⟩;obtain⟨i1,i2,i3,i4⟩:=hI;refine ha hh (e:=e.qL id s) (a:=a1) (w:=w1) (by rw[FRel_gh];exact i2) i3 (by rw[i4];exact C.dfs R D) (C.roOk R Ro) λex a2 w2 o=>?_;obtain⟨x,e',τ',h',z',rfl,hk,F',R',Fr',D',ad,ag⟩:=o;have dsd:a2.defers=a.defers:=(ad n1000).trans i4;have left:∀ {x:Ex} {hL:H},Put (.mk h'.nxt (outJ h.lo h'.lo) h.ac h'.t) id (.o .z) hL->K x τ' hL=some z'->OutC w0 n N e h τ ws a.defers K (exE x) a2 w2:=λ {x hL} P hk=>by obtain⟨l1,l2⟩:=loop_left C R Fr' R' P;refine⟨x,e'.qL id (e.gh id),τ',hL,z',rfl,hk,by rw[FRel_gh];exact F',l1,l2,by rw[dsd];exact D.keep l2 R,λ_=>dsd,λq hq hn=>?_⟩;rw[ag q hq hn,hf q hq,if_neg hn]
  cases x with
  | n=>
   obtain⟨k1,k2⟩:=round_back C i3 Fr' R' hk;refine⟨s+1,⟨k2,⟨F'.1,F'.2.1,λq v hv hz=>?_⟩,k1,dsd⟩,by omega⟩;have hq:q<n:=by rw[<-F'.1];exact(Array.getElem?_eq_some_iff.1 hv).1
   have hq5:=Nat.lt_of_lt_of_le hq F'.2.1
   by_cases c1:q∈ws
   ·rw[hf q hq5,if_pos c1];trivial
   ·have h1:=F'.2.2 q v hv hz
    rw[ag q hq5 c1]at h1;have hqa:q<a1.tmps.size:=by rw[i2.1];exact hq
    have h2:=i2.2.2 q _ (Array.getElem?_eq_getElem hqa) hz
    rw[<-Dn_gh (i:=id) (s:=s)]at h2⊢;exact h2.back Fr'.ext h1
  | x i=>
   have hk':(setLo h' (outJ h.lo) h.ac λh'=>jc h' id (.o .z) λh'=>K (.x i) τ' h')=some z':=hk
   rw[setLo_eq]at hk';obtain⟨hL,P,hk2⟩:=qN hk' hi;exact hQ _ _ _ (left (x:=.x i) P hk2)
  | r=>
   have hk':(setLo h' (outJ h.lo) h.ac λh'=>jc h' id (.o .z) λh'=>K .r τ' h')=some z':=hk
   rw[setLo_eq]at hk';obtain⟨hL,P,hk2⟩:=qN hk' hi;exact hQ _ _ _ (left (x:=.r) P hk2)
 | _=>cases hh
theorem mrC_law {c:Code} {t n:Nat} (h:mrC c=some t) (ok:okC n c=true):t<n:=by
 unfold mrC at h;split at h
 ·rename_i id ops dr b;split at h
  ·rename_i o l hl;split at h
   ·rename_i t' ho;have ok1:=okC_region (okC_seq ok).1 o (by rw[hl];simp);have:=(kH ok1).1 (.tmp t') (by rw[ho];simp[Op.operands]);cases hd:(bif delC _ || yldC _ then some t' else none)with
    | none=>rw[hd]at h;cases h
    | some q=>
     rw[hd]at h;cases hc:(delC (Code.seq (Code.region id ops dr) b) || yldC (Code.seq (Code.region id ops dr) b))with
     | false=>rw[hc]at hd;cases hd
     | true=>rw[hc]at hd;simp only[cond_true,Option.some.injEq]at hd h;subst hd;subst h;exact qR this
   ·cases h
  ·cases h
 ·cases h
theorem code_law {w0:World} {ih:IH} (FO:FnOk w0 ih) (YO:YdOk w0 ih) (k:Nat) (ro:Option Nat) (n N:Nat):∀ (c:Code),okC n c=true->CS w0 ro n N ((codeE c).g ih k) (wrC c) c:=by
 intro c;induction c with
 | skip=>exact λ_=>skip_law
 | region id ops dr=>exact λh=>region_law (w_ok FO YO) (okC_region h)
 | seq a b iha ihb=>exact λh=>seq_law (iha (okC_seq h).1) (ihb (okC_seq h).2)
 | cond x a b iha ihb=>
  intro h;obtain⟨h1,h2,h3⟩:=okC_cond h;intro e τ hh K z a1 w Q hk F R D Ro hQ;refine cond_law h1 (iha h2) (ihb h3) (z:=z) ?_ F R D Ro hQ;obtain⟨q,q1,q2⟩:=asB_law (show(asB ((evO x).v τ) λq=>Bool.rec (motive:=λ_=>IH->Nat->L3->H->KC->Ev.R) (λih n τ h K=>(codeE b).g ih n τ h K) (λih n τ h K=>(codeE a).g ih n τ h K) q ih k τ hh K)=some z from hk);show(asB ((evO x).v τ) _)=some z;rw[q1];cases q<;>exact q2
 | block id c ih1=>exact λh=>block_law (ih1 h)
 | loop c ih1=>
  intro h;cases hm:mrC c with
  | none=>
   have this:CS w0 ro n N (λτ h K=>loopE k ((codeE c).g ih k) τ h K) (wrC c) (.loop c):=loop_law (ih1 h) k
   intro e τ hh K z a1 w Q hk;refine this (z:=z) ?_;have hk':(Option.rec (motive:=λ_=>Ce) (.mk λih n τ h K=>loopE n ((codeE c).g ih n) τ h K) (λt=>.mk λih n τ h K=>mapLoop t (wrC c) (yldC c) ((codeE c).g ih n) τ h K) (mrC c):Ce).g ih k τ hh K=some z:=hk;rw[hm]at hk';exact hk'
  | some t=>
   have this:CS w0 ro n N (λτ h K=>mapLoop t (wrC c) (yldC c) ((codeE c).g ih k) τ h K) (wrC c) (.loop c):=map_loop (ih1 h) (mrC_law hm h) (wrC_lt c h)
   intro e τ hh K z a1 w Q hk;refine this (z:=z) ?_;have hk':(Option.rec (motive:=λ_=>Ce) (.mk λih n τ h K=>loopE n ((codeE c).g ih n) τ h K) (λt=>.mk λih n τ h K=>mapLoop t (wrC c) (yldC c) ((codeE c).g ih n) τ h K) (mrC c):Ce).g ih k τ hh K=some z:=hk;rw[hm]at hk';exact hk'
 | rangeFunc f ps a b _ _=>
  intro h;obtain⟨h1,h2,h3,h4⟩:=okC_rf h;exact range_func FO h1 h2 h3 h4
 | exit id=>exact λ_=>exit_law
 | scope c ih1=>exact λh=>scope_law (ih1 h)
 | label l=>exact λ_=>label_law
 | goto l=>exact λ_ {e τ h K z a w Q} hh=>by cases hh
 | ret=>exact λ_=>ret_law
 | refuse why=>exact λ_ {e τ h K z a w Q} hh=>by cases hh
def resF (tmps:Array Value) (r:ResultVar):Sem Value:=match r with
 | .tmp t=>pure (tmps.getD t undef)
 | .cell a t=>do loadVar t (<-asAddr (tmps.getD a undef))
theorem results_eq (fn:Func) (tmps:Array Value):results fn tmps=(do
 let vs <-fn.results.mapM (resF tmps)
 pure (if h:vs.size=1 then vs[0]else .tuple vs)):=rfl
section
variable {w0:World} {e:Env} {h:H} {w:World} {n:Nat} {τ:L3} {tmps:Array Value}
theorem load_var {T:TypeId} {u q:Value} (hh:(Instr.loadAt T u).run Pr w=.ok q w):(do loadVar T (<-asAddr u):Sem Value).run Pr w=.ok q w:=by
 unfold Instr.loadAt at hh;cases u with
 | pointer p=>
  cases p with
  | none=>simp[Instr.sureAddr,stuck,Sem.run_bind]at hh
  | some a=>simpa [Instr.sureAddr,asAddr]using hh
 | _=>simp[Instr.sureAddr,stuck,Sem.run_bind]at hh
theorem resE_law (F:qF e n noZ τ tmps) (R:zq w0 e h w):∀ {l:List ResultVar} {K:List AV->Ev.R} {z:List (AV×H)},resE l τ h K=some z->(∀ r∈l,okR n r=true)->∃ xs us,K xs=some z/\zB (Dn e) xs us/\(l.mapM (resF tmps)).run Pr w=.ok us w
 | [],K,z,hh,_=>⟨[],[],hh,trivial,rfl⟩
 | .tmp t::l,K,z,hh,hn=>by
  have hh':(frc ((q3 t).g τ) λv=>resE l τ h λr=>K (v::r))=some z:=hh
  rw[kR]at hh';obtain⟨xs,us,h1,h2,h3⟩:=resE_law F R hh' λr hr=>hn r (List.mem_cons_of_mem _ hr);have ht:t<n:=qR (hn _ List.mem_cons_self);have hts:t<tmps.size:=by rw[F.1];exact ht
  refine⟨_::xs,tmps.getD t undef::us,h1,⟨F.2.2 t _ (by simp[hts]) (λk=>k),h2⟩,?_⟩;simp only[List.mapM_cons,Sem.run_bind,resF,Sem.run_pure,Result.andThen_ok,h3]
 | .cell t T::l,K,z,hh,hn=>by
  have hh':(obn ((loadE T).g ((q3 t).g τ) h) λv=>resE l τ h λr=>K (v::r))=some z:=hh
  obtain⟨x,hx,hh'⟩:=zA hh';obtain⟨xs,us,h1,h2,h3⟩:=resE_law F R hh' λr hr=>hn r (List.mem_cons_of_mem _ hr);have ht:t<n:=qR (hn _ List.mem_cons_self);have hts:t<tmps.size:=by rw[F.1];exact ht
  obtain⟨q,k1,k2⟩:=load_law R hx (F.2.2 t (tmps.getD t undef) (by simp[hts]) (λk=>k));refine⟨x::xs,q::us,h1,⟨k1,h2⟩,?_⟩;have k3:=load_var k2;simp only[List.mapM_cons,Sem.run_bind,resF,Sem.run_pure,Result.andThen_ok]at k3⊢;rw[k3];simp only[Result.andThen_ok,h3]
theorem sums_law:∀ {l:List AV} {us:List Value} {K:List (Sc ⊕ List Sc)->Ev.R} {z:List (AV×H)},sums l K=some z->zB (Dn e) l us->∃ ss,K ss=some z/\zB (DnT e) ss us
 | [],us,K,z,hh,ha=>by
  cases us with
  | nil=>exact⟨[],hh,trivial⟩
  | cons=>exact ha.elim
 | v::l,us,K,z,hh,ha=>by
  cases us with
  | nil=>exact ha.elim
  | cons u us=>
   have hh':(toSum v λs=>sums l λr=>K (s::r))=some z:=hh
   obtain⟨s,h1,h2⟩:=toSum_dn hh' ha.1;obtain⟨ss,h3,h4⟩:=sums_law h2 ha.2;exact⟨s::ss,h3,h1,h4⟩
theorem one_law:∀ {l:List AV} {us:List Value} {K:AV->Ev.R} {z:List (AV×H)},one l K=some z->zB (Dn e) l us->∃ x,K x=some z/\Dn e x (if h:(us.toArray).size=1 then us.toArray[0]else .tuple us.toArray)
 | [],us,K,z,hh,ha=>by
  cases us with
  | nil=>exact⟨.t [],hh,[],rfl,trivial⟩
  | cons=>exact ha.elim
 | [v],us,K,z,hh,ha=>by
  cases us with
  | nil=>exact ha.elim
  | cons u us=>
   cases us with
   | cons=>exact ha.2.elim
   | nil=>exact⟨v,hh,ha.1⟩
 | v::x::r,us,K,z,hh,ha=>by
  have hh':(sums (v::x::r) λl=>K (.t l))=some z:=hh
  obtain⟨ss,h3,h4⟩:=sums_law hh' ha;refine⟨.t ss,h3,?_⟩;have:¬ us.toArray.size=1:=by have:=ha.length;simp at this⊢;omega
  rw[dif_neg this];exact⟨us,rfl,h4⟩
theorem ret_is {fn:Func} {K:KV} {z:List (AV×H)} (F:qF e n noZ τ tmps) (R:zq w0 e h w) (hh:retE fn.results.toList τ h K=some z) (hn:∀ r∈fn.results.toList,okR n r=true):∃ v x,(results fn tmps).run Pr w=.ok v w/\K x h=some z/\Dn e x v:=by
 obtain⟨xs,us,h1,h2,h3⟩:=resE_law F R hh hn;obtain⟨x,h4,h5⟩:=one_law h1 h2;refine⟨_,x,?_,h4,h5⟩;rw[results_eq];have e1:fn.results=fn.results.toList.toArray:=by simp
 rw[e1,List.mapM_toArray];simp only[Sem.run_bind,Sem.run_map,h3,Result.andThen_ok,Sem.run_pure]
theorem setA_law {K:L3->Ev.R} {z:List (AV×H)} : ∀ {l:List AV} {t:L3} {i:Nat},setA l t i K=some z->i+l.length<=512->∃ t',K t'=some z/\(∀ j v,l[j]? = some v->(q3 (i+j)).g t'=v)/\∀ j,j<512->(j<i\/i+l.length<=j)->(q3 j).g t'=(q3 j).g t
 | [],t,i,hh,_=>⟨t,hh,λj v hj=>by simp at hj,λ_ _ _=>rfl⟩
 | v::l,t,i,hh,hi=>by
  simp only[List.length_cons]at hi;have hh':(nat i λi=>(q3 i).s t v λt=>setA l t (Nat.succ i) K)=some z:=hh;rw[nat_eq]at hh';obtain⟨t1,h1,h2⟩:=q3_set t v (show i<512 by omega);rw[h1]at hh';obtain⟨t2,k1,k2,k3⟩:=setA_law hh' (by omega);refine⟨t2,k1,λj u hj=>?_,λj hj hc=>?_⟩
  ·cases j with
   | zero=>
    simp at hj;subst hj;rw[k3 (i+0) (by omega) (by omega),h2 _ (by omega),if_pos (by omega)]
   | succ j=>
    have:=k2 j u (by simpa using hj)
    rw[show i+(j+1)=Nat.succ i+j by omega];exact this
  ·simp only[List.length_cons]at hc;rw[k3 j hj (by omega),h2 j hj,if_neg (by omega)]
theorem q1_e (j:Nat):(q1 j).g L1.e=.n:=by unfold q1;cases dg1 j<;>rfl
theorem q2_e (j:Nat):(q2 j).g L2.e=.n:=by unfold q2;cases dg2 j<;>exact q1_e j
theorem q3_e (j:Nat):(q3 j).g L3.e=.n:=by unfold q3;cases dg3 j<;>exact q2_e j
theorem zq.shutD (R:zq w0 e h w) {i:Nat} (hd:e.dom i) (hb:hget h i=.o .t):zq w0 (e.qL i 1) h (w.putObj (e.blk i) (.deferred Option.none)):=by
 have hi:=R.zN hd
 have R2:zq w0 (e.qL i 1) h w:=R.regh λ_=>by rw[hb];exact λk=>by rw[ku]at k;cases k
 obtain⟨h1,P⟩:=put_ex h (.o .t) hi;have R3:zq w0 (e.qL i 1) h1 (w.putObj (e.blk i) (.deferred Option.none)):=R2.put P hd (by rw[hb];trivial) (by rw[hb];exact λk=>k) kD (λk=>by rw[ku]at k;cases k);refine R3.same P.nxt.symm λj hj=>?_;rw[P.get j hj];by_cases c:j=i
 ·subst c;rw[if_pos rfl,hb]
 ·rw[if_neg c]
structure GhX (N:Nat) (e e':Env):Prop where
 dom:e'.dom=e.dom
 blk:e'.blk=e.blk
 cap:e'.cap=e.cap
 clo:e'.clo=e.clo
 gh:∀ j,j<N->e'.gh j=e.gh j
 dn:Dn e'=Dn e
 fr:qF e'=qF e
theorem leaves_law {fn:Func} {Rr:Ending->World->Prop} {u:FrameMode} (hu:u≠.run) {N:Nat} : ∀ (ids:List Nat) {e:Env} {w:World},zq w0 e h w->ids.Nodup->(∀ i∈ids,N<=i/\e.dom i/\hget h i=.o .t/\e.gh i=0)->
  (∀ e' w',zq w0 e' h w'->GhX N e e'->LeavesInM (FW none) 0 Pr fn tmps Rr [] u w')->LeavesInM (FW none) 0 Pr fn tmps Rr (ids.map λi=>mkD (e.blk i)) u w
 | [],e,w,R,_,_,hk=>hk e w R ⟨rfl,rfl,rfl,rfl,λ_ _=>rfl,rfl,rfl⟩
 | i::ids,e,w,R,hn,hi,hk=>by
  obtain⟨k1,k2,k3,k4⟩:=hi i (by simp);have ok:=R.ok i k2;rw[k3]at ok;have hb:w.heap[e.blk i]? = some (.deferred (some [])):=ok k4;refine⟨hu,.inl ⟨e.blk i,_,rfl,run_takeDeferred hb,?_⟩⟩;have hn':=List.nodup_cons.1 hn;exact leaves_law hu ids (e:=e.qL i 1) (R.shutD k2 k3) hn'.2 (λj hj=>by obtain⟨m1,m2,m3,m4⟩:=hi j (List.mem_cons_of_mem _ hj);have hne:j≠i:=λk=>hn'.1 (by rw[<-k];exact hj);exact⟨m1,m2,m3,by rw[setG_ne hne];exact m4⟩) λe' w' R' G=>hk e' w' R' ⟨G.dom,G.blk,G.cap,G.clo,λj hj=>by rw[G.gh j hj,setG_ne (by omega)],by rw[G.dn,Dn_gh],by rw[G.fr,FRel_gh]⟩
end
def FOk (w0:World) (g:List AV->H->KV->Ev.R) (f:FuncId):Prop:=∀ {e:Env} {h:H} {K:KV} {z:List (AV×H)} {args:List AV} {us:List Value} {w:World},g args h K=some z->zB (Dn e) args us->zq w0 e h w->
 zi Pr f/\Calls Pr f ⟨us⟩ w λen w'=>∃ v,en=.returned v/\Out w0 e h K v w'
section
variable {w0:World} {ih:IH}
theorem bod_law (iHo:IHOk w0 ih) {f:FuncId} {fn:Func} {c:Code} (hf:Pr.funcs[f]? = some fn) (hb:fn.body=some c) (h512:fn.ntmps<=512) (hok:okC fn.ntmps c=true) (hres:∀ r∈fn.results.toList,okR fn.ntmps r=true) (hname:(fn.name == "runtime.NumGoroutine")=false):FOk w0 ((bodE c fn.results.toList fn.ntmps).g ih) f:=by
 intro e h K z args us w hh ha R;refine⟨zf hf hname (by rw[hb];rfl),?_⟩;obtain⟨g1,hh⟩:=zk hh;have hlen:args.length<=fn.ntmps:=by rw[qz]at g1;exact Nat.le_of_ble_eq_true g1
 have hul:=ha.length
 obtain⟨t,hh,s1,s2⟩:=setA_law hh (by omega);have F:qF e fn.ntmps noZ t ((⟨us⟩:Array Value)++Array.replicate (fn.ntmps-us.length) undef):=by
  refine⟨by simp;omega,h512,λj v hv _=>?_⟩;by_cases cj:j<us.length
  ·have hv':us[j]? = some v:=by rw[Array.getElem?_append_left (by simpa using cj)]at hv;simpa using hv
   have hj:=List.getElem?_eq_getElem (show j<args.length by omega)
   have:=s1 j _ hj
   rw[Nat.zero_add]at this;rw[this];exact ha.at hj hv'
  ·rw[Array.getElem?_append_right (by simp;omega)]at hv;have hlt:=(Array.getElem?_eq_some_iff.1 hv).1;simp at hlt;have hv2:v=undef:=by
    rw[Array.getElem?_replicate]at hv;split at hv
    ·exact(Option.some.inj hv).symm
    ·cases hv
   rw[s2 j (by omega) (by omega),q3_e];exact hv2
 refine(jG (ro:=none) (n:=0)).1 (callsIn_of_wp_marks hf hb trivial (iHo none fn.ntmps h.nxt c hok (a:={ tmps:=(⟨us⟩:Array Value)++Array.replicate (fn.ntmps-us.length) undef,defers:=[] }) hh F R ⟨Nat.le_refl _,[],rfl,List.nodup_nil,λi k=>by cases k⟩ (λl k=>by cases k) λex a' w' o=>?_) rfl);obtain⟨x,e',τ',h',z',rfl,hk,F',R',Fr',D',_,_⟩:=o;have key:retE fn.results.toList τ' h' K=some z'->LeavesInM (FW none) 0 Pr fn a'.tmps (λen w'=>∃ v,en=.returned v/\Out w0 e h K v w') a'.defers .returning w':=λhk=>by obtain⟨d0,ids,d1,d2,d3⟩:=D';rw[d1];refine leaves_law (by simp) ids R' d2 d3 λe2 w2 R2 G=>?_;obtain⟨v,x,r1,r2,r3⟩:=ret_is (by rw[G.fr];exact F') R2 hk hres;refine⟨v,r1,v,rfl,x,h',e2,z',r2,r3,R2,⟨⟨λj hj=>by rw[G.dom];exact Fr'.ext.dom j hj,λj hj=>by rw[G.blk];exact Fr'.ext.blk j hj,λj hj=>by rw[G.cap];exact Fr'.ext.cap j hj,λj hj=>by rw[G.clo];exact Fr'.ext.clo j hj,λj hj=>by rw[G.gh j (R.lt j hj)];exact Fr'.ext.gh j hj⟩,Fr'.nxt,Fr'.lo,Fr'.ac,λj hj=>Fr'.new j (by rw[G.dom]at hj;exact hj),Fr'.out,Fr'.prot,Fr'.kp⟩⟩
 cases x with
 | n=>exact key hk
 | r=>exact key hk
 | x i=>cases hk
theorem tvL_law {t u:TV} : ∀ {n off:Nat},tvL t u n off=true->∀ j,j<n->t.get (off+j)=u.get (off+j)
 | 0,off,_,j,hj=>by omega
 | n+1,off,hh,j,hj=>by
  have hh':(avB (t.get off) (u.get off) && tvL t u n (Nat.succ off))=true:=hh
  simp only[Bool.and_eq_true]at hh';cases j with
  | zero=>exact avB_eq hh'.1
  | succ j=>
   have:=tvL_law hh'.2 j (by omega)
   rw[show off+(j+1)=Nat.succ off+j by omega];exact this
theorem TOk.alike {e:Env} {n:Nat} {t u:TV} {cs:List Value} (k:TOk e n t cs) (hn:n<=kU u) (h:tvL t u n 0=true):TOk e n u cs:=⟨k.1,hn,λj hj=>by obtain⟨s,v,h1,h2,h3⟩:=k.2.2 j hj;have:=tvL_law h j hj;rw[Nat.zero_add]at this;exact⟨s,v,h1,by rw[<-this];exact h2,h3⟩⟩
theorem blB_law {e:Env} {h h':H} {w:World} {id:Nat} {a b:B} (hh:blB a b=true) (k:BOk e h w id a):BOk e h' w id b/\inB a/\refM b=none:=by
 unfold blB at hh;split at hh
 ·simp only[Bool.and_eq_true]at hh;obtain⟨⟨⟨h1,h2⟩,h3⟩,h4⟩:=hh;have:=Nat.eq_of_beq_eq_true h1;subst this;have:=Nat.eq_of_beq_eq_true h2;subst this;obtain⟨cs,k1,k2,k3⟩:=k;exact⟨⟨cs,k1,k2,k3.alike (Nat.le_of_ble_eq_true h3) h4⟩,trivial,rfl⟩
 ·simp only[Bool.and_eq_true]at hh;obtain⟨⟨⟨h1,h2⟩,h3⟩,h4⟩:=hh;have:=Nat.eq_of_beq_eq_true h1;subst this;have:=Nat.eq_of_beq_eq_true h2;subst this;obtain⟨cs,y,k1,k2,k3⟩:=k;exact⟨⟨cs,y,k1,k2.alike (Nat.le_of_ble_eq_true h3) h4,k3⟩,trivial,rfl⟩
 ·cases hh
theorem leH_law {g h:H} : ∀ {l:List Nat},leH l g h=true->∀ i∈l,hget h i=.x\/blB (hget g i) (hget h i)=true
 | [],_,i,hi=>by cases hi
 | x::l,hh,i,hi=>by
  have hh':((isX (hget h x) || blB (hget g x) (hget h x)) && leH l g h)=true:=hh
  simp only[Bool.and_eq_true,Bool.or_eq_true]at hh';rcases List.mem_cons.1 hi with rfl | hi
  ·rcases hh'.1 with k | k
   ·left;cases hb:hget h i with
    | x=>rfl
    | _=>rw[hb]at k;cases k
   ·exact .inr k
  ·exact leH_law hh'.2 i hi
theorem rngN_mem:∀ {n a i:Nat},a<=i->i<a+n->i∈rngN a n
 | 0,a,i,h1,h2=>by omega
 | n+1,a,i,h1,h2=>by
  show i∈a::rngN (Nat.succ a) n
  by_cases c:i=a
  ·simp[c]
  ·exact List.mem_cons_of_mem _ (rngN_mem (by show a+1<=i;omega) (by show i<a+1+n;omega))
theorem layM_law {fl:Bool} {r:H} {rs:List (AV×H)} {K:H->Ev.R} {z:List (AV×H)} : ∀ {l:List Nat} {h:H},layM fl l r rs h K=some z->h.nxt<=32768->(∀ j,j<32768->h.nxt<=j->hget h j=.x)->∃ h',K h'=some z/\h.nxt<=h'.nxt/\h'.nxt<=32768/\h'.lo=h.lo/\h'.ac=h.ac/\(∀ j,j<h.nxt->hget h' j=hget h j)/\(∀ j,j<32768->h'.nxt<=j->hget h' j=.x)
 | [],h,hh,ht,hx=>⟨h,hh,Nat.le_refl _,ht,rfl,rfl,λ_ _=>rfl,hx⟩
 | i::l,h,hh,ht,hx=>by
  have step:∀ b:B,(newB h b λ_ h=>layM fl l r rs h K)=some z->∃ h',K h'=some z/\h.nxt<=h'.nxt/\h'.nxt<=32768/\h'.lo=h.lo/\h'.ac=h.ac/\(∀ j,j<h.nxt->hget h' j=hget h j)/\(∀ j,j<32768->h'.nxt<=j->hget h' j=.x):=λb hb=>by obtain⟨h1,N,hk⟩:=newB_law hb;have lt:=N.lt;have n1:=N.nxt;obtain⟨h2,k1,k2,k3,k4,k5,k6,k7⟩:=layM_law hk (by omega) (λj hj hle=>by rw[N.get j hj,if_neg (by omega)];exact hx j hj (by omega));exact⟨h2,k1,by omega,k3,by rw[k4,N.lo],by rw[k5,N.ac],λj hj=>by rw[k6 j (by omega),N.get j (by omega),if_neg (by omega)],k7⟩
  have hh':(Bool.rec (motive:=λ_=>Ev.R) (newB h .x λ_ h=>layM fl l r rs h K) (newB h (hget r i) λ_ h=>layM fl l r rs h K) (fl && agree i (hget r i) rs):Ev.R)=some z:=hh
  cases hb:(fl && agree i (hget r i) rs)with
  | false=>rw[hb]at hh';exact step _ hh'
  | true=>rw[hb]at hh';exact step _ hh'
end
section
variable {w0:World} {ih:IH}
theorem zq.less {e0 e:Env} {h g m:H} {w0' w:World} (R0:zq w0 e0 h w0') (R:zq w0 e g w) (F:Fr e0 (.mk h.nxt h.nxt (0,0) h.t) e g) (hn:g.nxt=m.nxt) (hlo:g.lo=h.nxt) (hmn:h.nxt<=m.nxt) (hold:∀ j,j<h.nxt->hget m j=hget h j) (hnew:∀ j,j<32768->m.nxt<=j->hget m j=.x)
  (hle:∀ i,h.nxt<=i->i<m.nxt->hget m i=.x\/blB (hget g i) (hget m i)=true):zq w0 e m w:=by
 have top:=R.top
 have old:∀ j,j<h.nxt->hget g j=hget m j:=λj hj=>by rw[hold j hj];exact F.prot j hj (by rw[hlo];exact hj) (by unfold H.act;simp)
 have sort:∀ j,e.dom j->(hget m j=hget g j/\j<h.nxt)\/hget m j=.x\/(BOk e m w j (hget m j)/\inB (hget g j)/\refM (hget m j)=Option.none):=λj hj=>by
  have lt:=R.lt j hj
  by_cases c:j<h.nxt
  ·exact .inl ⟨(old j c).symm,c⟩
  ·rcases hle j (by omega) (by omega)with k | k
   ·exact .inr (.inl k)
   ·exact .inr (.inr (blB_law k (R.ok j hj)))
 have inOf:∀ j,e.dom j->inB (hget m j)->inB (hget g j):=λj hj hin=>by
  rcases sort j hj with ⟨k,_⟩ | k | k
  ·rw[<-k];exact hin
  ·rw[k]at hin;exact hin.elim
  ·exact k.2.1
 have refOf:∀ j x,e.dom j->refM (hget m j)=some x->refM (hget g j)=some x:=λj x hj hr=>by
  rcases sort j hj with ⟨k,_⟩ | k | k
  ·rw[<-k];exact hr
  ·rw[k]at hr;cases hr
  ·rw[k.2.2]at hr;cases hr
 refine⟨R.below,by rw[<-hn];exact R.top,λj hj=>by rw[<-hn];exact R.lt j hj,λj hj=>?_,λj hj hin=>R.low j hj (inOf j hj hin),λi j hi hj h1 h2 hb=>R.inj i j hi hj (inOf i hi h1) (inOf j hj h2) hb,hnew,λi j x hi hj h1 h2=>R.uniq i j x hi hj (refOf i x hi h1) (refOf j x hj h2)⟩;rcases sort j hj with ⟨k,c⟩ | k | k
 ·rw[k];have d0:e0.dom j:=by
   rcases F.new j hj with q | q
   ·exact q
   ·have:h.nxt<=j:=q
    omega
  refine BOk.step (h:=g) (w:=w) hj (.refl e) rfl (λx hx dx hk=>⟨?_,rfl⟩) (R.ok j hj);have gj:hget g j=hget h j:=by rw[<-k,hold j c]
  rw[gj]at hx;have:=(R0.refs d0 hx).1;exact(old x (R0.lt x this)).symm
 ·rw[k];trivial
 ·exact k.1
theorem mrg_law {fl:Bool} {c:Fc} {f:FuncId} (hc:FOk w0 (c.g ih) f):FOk w0 ((mrgE fl c).g ih) f:=by
 intro e h K z args us w hh ha R;have hh':(shut h (0,0) λnx lo h1=>obn (c.g ih args h1 λv h=>some [(v,h)]) λrs=>List.rec (motive:=λ_=>Ev.R) none (λr _ _=>
  layM fl (rngN nx (r.2.nxt-nx)) r.2 rs h1 λhm=>obn (c.g ih args h1 λv g=>gd (avB v r.1 && Nat.beq g.nxt hm.nxt && Nat.beq g.lo nx && leH (rngN nx (hm.nxt-nx)) g hm) (some [])) λ_=>frc r.1 λv=>setLo hm (λ_=>lo) h.ac λh=>K v h) rs)=some z:=hh;rw[shut_eq]at hh';obtain⟨rs,h1,hh'⟩:=zA hh';cases rs with
 | nil=>cases hh'
 | cons r rs=>
  obtain⟨hm,hk,m1,m2,m3,m4,m5,m6⟩:=layM_law hh' R.top R.none;obtain⟨_,h2,hk⟩:=zA hk;rw[kR,setLo_eq]at hk;have R1:zq w0 e (.mk h.nxt h.nxt (0,0) h.t) w:=R.same rfl λ_ _=>rfl;obtain⟨ok,calls⟩:=hc h2 ha R1;refine⟨ok,calls.mono λen w' k=>?_⟩;obtain⟨v,he,x,g,e',z',k1,k2,k3,k4⟩:=k;refine⟨v,he,?_⟩;obtain⟨g1,_⟩:=zk k1;simp only[Bool.and_eq_true]at g1;obtain⟨⟨⟨g1,g2⟩,g3⟩,g4⟩:=g1;have ex:=avB_eq g1;have en1:g.nxt=hm.nxt:=Nat.eq_of_beq_eq_true g2;have el:g.lo=h.nxt:=Nat.eq_of_beq_eq_true g3;have m1':h.nxt<=hm.nxt:=m1;have Rm:zq w0 e' hm w':=R.less k3 k4 en1 el m1' m5 m6 λi i1 i2=>leH_law g4 i (rngN_mem i1 (by omega));have top:=R.top;have gm:∀ j,hget (.mk hm.nxt h.lo h.ac hm.t) j=hget hm j:=λ_=>rfl;refine⟨r.1,.mk hm.nxt h.lo h.ac hm.t,e',z,hk,by rw[<-ex];exact k2,Rm.same rfl λ_ _=>rfl,⟨k4.ext,m1',Nat.le_refl _,rfl,k4.new,λj hj _=>?_,λj hj _ _=>?_,λj hj=>?_⟩⟩
  ·rw[gm];exact m5 j hj
  ·rw[gm];exact m5 j hj
  ·rw[gm,show hget hm j=hget h j from m5 j hj];exact .refl _
theorem mg_law {m:Nat} {c:Fc} {f:FuncId} (hc:FOk w0 (c.g ih) f):FOk w0 ((mgE m c).g ih) f:=by
 cases m with
 | zero=>exact hc
 | succ m=>
  cases m with
  | zero=>exact mrg_law (fl:=false) hc
  | succ m=>exact mrg_law (fl:=true) hc
def OcOk (w0:World) (O:FuncId->Option Orc):Prop:=∀ (f:FuncId) (o:Orc),O f=some o->FOk w0 o.g f
theorem fnB_ok (iHo:IHOk w0 ih) (f:FuncId):FOk w0 ((fncB f).g ih) f:=by
 intro e h K z args us w hh ha R;unfold fncB at hh;cases hf:Pr.funcs[f]? with
 | none=>rw[hf]at hh;cases hh
 | some fn=>
  rw[hf]at hh;have hh2:(Option.rec (motive:=λ_=>Fc) (.mk λ_ _ _ _=>none) (λc=>Bool.rec (motive:=λ_=>Fc) (.mk λ_ _ _ _=>none)
    (mgE (Mg f) (bodE c fn.results.toList fn.ntmps))
    (Nat.ble fn.ntmps 512 && okC fn.ntmps c && fn.results.toList.all (okR fn.ntmps) && !(fn.name == "runtime.NumGoroutine"))) fn.body:Fc).g ih args h K=some z:=hh;cases hb:fn.body with
  | none=>rw[hb]at hh2;cases hh2
  | some c=>
   rw[hb]at hh2;have hh3:(Bool.rec (motive:=λ_=>Fc) (.mk λ_ _ _ _=>none)
    (mgE (Mg f) (bodE c fn.results.toList fn.ntmps))
    (Nat.ble fn.ntmps 512 && okC fn.ntmps c && fn.results.toList.all (okR fn.ntmps) && !(fn.name == "runtime.NumGoroutine")):Fc).g ih args h K=some z:=hh2;cases hc:(Nat.ble fn.ntmps 512 && okC fn.ntmps c && fn.results.toList.all (okR fn.ntmps) && !(fn.name == "runtime.NumGoroutine"))with
   | false=>rw[hc]at hh3;cases hh3
   | true=>rw[hc]at hh3;simp only[Bool.and_eq_true,Bool.not_eq_true']at hc;obtain⟨⟨⟨c1,c2⟩,c3⟩,c4⟩:=hc;have B:FOk w0 ((bodE c fn.results.toList fn.ntmps).g ih) f:=bod_law iHo hf hb (Nat.le_of_ble_eq_true c1) c2 (List.all_eq_true.1 c3) c4;exact mg_law B hh3 ha R
theorem fn_ok (OO:OcOk w0 ih.oc) (iHo:IHOk w0 ih):FnOk w0 ih:=by
 intro f e h K z args us w hh ha R;have hh2:(Option.rec (motive:=λ_=>Ev.R) ((fncB f).g ih args h K) (λo=>o.g args h K) (ih.oc f):Ev.R)=some z:=hh;cases ho:ih.oc f with
 | some o=>
  rw[ho]at hh2;exact OO f o ho hh2 ha R
 | none=>rw[ho]at hh2;exact fnB_ok iHo f hh2 ha R
variable {O:FuncId->Option Orc}
theorem ih_ok (OO:OcOk w0 O):∀ k,IHOk w0 (fuel O k)
 | 0=>λro n N c _ {e τ h K z a w Q} hh=>by cases hh
 | k+1=>λro n N c hok=>code_law (ih:=fuel O k) (fn_ok OO (ih_ok OO k)) (rnd_law (ih_ok OO k)) 100000 ro n N c hok
def Env.nil:Env:={ dom:=λ_=>False,blk:=λ_=>0,cap:=λ_=>0,clo:=λ_=>.nilFunc,gh:=λ_=>0 }
theorem p1_e (j:Nat):(p1 j).g H1.e=.x:=by unfold p1;cases dg1 j<;>rfl
theorem p2_e (j:Nat):(p2 j).g H2.e=.x:=by unfold p2;cases dg2 j<;>exact p1_e j
theorem p3_e (j:Nat):(p3 j).g H3.e=.x:=by unfold p3;cases dg3 j<;>exact p2_e j
theorem p4_e (j:Nat):(p4 j).g H4.e=.x:=by unfold p4;cases dg4 j<;>exact p3_e j
theorem p5_e (j:Nat):(p5 j).g H5.e=.x:=by unfold p5;cases dg5 j<;>exact p4_e j
theorem zq.nil (w:World):zq w Env.nil H.e w:=
 ⟨Below.refl _ _,Nat.zero_le _,λ_ k=>k.elim,λ_ k=>k.elim,λ_ k=>k.elim,λ_ _ k=>k.elim,λj _ _=>p5_e j,λ_ _ _ k=>k.elim⟩
end
theorem ji {O:FuncId->Option Orc} {f:FuncId} (h:runs O f=true) (w:World) (OO:OcOk w O):Calls Pr f #[] w λen w'=>en=.returned (.bool true)/\Below w.heap.size w w':=by
 unfold runs isT at h;cases hr:run O f [] H.e (λv h=>asB v λb=>gd b (some []))with
 | none=>rw[hr]at h;cases h
 | some z=>
  have:=(fnB_ok (ih_ok OO 1000) f (us:=[]) hr trivial (zq.nil w)).2
  refine this.mono λen w' k=>?_;obtain⟨v,rfl,x,h',e',z',k1,k2,k3,k4⟩:=k;obtain⟨b,rfl,k1⟩:=asB_law k1;obtain⟨rfl,_⟩:=zk k1;have k2':v=.bool true:=k2;subst k2';exact⟨rfl,k3.below⟩
theorem o0_ok (w:World):OcOk w O0:=λf o h=>by cases h
def cutE (ih:IH) (F:L3->H->R) (k:Nat):Code->L3->H->R:=Nat.rec (motive:=λ_=>Code->L3->H->R) (λ_ τ h=>F τ h)
 (λ_ rest c τ h=>(match c with
  | .seq a b=>(codeE a).g ih 100000 τ h λex τ h=>Ex.rec (motive:=λ_=>R) (rest b τ h) (λ_=>none) none ex
  | _=>none)) k
def drpC (k:Nat):Code->Code:=Nat.rec (motive:=λ_=>Code->Code) (λc=>c) (λ_ rest c=>(match c with | .seq _ b=>rest b | c=>c)) k
def isU (v:AV):Bool:=match v with | .x (.o .u)=>true | _=>false
def leF (τ τL:L3) (n:Nat):Bool:=Nat.rec (motive:=λ_=>Bool) true (λt ih=>(isU ((q3 t).g τL) || avB ((q3 t).g τ) ((q3 t).g τL)) && ih) n
def leS (n:Nat) (τ:L3) (h:H) (τL:L3) (hL:H):Bool:=Nat.beq h.nxt hL.nxt && leF τ τL n && leH (rngN 0 hL.nxt) h hL
theorem leF_law {τ τL:L3} : ∀ {n:Nat},leF τ τL n=true->∀ t,t<n->(q3 t).g τL=.u\/(q3 t).g τ=(q3 t).g τL
 | 0,_,t,ht=>by omega
 | n+1,h,t,ht=>by
  have h':((isU ((q3 n).g τL) || avB ((q3 n).g τ) ((q3 n).g τL)) && leF τ τL n)=true:=h
  simp only[Bool.and_eq_true,Bool.or_eq_true]at h';by_cases c:t=n
  ·subst c;rcases h'.1 with k | k
   ·left;unfold isU at k;split at k
    ·assumption
    ·cases k
   ·exact .inr (avB_eq k)
  ·exact leF_law h'.2 t (by omega)
section
variable {w0:World} {e:Env} {h hL:H} {w:World} {n:Nat} {τ τL:L3}
theorem zq.weak (R:zq w0 e h w) (hn:h.nxt=hL.nxt) (hx:∀ j,j<32768->hL.nxt<=j->hget hL j=.x) (hle:leH (rngN 0 hL.nxt) h hL=true):zq w0 e hL w:=by
 have sort:∀ j,e.dom j->hget hL j=.x\/(BOk e hL w j (hget hL j)/\inB (hget h j)/\refM (hget hL j)=Option.none):=λj hj=>by
  have lt:=R.lt j hj
  rcases leH_law hle j (rngN_mem (Nat.zero_le _) (by omega))with k | k
  ·exact .inl k
  ·exact .inr (blB_law k (R.ok j hj))
 have inOf:∀ j,e.dom j->inB (hget hL j)->inB (hget h j):=λj hj hin=>by
  rcases sort j hj with k | k
  ·rw[k]at hin;exact hin.elim
  ·exact k.2.1
 have refOf:∀ j,e.dom j->refM (hget hL j)=Option.none:=λj hj=>by
  rcases sort j hj with k | k
  ·rw[k];rfl
  ·exact k.2.2
 refine⟨R.below,by rw[<-hn];exact R.top,λj hj=>by rw[<-hn];exact R.lt j hj,λj hj=>?_,λj hj hin=>R.low j hj (inOf j hj hin),λi j hi hj h1 h2 hb=>R.inj i j hi hj (inOf i hi h1) (inOf j hj h2) hb,hx,λi j x hi hj h1 h2=>?_⟩
 ·rcases sort j hj with k | k
  ·rw[k];trivial
  ·exact k.1
 ·rw[refOf i hi]at h1;cases h1
theorem qF.weak {tmps:Array Value} (F:qF e n noZ τ tmps) (hle:leF τ τL n=true):qF e n noZ τL tmps:=⟨F.1,F.2.1,λt v hv hz=>by
 have ht:t<n:=by rw[<-F.1];exact(Array.getElem?_eq_some_iff.1 hv).1
 rcases leF_law hle t ht with k | k
 ·rw[k];trivial
 ·rw[<-k];exact F.2.2 t v hv hz⟩
def PC (w0:World) (n:Nat) (Q:Exit->Act->World->Prop) (c:Code) (τL:L3) (hL:H):Prop:=∀ (e:Env) (a:Act) (w:World),qF e n noZ τL a.tmps->zq w0 e hL w->a.defers=[]->c.wpIn (FW none) 0 Pr Q a w
theorem dfs_nil (e:Env) (h:H):Dfs h.nxt e h []:=⟨Nat.le_refl _,[],rfl,List.nodup_nil,λi k=>by cases k⟩
theorem ro_nil (e:Env) (h:H):RoOk e h none:=λl k=>by cases k
theorem pieces_law {O:FuncId->Option Orc} (OO:OcOk w0 O) {k:Nat} {Q:Exit->Act->World->Prop} {F:L3->H->Ev.R} : ∀ {c:Code} {m:Nat} {τ:L3} {h:H} {z:List (AV×H)},cutE (fuel O k) F m c τ h=some z->okC n c=true->1000∉wrC c->
  (∀ (τ':L3) (h':H) (z':List (AV×H)) (e':Env) (a':Act) (w':World),F τ' h'=some z'->qF e' n noZ τ' a'.tmps->zq w0 e' h' w'->a'.defers=[]->(drpC m c).wpIn (FW none) 0 Pr Q a' w')->PC w0 n Q c τ h
 | c,0,τ,h,z,hh,_,_,hk=>λe a w F' R D=>hk τ h z e a w hh F' R D
 | c,m+1,τ,h,z,hh,hok,h1000,hk=>λe a w F' R D=>by
  cases c with
  | seq x y=>
   have hh':(codeE x).g (fuel O k) 100000 τ h (λex τ h=>Ex.rec (motive:=λ_=>Ev.R) (cutE (fuel O k) F m y τ h) (λ_=>none) none ex)=some z:=hh
   obtain⟨o1,o2⟩:=okC_seq hok;have hw:1000∉wrC x/\1000∉wrC y:=by
    have:1000∉app (wrC x) (wrC y):=h1000
    rw[jJ]at this;simpa using this
   refine wpIn_seq (code_law (fn_ok OO (ih_ok OO k)) (rnd_law (ih_ok OO k)) 100000 none n h.nxt x o1 hh' F' R (by rw[D];exact dfs_nil e h) (ro_nil e h) λex a' w' o=>?_);obtain⟨q,e',τ',h',z',rfl,hk2,F2,R2,Fr2,D2,ad,ag⟩:=o;cases q with
   | n=>exact pieces_law OO hk2 o2 hw.2 hk e' a' w' F2 R2 ((ad hw.1).trans D)
   | x i=>cases hk2
   | r=>cases hk2
  | _=>cases hh
theorem stage {O:FuncId->Option Orc} (OO:OcOk w0 O) {k m:Nat} {Q:Exit->Act->World->Prop} {c:Code} {τ τ1:L3} {h h1:H} (hh:isT (cutE (fuel O k) (λτ h=>gd (leS n τ h τ1 h1) (some [])) m c τ h)=true) (hok:okC n c=true) (hw:1000∉wrC c)
  (hx:∀ j,j<32768->h1.nxt<=j->hget h1 j=.x) (next:PC w0 n Q (drpC m c) τ1 h1):PC w0 n Q c τ h:=by
 unfold isT at hh;cases hr:cutE (fuel O k) (λτ h=>gd (leS n τ h τ1 h1) (some [])) m c τ h with
 | none=>rw[hr]at hh;cases hh
 | some z=>refine pieces_law OO hr hok hw λτ' h' z' e' a' w' hF F' R' D'=>?_;obtain⟨g1,_⟩:=zk hF;unfold leS at g1;simp only[Bool.and_eq_true]at g1;obtain⟨⟨g1,g2⟩,g3⟩:=g1;exact next e' a' w' (F'.weak g2) (R'.weak (Nat.eq_of_beq_eq_true g1) hx g3) D'
end
def endT (rs:List ResultVar):Ex->L3->H->R:=λex τ h=>Ex.rec (motive:=λ_=>R) (retE rs τ h λv h=>asB v λb=>gd b (some [])) (λ_=>none) (retE rs τ h λv h=>asB v λb=>gd b (some [])) ex
abbrev QT (w0:World) (fn:Func):Exit->Act->World->Prop:=bodyPostM (FW none) 0 Pr fn λen w'=>en=.returned (.bool true)/\Below w0.heap.size w0 w'
theorem stage_end {w0:World} {O:FuncId->Option Orc} (OO:OcOk w0 O) {k:Nat} {fn:Func} {c:Code} {τ:L3} {h:H} (hh:isT ((codeE c).g (fuel O k) 100000 τ h (endT fn.results.toList))=true) (hok:okC fn.ntmps c=true) (hres:fn.results.toList.all (okR fn.ntmps)=true):PC w0 fn.ntmps (QT w0 fn) c τ h:=λe a w F R D=>by
 unfold isT at hh;cases hr:(codeE c).g (fuel O k) 100000 τ h (endT fn.results.toList)with
 | none=>rw[hr]at hh;cases hh
 | some z=>
  refine code_law (fn_ok OO (ih_ok OO k)) (rnd_law (ih_ok OO k)) 100000 none fn.ntmps h.nxt c hok hr F R (by rw[D];exact dfs_nil e h) (ro_nil e h) λex a' w' o=>?_;obtain⟨x,e',τ',h',z',rfl,hk,F',R',Fr',D',_,_⟩:=o;have key:retE fn.results.toList τ' h' (λv h=>asB v λb=>gd b (some []))=some z'->LeavesInM (FW none) 0 Pr fn a'.tmps (λen w'=>en=.returned (.bool true)/\Below w0.heap.size w0 w') a'.defers .returning w':=λhk=>by obtain⟨d0,ids,d1,d2,d3⟩:=D';rw[d1];refine leaves_law (by simp) ids R' d2 d3 λe2 w2 R2 G=>?_;obtain⟨v,x,r1,r2,r3⟩:=ret_is (by rw[G.fr];exact F') R2 hk (List.all_eq_true.1 hres);obtain⟨b,rfl,r2⟩:=asB_law r2;obtain⟨rfl,_⟩:=zk r2;have r3':v=.bool true:=r3;subst r3';exact⟨_,r1,rfl,R2.below⟩
  cases x with
  | n=>exact key hk
  | r=>exact key hk
  | x i=>cases hk
theorem staged_true {f:FuncId} {fn:Func} {c:Code} (hf:Pr.funcs[f]? = some fn) (hb:fn.body=some c) (h512:Nat.ble fn.ntmps 512=true) (w:World) (h:PC w fn.ntmps (QT w fn) c L3.e H.e):Calls Pr f #[] w λen w'=>en=.returned (.bool true)/\Below w.heap.size w w':=by
 refine(jG (ro:=none) (n:=0)).1 (callsIn_of_wp_marks hf hb trivial (h Env.nil { tmps:=#[]++Array.replicate (fn.ntmps-0) undef,defers:=[] } w ⟨by simp,Nat.le_of_ble_eq_true h512,λj v hv _=>?_⟩ (zq.nil w) rfl) rfl);have hv2:v=undef:=by simp[Array.getElem?_replicate]at hv;exact hv.2.symm
 rw[q3_e];exact hv2
def mkF (l:List AV) (i:Nat) (t:L3):L3:=List.rec (motive:=λ_=>Nat->L3->L3) (λ_ t=>t) (λv _ ih i t=>nat i λi=>(q3 i).s t v λt=>ih (Nat.succ i) t) l i t
def mkT (l:List Sc):TV:=Option.rec (motive:=λ_=>TV) (.s L1.e) (λt=>t) (TV.emp (len l) λt=>setL l t 0 some)
def mkH5 (l:List (Nat×B)) (t:H5):H5:=List.rec (motive:=λ_=>H5->H5) (λt=>t) (λb _ ih t=>(p5 b.1).s t b.2 λt=>ih t) l t
def mkH (nxt:Nat) (l:List (Nat×B)):H:=.mk nxt 0 (0,0) (mkH5 l H5.e)
def allLt (n:Nat) (l:List (Nat×B)):Bool:=List.rec (motive:=λ_=>Bool) true (λb _ ih=>Nat.blt b.1 n && ih) l
theorem mkH5_law {n:Nat} : ∀ {l:List (Nat×B)} {t:H5},allLt n l=true->n<=32768->(∀ j,j<32768->n<=j->(p5 j).g t=.x)->∀ j,j<32768->n<=j->(p5 j).g (mkH5 l t)=.x
 | [],t,_,_,ht,j,hj,hn=>ht j hj hn
 | b::l,t,h,h3,ht,j,hj,hn=>by
  have h':(Nat.blt b.1 n && allLt n l)=true:=h
  simp only[Bool.and_eq_true]at h';have hb:=qR h'.1;obtain⟨t',h1,h2⟩:=p5_set t b.2 (show b.1<32768 by omega);have e1:mkH5 (b::l) t=mkH5 l t':=h1 (λt=>mkH5 l t);rw[e1];exact mkH5_law h'.2 h3 (λq hq hnq=>by rw[h2 q hq,if_neg (by omega)];exact ht q hq hnq) j hj hn
theorem mkH_law {n:Nat} {l:List (Nat×B)} (h:allLt n l=true) (h3:Nat.ble n 32768=true):∀ j,j<32768->(mkH n l).nxt<=j->hget (mkH n l) j=.x:=λj hj hn=>mkH5_law h (Nat.le_of_ble_eq_true h3) (λq _ _=>p5_e q) j hj hn
def qA (f:FuncId):Code:=match Pr.funcs[f]? with | some fn=>(match fn.body with | some c=>c | none=>.skip) | none=>.skip
def resOf (f:FuncId):List ResultVar:=match Pr.funcs[f]? with | some fn=>fn.results.toList | none=>[]
end Go.Ev
namespace Go.Ev
def τ355_11:L3:=mkF [.x (.o .u),(.x (.p 7 0)),(.x (.o (.s 6 0 3 3))),(.x (.i .i64 (.ofNat 14))),(.x (.i .i64 (.ofNat 0))),.x (.o .u),(.x (.i .i64 (.ofNat 18))),.x (.o .u),(.x (.i .i64 (.ofNat 16))),.x (.o .u),(.x (.i .i64 (.ofNat 3))),(.x (.i .i64 (.ofNat 14))),(.x (.i .i64 (.ofNat 0))),(.x (.o (.s 2972 0 4 4))),(.x (.i .i64 (.ofNat 0))),(.x (.i .i64 (.ofNat 3))),(.x (.i .i64 (.ofNat 0))),(.x (.i .i64 (.ofNat 2))),(.x (.i .i64 (.ofNat 0))),(.x (.i .i64 (.ofNat 1))),(.x (.i .i64 (.ofNat 0))),.x (.o .u),.x (.o .u),.x (.o .u),.x (.o .u),.x (.o .u),.x (.o .u),.x (.o .u),.x (.o .u),.x (.o .u),.x (.o .u),.x (.o .u),.x (.o .u),.x (.o .u),.x (.o .u),.x (.o .u),.x (.o .u),.x (.o .u),.x (.o .u),.x (.o .u),.x (.o .u),.x (.o .u),.x (.o .u),.x (.o .u),.x (.o .u),.x (.o .u),.x (.o .u),.x (.o .u),.x (.o .u),.x (.o .u),.x (.o .u),.x (.o .u),.x (.o .u),.x (.o .u),.x (.o .u),.x (.o .u),.x (.o .u),.x (.o .u),.x (.o .u),.x (.o .u),.x (.o .u),.x (.o .u),.x (.o .u),.x (.o .u),.x (.o .u),.x (.o .u),.x (.o .u),.x (.o .u),.x (.o .u),.x (.o .u),.x (.o .u),.x (.o .u),.x (.o .u),.x (.o .u),.x (.o .u),.x (.o .u),.x (.o .u),.x (.o .u),.x (.o .u),.x (.o .u),.x (.o .u),.x (.o .u),.x (.o .u),.x (.o .u),.x (.o .u),.x (.o .u),.x (.o .u),.x (.o .u),.x (.o .u),.x (.o .u),.x (.o .u),.x (.o .u),.x (.o .u),.x (.o .u),.x (.o .u),.x (.o .u),.x (.o .u),.x (.o .u),.x (.o .u),.x (.o .u),.x (.o .u),.x (.o .u),.x (.o .u),.x (.o .u),.x (.o .u),.x (.o .u),.x (.o .u),.x (.o .u),.x (.o .u),.x (.o .u),.x (.o .u),.x (.o .u),.x (.o .u),.x (.o .u),.x (.o .u),.x (.o .u),.x (.o .u),.x (.o .u),.x (.o .u),.x (.o .u),.x (.o .u),.x (.o .u),.x (.o .u),.x (.o .u),.x (.o .u),.x (.o .u),.x (.o .u),.x (.o .u),.x (.o .u),.x (.o .u),.x (.o .u),.x (.o .u),.x (.o .u),.x (.o .u),.x (.o .u),.x (.o .u),.x (.o .u),.x (.o .u),.x (.o .u),.x (.o .u),.x (.o .u),.x (.o .u),.x (.o .u),.x (.o .u),.x (.o .u),.x (.o .u),.x (.o .u),.x (.o .u),.x (.o .u),.x (.o .u),.x (.o .u),.x (.o .u),.x (.o .u),.x (.o .u),.x (.o .u),.x (.o .u),.x (.o .u),.x (.o .u),.x (.o .u),.x (.o .u),.x (.o .u),.x (.o .u),.x (.o .u),.x (.o .u),.x (.o .u),.x (.o .u),.x (.o .u),.x (.o .u),.x (.o .u),.x (.o .u),.x (.o .u),.x (.o .u),.x (.o .u),.x (.o .u),.x (.o .u),.x (.o .u),.x (.o .u),.x (.o .u),.x (.o .u),.x (.o .u),.x (.o .u),.x (.o .u),.x (.o .u),.x (.o .u),.x (.o .u),.x (.o .u),.x (.o .u),.x (.o .u),.x (.o .u),.x (.o .u),.x (.o .u),.x (.o .u),.x (.o .u),.x (.o .u),.x (.o .u),.x (.o .u),.x (.o .u),.x (.o .u),.x (.o .u),.x (.o .u),.x (.o .u),.x (.o .u),.x (.o .u),.x (.o .u),.x (.o .u),.x (.o .u),.x (.o .u),.x (.o .u),.x (.o .u),.x (.o .u),.x (.o .u),.x (.o .u),.x (.o .u),.x (.o .u),.x (.o .u),.x (.o .u),.x (.o .u),.x (.o .u),.x (.o .u),.x (.o .u),.x (.o .u),.x (.o .u),.x (.o .u),.x (.o .u),.x (.o .u),.x (.o .u),.x (.o .u),.x (.o .u),.x (.o .u),.x (.o .u),.x (.o .u),.x (.o .u),.x (.o .u),.x (.o .u),.x (.o .u),.x (.o .u),.x (.o .u),.x (.o .u),.x (.o .u),.x (.o .u),.x (.o .u),.x (.o .u),.x (.o .u),.x (.o .u),.x (.o .u),.x (.o .u),.x (.o .u),.x (.o .u),.x (.o .u),.x (.o .u),.x (.o .u),.x (.o .u),.x (.o .u),.x (.o .u),.x (.o .u),.x (.o .u),.x (.o .u),.x (.o .u),.x (.o .u),.x (.o .u),.x (.o .u),.x (.o .u),.x (.o .u),.x (.o .u),.x (.o .u),.x (.o .u),.x (.o .u),.x (.o .u),.x (.o .u),.x (.o .u),.x (.o .u),.x (.o .u),.x (.o .u),.x (.o .u),.x (.o .u),.x (.o .u),.x (.o .u),.x (.o .u),.x (.o .u),.x (.o .u),.x (.o .u),.x (.o .u),.x (.o .u),.x (.o .u),.x (.o .u),.x (.o .u),.x (.o .u),.x (.o .u),.x (.o .u),.x (.o .u)] 0 L3.e
def h355_11:H:=mkH 4932 [(2972,.c 694 8 (mkT [(.i .i64 (.ofNat 0)),(.i .i64 (.ofNat 1)),(.i .i64 (.ofNat 2)),(.i .i64 (.ofNat 2)),(.i .i64 (.ofNat 5)),(.i .i64 (.ofNat 1)),(.i .i64 (.ofNat 7)),(.i .i64 (.ofNat 2))])),(6,.c 688 9 (mkT [(.i .i64 (.ofNat 4)),(.i .i64 (.ofNat 10)),(.i .i64 (.ofNat 0)),(.i .i64 (.ofNat 2)),(.i .i64 (.ofNat 3)),(.i .i64 (.ofNat 0)),(.i .i64 (.ofNat 3)),(.i .i64 (.ofNat 4)),(.i .i64 (.ofNat 1))])),(7,.c 595 2 (mkT [(.i .i64 (.ofNat 10)),(.o (.s 1 0 2 2))])),(1,.c 3 2 (mkT [(.i .i64 (.ofNat 3)),(.i .i64 (.ofNat 8))]))]
def τ286_12:L3:=mkF [.x (.o .u),(.x (.p 6 0)),(.x (.p 7 0)),(.x (.i .i64 (.ofNat 0))),(.x (.i .i64 (.ofNat 20))),(.x (.i .i64 (.ofNat 3))),(.x (.i .i64 (.ofNat 4))),(.x (.i .i64 (.ofNat 8))),(.x (.i .i64 (.ofNat 0))),.x (.o .u),(.x (.i .i64 (.ofNat 14))),(.x (.i .i64 (.ofNat 2))),(.x (.i .i64 (.ofNat 0))),(.x (.i .i64 (.ofNat 6))),(.x (.i .i64 (.ofNat 0))),(.x (.o (.s 1836 0 2 2))),(.x (.i .i64 (.ofNat 0))),(.x (.o (.w 1968 0 2 0))),(.x (.i .i64 (.ofNat 0))),(.x (.i .i64 (.ofNat 0))),(.x (.i .i64 (.ofNat 16))),(.x (.i .i64 (.ofNat 3))),(.x (.o (.w 2654 0 2 0))),(.x (.i .i64 (.ofNat 0))),.x (.o .u),.x (.o .u),.x (.o .u),.x (.o .u),.x (.o .u),.x (.o .u),.x (.o .u),.x (.o .u),.x (.o .u),.x (.o .u),.x (.o .u),.x (.o .u),.x (.o .u),.x (.o .u),.x (.o .u),.x (.o .u),.x (.o .u),.x (.o .u),.x (.o .u),.x (.o .u),.x (.o .u),.x (.o .u),.x (.o .u),.x (.o .u),.x (.o .u),.x (.o .u),.x (.o .u),.x (.o .u),.x (.o .u),.x (.o .u),.x (.o .u),.x (.o .u),.x (.o .u),.x (.o .u),.x (.o .u),.x (.o .u),.x (.o .u),.x (.o .u),.x (.o .u),.x (.o .u),.x (.o .u),.x (.o .u),.x (.o .u),.x (.o .u),.x (.o .u),.x (.o .u),.x (.o .u),.x (.o .u),.x (.o .u),.x (.o .u),.x (.o .u),.x (.o .u),.x (.o .u),.x (.o .u),.x (.o .u),.x (.o .u),.x (.o .u),.x (.o .u),.x (.o .u),.x (.o .u),.x (.o .u),.x (.o .u),.x (.o .u),.x (.o .u),.x (.o .u),.x (.o .u),.x (.o .u),.x (.o .u),.x (.o .u),.x (.o .u),.x (.o .u),.x (.o .u),.x (.o .u),.x (.o .u),.x (.o .u),.x (.o .u),.x (.o .u),.x (.o .u),.x (.o .u),.x (.o .u),.x (.o .u),.x (.o .u),.x (.o .u),.x (.o .u),.x (.o .u),.x (.o .u),.x (.o .u),.x (.o .u),.x (.o .u),.x (.o .u),.x (.o .u),.x (.o .u),.x (.o .u),.x (.o .u),.x (.o .u),.x (.o .u),.x (.o .u),.x (.o .u),.x (.o .u),.x (.o .u),.x (.o .u),.x (.o .u),.x (.o .u),.x (.o .u),.x (.o .u),.x (.o .u),.x (.o .u),.x (.o .u),.x (.o .u),.x (.o .u),.x (.o .u),.x (.o .u),.x (.o .u),.x (.o .u),.x (.o .u),.x (.o .u),.x (.o .u),.x (.o .u),.x (.o .u),.x (.o .u),.x (.o .u),.x (.o .u),.x (.o .u),.x (.o .u),.x (.o .u),.x (.o .u),.x (.o .u),.x (.o .u),.x (.o .u),.x (.o .u),.x (.o .u),.x (.o .u),.x (.o .u),.x (.o .u),.x (.o .u),.x (.o .u),.x (.o .u),.x (.o .u),.x (.o .u),.x (.o .u),.x (.o .u),.x (.o .u),.x (.o .u),.x (.o .u),.x (.o .u),.x (.o .u),.x (.o .u),.x (.o .u),.x (.o .u),.x (.o .u),.x (.o .u),.x (.o .u),.x (.o .u),.x (.o .u),.x (.o .u),.x (.o .u),.x (.o .u),.x (.o .u),.x (.o .u),.x (.o .u),.x (.o .u),.x (.o .u),.x (.o .u),.x (.o .u),.x (.o .u),.x (.o .u),.x (.o .u),.x (.o .u),.x (.o .u),.x (.o .u),.x (.o .u),.x (.o .u),.x (.o .u),.x (.o .u),.x (.o .u),.x (.o .u),.x (.o .u),.x (.o .u),.x (.o .u),.x (.o .u),.x (.o .u),.x (.o .u),.x (.o .u),.x (.o .u),.x (.o .u),.x (.o .u),.x (.o .u),.x (.o .u),.x (.o .u),.x (.o .u),.x (.o .u),.x (.o .u),.x (.o .u),.x (.o .u),.x (.o .u),.x (.o .u),.x (.o .u),.x (.o .u),.x (.o .u),.x (.o .u),.x (.o .u),.x (.o .u),.x (.o .u),.x (.o .u),.x (.o .u),.x (.o .u),.x (.o .u),.x (.o .u),.x (.o .u),.x (.o .u),.x (.o .u),.x (.o .u),.x (.o .u),.x (.o .u),.x (.o .u),.x (.o .u),.x (.o .u),.x (.o .u),.x (.o .u),.x (.o .u),.x (.o .u),.x (.o .u),.x (.o .u),.x (.o .u),.x (.o .u),.x (.o .u),.x (.o .u),.x (.o .u),.x (.o .u),.x (.o .u),.x (.o .u),.x (.o .u),.x (.o .u),.x (.o .u),.x (.o .u),.x (.o .u),.x (.o .u),.x (.o .u),.x (.o .u),.x (.o .u),.x (.o .u),.x (.o .u),.x (.o .u),.x (.o .u),.x (.o .u),.x (.o .u),.x (.o .u),.x (.o .u),.x (.o .u),.x (.o .u),.x (.o .u),.x (.o .u)] 0 L3.e
def h286_12:H:=mkH 2659 [(2654,.r 34 2 (mkT [(.o (.w 2397 0 2 0)),(.o (.w 2590 0 2 0))])),(1968,.r 3 2 (mkT [(.i .i64 (.ofNat 0)),(.i .i64 (.ofNat 3))])),(1836,.c 103 8 (mkT [(.i .i64 (.ofNat 0)),(.i .i64 (.ofNat 0)),(.i .i64 (.ofNat 3)),(.i .i64 (.ofNat 1)),(.i .i64 (.ofNat 0)),(.i .i64 (.ofNat 3)),(.i .i64 (.ofNat 3)),(.i .i64 (.ofNat 1))])),(7,.c 24 2 (mkT [(.o (.s 4 0 4 4)),(.i .i64 (.ofNat 4))])),(6,.c 24 2 (mkT [(.o (.s 1 0 3 3)),(.i .i64 (.ofNat 4))])),(2590,.r 3 2 (mkT [(.i .i64 (.ofNat 1)),(.i .i64 (.ofNat 3))])),(2397,.r 3 2 (mkT [(.i .i64 (.ofNat 0)),(.i .i64 (.ofNat 2))])),(4,.c 9 4 (mkT [(.o (.c (.string ⟨#[111,46,111]⟩))),(.o (.c (.string ⟨#[46,35,46]⟩))),(.o (.c (.string ⟨#[46,46,46]⟩))),(.o (.c (.string ⟨#[111,46,111]⟩)))])),(1,.c 9 3 (mkT [(.o (.c (.string ⟨#[111,46,46,111]⟩))),(.o (.c (.string ⟨#[46,35,46,46]⟩))),(.o (.c (.string ⟨#[111,46,46,111]⟩)))]))]
def strs (l:List Sc) (K:List ByteArray->R):R:=List.rec (motive:=λ_=>(List ByteArray->R)->R) (λK=>K []) (λs _ ih K=>(match s with | .o (.c (.string b))=>ih λr=>K (b::r) | _=>none)) l K
def joined (l:List ByteArray) (sep:ByteArray):List UInt8:=Lib.join (l.map (·.data.toList)) sep.data.toList
def orJoin:Orc:=.mk λargs h K=>jW args λx y=>asO x λx=>asO y λy=>(match y with
 | .c (.string sep)=>(match x with
  | .s id off n c=>gd (Nat.ble n c) <| gd (Nat.blt 0 n && Nat.ble n 1000) (cellsS (.s id off n c) 1 h λm cs=>strs cs λl=>gd (Nat.ble (joined l sep).length 100000) (K (.x (.o (.c (.string ⟨(joined l sep).toArray⟩)))) h))
  | .w id off n c=>gd (Nat.blt 0 n && Nat.ble n 1000) (cellsS (.w id off n c) 1 h λm cs=>strs cs λl=>gd (Nat.ble (joined l sep).length 100000) (K (.x (.o (.c (.string ⟨(joined l sep).toArray⟩)))) h))
  | _=>none)
 | _=>none)
def orTrim:Orc:=.mk λargs h K=>jW args λx y=>asO x λx=>asO y λy=>(match x,y with
 | .c (.string s),.c (.string cs)=>gd (Nat.ble s.size 100000 && Nat.ble cs.size 1000 && cs.data.toList.all (λb=>Nat.blt b.toNat 128)) (K (.x (.o (.c (.string ⟨(Lib.trimS s.data.toList cs.data.toList).toArray⟩)))) h)
 | _,_=>none)
def orCount:Orc:=.mk λargs h K=>jW args λx y=>asO x λx=>asO y λy=>(match x,y with
 | .c (.string s),.c (.string cs)=>(match cs.data.toList with | [c]=>nat (Lib.countByte s.data.toList c) λn=>K (.i .i64 (.ofNat n)) h | _=>none)
 | _,_=>none)
def byts (l:List Sc) (K:List UInt8->R):R:=List.rec (motive:=λ_=>(List UInt8->R)->R) (λK=>K []) (λs _ ih K=>(match s with | .i .u8 (.ofNat n)=>gd (Nat.blt n 256) (ih λr=>K (UInt8.ofNat n::r)) | _=>none)) l K
def orCopy:Orc:=.mk λargs h K=>jv args λx=>asP x λid off=>gd (Nat.beq off 0) (match hget h id with
 | .c E n t=>gd (Nat.beq E 145 && Nat.beq n 2) (match t.get 0 with
  | .x (.p i o)=>gd (Nat.beq i id && Nat.beq o 0) (K (.t []) h)
  | .x (.o (.c (.pointer none)))=>editB h id λn t mk=>gd (Nat.ble 1 n) (setL [.p id 0] t 0 λt=>kF h id (mk t) λh=>K (.t []) h)
  | _=>none)
 | _=>none)
def orStr:Orc:=.mk λargs h K=>jv args λx=>asP x λid off=>gd (Nat.beq off 0) (match hget h id with
 | .c E n t=>gd (Nat.beq E 145 && Nat.beq n 2) (match t.get 1 with
  | .x (.o (.w i o m c))=>gd (Nat.beq o 0 && Nat.blt 0 m) (match hget h i with
   | .r E' n' t'=>gd (Nat.beq E' 5 && Nat.ble m n') (getL t' 0 m λcs=>byts cs λl=>kF h i .x λh=>K (.x (.o (.c (.string ⟨l.toArray⟩)))) h)
   | _=>none)
  | _=>none)
 | _=>none)
def O1 (f:FuncId):Option Orc:=bif Nat.beq f 52 then some orJoin else bif Nat.beq f 53 then some orTrim else bif Nat.beq f 54 then some orCount else bif Nat.beq f 185 then some orCopy else bif Nat.beq f 108 then some orStr else none
def τ286_13:L3:=mkF [.x (.o .u),(.x (.p 6 0)),(.x (.p 7 0)),(.x (.i .i64 (.ofNat 0))),(.x (.i .i64 (.ofNat 20))),(.x (.i .i64 (.ofNat 3))),(.x (.i .i64 (.ofNat 4))),(.x (.i .i64 (.ofNat 8))),(.x (.i .i64 (.ofNat 0))),.x (.o .u),(.x (.i .i64 (.ofNat 14))),(.x (.i .i64 (.ofNat 2))),(.x (.i .i64 (.ofNat 0))),(.x (.i .i64 (.ofNat 6))),(.x (.i .i64 (.ofNat 0))),(.x (.o (.s 1836 0 2 2))),(.x (.i .i64 (.ofNat 0))),(.x (.o (.w 1968 0 2 0))),(.x (.i .i64 (.ofNat 0))),(.x (.i .i64 (.ofNat 0))),(.x (.i .i64 (.ofNat 16))),(.x (.i .i64 (.ofNat 3))),(.x (.o (.w 2654 0 2 0))),(.x (.i .i64 (.ofNat 0))),(.x (.p 15580 0)),(.x (.i .i64 (.ofNat 0))),.x (.o .u),.x (.o .u),.x (.o .u),.x (.o .u),.x (.o .u),.x (.o .u),.x (.o .u),.x (.o .u),.x (.o .u),.x (.o .u),.x (.o .u),.x (.o .u),.x (.o .u),.x (.o .u),.x (.o .u),.x (.o .u),.x (.o .u),.x (.o .u),.x (.o .u),.x (.o .u),.x (.o .u),.x (.o .u),.x (.o .u),.x (.o .u),.x (.o .u),.x (.o .u),.x (.o .u),.x (.o .u),.x (.o .u),.x (.o .u),.x (.o .u),.x (.o .u),.x (.o .u),.x (.o .u),.x (.o .u),.x (.o .u),.x (.o .u),.x (.o .u),.x (.o .u),.x (.o .u),.x (.o .u),.x (.o .u),.x (.o .u),.x (.o .u),.x (.o .u),.x (.o .u),.x (.o .u),.x (.o .u),.x (.o .u),.x (.o .u),.x (.o .u),.x (.o .u),.x (.o .u),.x (.o .u),.x (.o .u),.x (.o .u),.x (.o .u),.x (.o .u),.x (.o .u),.x (.o .u),.x (.o .u),.x (.o .u),.x (.o .u),.x (.o .u),.x (.o .u),.x (.o .u),.x (.o .u),.x (.o .u),.x (.o .u),.x (.o .u),.x (.o .u),.x (.o .u),.x (.o .u),.x (.o .u),.x (.o .u),.x (.o .u),.x (.o .u),.x (.o .u),.x (.o .u),.x (.o .u),.x (.o .u),.x (.o .u),.x (.o .u),.x (.o .u),.x (.o .u),.x (.o .u),.x (.o .u),.x (.o .u),.x (.o .u),.x (.o .u),.x (.o .u),.x (.o .u),.x (.o .u),.x (.o .u),.x (.o .u),.x (.o .u),.x (.o .u),.x (.o .u),.x (.o .u),.x (.o .u),.x (.o .u),.x (.o .u),.x (.o .u),.x (.o .u),.x (.o .u),.x (.o .u),.x (.o .u),.x (.o .u),.x (.o .u),.x (.o .u),.x (.o .u),.x (.o .u),.x (.o .u),.x (.o .u),.x (.o .u),.x (.o .u),.x (.o .u),.x (.o .u),.x (.o .u),.x (.o .u),.x (.o .u),.x (.o .u),.x (.o .u),.x (.o .u),.x (.o .u),.x (.o .u),.x (.o .u),.x (.o .u),.x (.o .u),.x (.o .u),.x (.o .u),.x (.o .u),.x (.o .u),.x (.o .u),.x (.o .u),.x (.o .u),.x (.o .u),.x (.o .u),.x (.o .u),.x (.o .u),.x (.o .u),.x (.o .u),.x (.o .u),.x (.o .u),.x (.o .u),.x (.o .u),.x (.o .u),.x (.o .u),.x (.o .u),.x (.o .u),.x (.o .u),.x (.o .u),.x (.o .u),.x (.o .u),.x (.o .u),.x (.o .u),.x (.o .u),.x (.o .u),.x (.o .u),.x (.o .u),.x (.o .u),.x (.o .u),.x (.o .u),.x (.o .u),.x (.o .u),.x (.o .u),.x (.o .u),.x (.o .u),.x (.o .u),.x (.o .u),.x (.o .u),.x (.o .u),.x (.o .u),.x (.o .u),.x (.o .u),.x (.o .u),.x (.o .u),.x (.o .u),.x (.o .u),.x (.o .u),.x (.o .u),.x (.o .u),.x (.o .u),.x (.o .u),.x (.o .u),.x (.o .u),.x (.o .u),.x (.o .u),.x (.o .u),.x (.o .u),.x (.o .u),.x (.o .u),.x (.o .u),.x (.o .u),.x (.o .u),.x (.o .u),.x (.o .u),.x (.o .u),.x (.o .u),.x (.o .u),.x (.o .u),.x (.o .u),.x (.o .u),.x (.o .u),.x (.o .u),.x (.o .u),.x (.o .u),.x (.o .u),.x (.o .u),.x (.o .u),.x (.o .u),.x (.o .u),.x (.o .u),.x (.o .u),.x (.o .u),.x (.o .u),.x (.o .u),.x (.o .u),.x (.o .u),.x (.o .u),.x (.o .u),.x (.o .u),.x (.o .u),.x (.o .u),.x (.o .u),.x (.o .u),.x (.o .u),.x (.o .u),.x (.o .u),.x (.o .u),.x (.o .u),.x (.o .u),.x (.o .u),.x (.o .u),.x (.o .u),.x (.o .u),.x (.o .u),.x (.o .u),.x (.o .u),.x (.o .u),.x (.o .u),.x (.o .u),.x (.o .u),.x (.o .u),.x (.o .u),.x (.o .u),.x (.o .u),.x (.o .u),.x (.o .u),.x (.o .u)] 0 L3.e
def h286_13:H:=mkH 15581 [(15580,.c 103 4 (mkT [(.i .i64 (.ofNat 0)),(.i .i64 (.ofNat 2)),(.i .i64 (.ofNat 3)),(.i .i64 (.ofNat 2))])),(2654,.r 34 2 (mkT [(.o (.w 2397 0 2 0)),(.o (.w 2590 0 2 0))])),(1968,.r 3 2 (mkT [(.i .i64 (.ofNat 0)),(.i .i64 (.ofNat 3))])),(1836,.c 103 8 (mkT [(.i .i64 (.ofNat 0)),(.i .i64 (.ofNat 0)),(.i .i64 (.ofNat 3)),(.i .i64 (.ofNat 1)),(.i .i64 (.ofNat 0)),(.i .i64 (.ofNat 3)),(.i .i64 (.ofNat 3)),(.i .i64 (.ofNat 1))])),(7,.c 24 2 (mkT [(.o (.s 4 0 4 4)),(.i .i64 (.ofNat 4))])),(6,.c 24 2 (mkT [(.o (.s 1 0 3 3)),(.i .i64 (.ofNat 4))])),(2590,.r 3 2 (mkT [(.i .i64 (.ofNat 1)),(.i .i64 (.ofNat 3))])),(2397,.r 3 2 (mkT [(.i .i64 (.ofNat 0)),(.i .i64 (.ofNat 2))])),(4,.c 9 4 (mkT [(.o (.c (.string ⟨#[111,46,111]⟩))),(.o (.c (.string ⟨#[46,35,46]⟩))),(.o (.c (.string ⟨#[46,46,46]⟩))),(.o (.c (.string ⟨#[111,46,111]⟩)))])),(1,.c 9 3 (mkT [(.o (.c (.string ⟨#[111,46,46,111]⟩))),(.o (.c (.string ⟨#[46,35,46,46]⟩))),(.o (.c (.string ⟨#[111,46,46,111]⟩)))]))]
open Go.Shelf Go.RowKit Go.Lib Go.Proofs
def ky:Go.Shelf.Ren:=⟨λ| 119=>344 | 120=>273 | 137=>343 | 138=>54 | 143=>118 | 151=>189 | 152=>272 | 156=>52 | 160=>53 | 165=>106 | 166=>107 | 169=>108 | 195=>116 | 197=>188 | 217=>274 | 218=>117 | 219=>191 | 224=>276 | 225=>275 | 227=>111 | 228=>187 | 231=>109 | 232=>110 | 233=>112 | 234=>113 | 235=>114 | 236=>115 | 240=>185 | 241=>186 | 260=>271 | 266=>345 | 267=>277 | 271=>190 | 276=>269 | 277=>270 | 314=>346 | n=>n,λ| 0=>0 | 3=>3 | 4=>4 | 5=>5 | 9=>9 | 20=>20 | 21=>21 | 31=>22 | 37=>143 | 46=>169 | 51=>250 | 70=>142 | 72=>145 | 75=>148 | 76=>149 | 80=>151 | 105=>238 | 116=>154 | 117=>155 | 119=>392 | 124=>158 | 127=>236 | 138=>394 | 139=>395 | 146=>397 | 164=>313 | n=>n,λ| 1=>0 | 3=>1 | 4=>2 | n=>n⟩
theorem lay_join:Lays.n156 Tryz.prog ky where
 mixed:=by kernel_rfl
 f156:=Tryz.func52.trans (congrArg some (by kernel_rfl))
 f165:=Tryz.func106.trans (congrArg some (by kernel_rfl))
 f166:=Tryz.func107.trans (congrArg some (by kernel_rfl))
 f169:=Tryz.func108.trans (congrArg some (by kernel_rfl))
 f240:=Tryz.func185.trans (congrArg some (by kernel_rfl))
 f241:=Tryz.func186.trans (congrArg some (by kernel_rfl))
 f276:=Tryz.func269.trans (congrArg some (by kernel_rfl))
 f277:=Tryz.func270.trans (congrArg some (by kernel_rfl))
 t0:=Tryz.underlying0
 a0:=Tryz.isAgg0
 z0:=Tryz.sizeOf0
 v0:=Tryz.zeroValue0
 t3:=Tryz.underlying3
 a3:=Tryz.isAgg3
 z3:=Tryz.sizeOf3
 v3:=Tryz.zeroValue3
 t4:=Tryz.underlying4
 a4:=Tryz.isAgg4
 z4:=Tryz.sizeOf4
 v4:=Tryz.zeroValue4
 t9:=Tryz.underlying9
 a9:=Tryz.isAgg9
 z9:=Tryz.sizeOf9
 v9:=Tryz.zeroValue9
 t20:=Tryz.underlying20
 a20:=Tryz.isAgg20
 z20:=Tryz.sizeOf20
 v20:=Tryz.zeroValue20
 t31:=Tryz.underlying22
 a31:=Tryz.isAgg22
 z31:=Tryz.sizeOf22
 v31:=Tryz.zeroValue22
 t37:=Tryz.underlying143
 a37:=Tryz.isAgg143
 z37:=Tryz.sizeOf143
 v37:=Tryz.zeroValue143
 t70:=Tryz.underlying142
 a70:=Tryz.isAgg142
 z70:=Tryz.sizeOf142
 v70:=Tryz.zeroValue142
 t72:=Tryz.underlying145
 a72:=Tryz.isAgg145
 z72:=Tryz.sizeOf145
 v72:=Tryz.zeroValue145
 t75:=Tryz.underlying148
 a75:=Tryz.isAgg148
 z75:=Tryz.sizeOf148
 v75:=Tryz.zeroValue148
 t76:=Tryz.underlying149
 a76:=Tryz.isAgg149
 z76:=Tryz.sizeOf149
 v76:=Tryz.zeroValue149
 t127:=Tryz.underlying236
 a127:=Tryz.isAgg236
 z127:=Tryz.sizeOf236
 v127:=Tryz.zeroValue236
 t164:=Tryz.underlying313
 a164:=Tryz.isAgg313
 z164:=Tryz.sizeOf313
 v164:=Tryz.zeroValue313
theorem lay_trim:Lays.n160 Tryz.prog ky where
 mixed:=by kernel_rfl
 f119:=Tryz.func344.trans (congrArg some (by kernel_rfl))
 f120:=Tryz.func273.trans (congrArg some (by kernel_rfl))
 f137:=Tryz.func343.trans (congrArg some (by kernel_rfl))
 f151:=Tryz.func189.trans (congrArg some (by kernel_rfl))
 f152:=Tryz.func272.trans (congrArg some (by kernel_rfl))
 f160:=Tryz.func53.trans (congrArg some (by kernel_rfl))
 f197:=Tryz.func188.trans (congrArg some (by kernel_rfl))
 f217:=Tryz.func274.trans (congrArg some (by kernel_rfl))
 f224:=Tryz.func276.trans (congrArg some (by kernel_rfl))
 f225:=Tryz.func275.trans (congrArg some (by kernel_rfl))
 f227:=Tryz.func111.trans (congrArg some (by kernel_rfl))
 f228:=Tryz.func187.trans (congrArg some (by kernel_rfl))
 f231:=Tryz.func109.trans (congrArg some (by kernel_rfl))
 f232:=Tryz.func110.trans (congrArg some (by kernel_rfl))
 f233:=Tryz.func112.trans (congrArg some (by kernel_rfl))
 f234:=Tryz.func113.trans (congrArg some (by kernel_rfl))
 f235:=Tryz.func114.trans (congrArg some (by kernel_rfl))
 f236:=Tryz.func115.trans (congrArg some (by kernel_rfl))
 f260:=Tryz.func271.trans (congrArg some (by kernel_rfl))
 f266:=Tryz.func345.trans (congrArg some (by kernel_rfl))
 f271:=Tryz.func190.trans (congrArg some (by kernel_rfl))
 t0:=Tryz.underlying0
 a0:=Tryz.isAgg0
 z0:=Tryz.sizeOf0
 v0:=Tryz.zeroValue0
 t3:=Tryz.underlying3
 a3:=Tryz.isAgg3
 z3:=Tryz.sizeOf3
 v3:=Tryz.zeroValue3
 t4:=Tryz.underlying4
 a4:=Tryz.isAgg4
 z4:=Tryz.sizeOf4
 v4:=Tryz.zeroValue4
 t5:=Tryz.underlying5
 a5:=Tryz.isAgg5
 z5:=Tryz.sizeOf5
 v5:=Tryz.zeroValue5
 t9:=Tryz.underlying9
 a9:=Tryz.isAgg9
 z9:=Tryz.sizeOf9
 v9:=Tryz.zeroValue9
 t21:=Tryz.underlying21
 a21:=Tryz.isAgg21
 z21:=Tryz.sizeOf21
 v21:=Tryz.zeroValue21
 t46:=Tryz.underlying169
 a46:=Tryz.isAgg169
 z46:=Tryz.sizeOf169
 v46:=Tryz.zeroValue169
 t105:=Tryz.underlying238
 a105:=Tryz.isAgg238
 z105:=Tryz.sizeOf238
 v105:=Tryz.zeroValue238
 t116:=Tryz.underlying154
 a116:=Tryz.isAgg154
 z116:=Tryz.sizeOf154
 t117:=Tryz.underlying155
 a117:=Tryz.isAgg155
 z117:=Tryz.sizeOf155
 v117:=Tryz.zeroValue155
 t119:=Tryz.underlying392
 a119:=Tryz.isAgg392
 z119:=Tryz.sizeOf392
 t124:=Tryz.underlying158
 a124:=Tryz.isAgg158
 z124:=Tryz.sizeOf158
 v124:=Tryz.zeroValue158
 t138:=Tryz.underlying394
 a138:=Tryz.isAgg394
 z138:=Tryz.sizeOf394
 v138:=Tryz.zeroValue394
 t139:=Tryz.underlying395
 a139:=Tryz.isAgg395
 z139:=Tryz.sizeOf395
 v139:=Tryz.zeroValue395
 g3:=by kernel_rfl
 g4:=by kernel_rfl
theorem lay_count:Lays.n138 Tryz.prog ky where
 mixed:=by kernel_rfl
 f138:=Tryz.func54.trans (congrArg some (by kernel_rfl))
 f143:=Tryz.func118.trans (congrArg some (by kernel_rfl))
 f195:=Tryz.func116.trans (congrArg some (by kernel_rfl))
 f217:=Tryz.func274.trans (congrArg some (by kernel_rfl))
 f218:=Tryz.func117.trans (congrArg some (by kernel_rfl))
 f219:=Tryz.func191.trans (congrArg some (by kernel_rfl))
 f224:=Tryz.func276.trans (congrArg some (by kernel_rfl))
 f225:=Tryz.func275.trans (congrArg some (by kernel_rfl))
 f266:=Tryz.func345.trans (congrArg some (by kernel_rfl))
 f267:=Tryz.func277.trans (congrArg some (by kernel_rfl))
 f314:=Tryz.func346.trans (congrArg some (by kernel_rfl))
 t0:=Tryz.underlying0
 a0:=Tryz.isAgg0
 z0:=Tryz.sizeOf0
 v0:=Tryz.zeroValue0
 t3:=Tryz.underlying3
 a3:=Tryz.isAgg3
 z3:=Tryz.sizeOf3
 v3:=Tryz.zeroValue3
 t4:=Tryz.underlying4
 a4:=Tryz.isAgg4
 z4:=Tryz.sizeOf4
 v4:=Tryz.zeroValue4
 t5:=Tryz.underlying5
 a5:=Tryz.isAgg5
 z5:=Tryz.sizeOf5
 v5:=Tryz.zeroValue5
 t9:=Tryz.underlying9
 a9:=Tryz.isAgg9
 z9:=Tryz.sizeOf9
 v9:=Tryz.zeroValue9
 t46:=Tryz.underlying169
 a46:=Tryz.isAgg169
 z46:=Tryz.sizeOf169
 v46:=Tryz.zeroValue169
 t51:=Tryz.underlying250
 a51:=Tryz.isAgg250
 z51:=Tryz.sizeOf250
 v51:=Tryz.zeroValue250
 t146:=Tryz.underlying397
 a146:=Tryz.isAgg397
 z146:=Tryz.sizeOf397
 v146:=Tryz.zeroValue397
 g1:=by kernel_rfl
theorem str_ext:Builder.Extra Tryz.prog ky where
 sizeBuilder:=by kernel_rfl
 liesBuilder:=by kernel_rfl
 t5:=Tryz.underlying5
 a5:=Tryz.isAgg5
 z5:=Tryz.sizeOf5
 v5:=Tryz.zeroValue5
 infoByte:=by kernel_rfl
 cellsByte:=by kernel_rfl
 sizeByte:=by kernel_rfl
 neB5:=by decide
end Go.Ev
namespace Go.Ev
open Go.Lw Go.RowKit Go.Shelf Go.Proofs
theorem jf:Pr=Tryz.prog:=by unfold Pr;rfl
theorem FOk.val {w0:World} {f:FuncId} {us:List Value} {w:World} {e:Env} {h:H} {K:KV} {z:List (AV×H)} {x:AV} {v:Value} (R:zq w0 e h w) (hk:K x h=some z) (hx:Dn e x v) (hc:Calls Pr f ⟨us⟩ w λen w'=>en=.returned v/\Below w.heap.size w w') :
  Calls Pr f ⟨us⟩ w λen w'=>∃ v,en=.returned v/\Out w0 e h K v w':=
 hc.mono λen w' ⟨h1,h2⟩=>⟨v,h1,x,h,e,z,hk,hx,R.world h2,.refl e h⟩
theorem trim_ok (w0:World):FOk w0 orTrim.g 53:=by
 intro e h K z args us w hh ha R;refine⟨by rw[jf];exact zf Tryz.func53 (by kernel_rfl) (by kernel_rfl),?_⟩;have hh':jW args _=some z:=hh;obtain⟨x,y,rfl,hp⟩:=jL hh';obtain⟨x,rfl,hp2⟩:=qj hp;obtain⟨y,rfl,hq⟩:=qj hp2;clear hp hp2 hh' hh
 match us,ha with
 | [u,v],ha=>
  split at hq
  ·rename_i s cs _;obtain⟨g1,hk⟩:=zk hq;simp only[Bool.and_eq_true]at g1;obtain⟨⟨g1,g2⟩,g3⟩:=g1;have hu:u=.string s:=ha.1.1;have hv:v=.string cs:=ha.2.1.1;subst hu;subst hv;refine FOk.val R hk ⟨rfl,rfl⟩ ?_;rw[jf];exact Any.strings_Trim_laid lay_trim (by kernel_rfl) s cs w (Nat.le_trans (Nat.le_of_ble_eq_true g1) (by decide)) (Nat.lt_of_le_of_lt (Nat.le_of_ble_eq_true g2) (by decide)) λj b hb=>qR (List.all_eq_true.1 g3 b (List.mem_of_getElem? hb))
  ·cases hq
 | [],ha=>exact ha.elim
 | [_],ha=>exact ha.2.elim
 | _::_::_::_,ha=>exact ha.2.2.elim
theorem count_ok (w0:World):FOk w0 orCount.g 54:=by
 intro e h K z args us w hh ha R;refine⟨by rw[jf];exact zf Tryz.func54 (by kernel_rfl) (by kernel_rfl),?_⟩;have hh':jW args _=some z:=hh;obtain⟨x,y,rfl,hp⟩:=jL hh';obtain⟨x,rfl,hp2⟩:=qj hp;obtain⟨y,rfl,hq⟩:=qj hp2;clear hp hp2 hh' hh
 match us,ha with
 | [u,v],ha=>
  split at hq
  ·rename_i s cs _;split at hq
   ·rename_i c hc;rw[nat_eq]at hq;have hu:u=.string s:=ha.1.1;have hv:v=.string cs:=ha.2.1.1;subst hu;subst hv;have hcs:cs=⟨#[c]⟩:=by
     cases cs with
     | mk d=>cases d with
      | mk l=>simp at hc;subst hc;rfl
    subst hcs;refine FOk.val (x:=.i .i64 (.ofNat (Lib.countByte s.data.toList c))) R hq rfl ?_;rw[jf];exact(Any.strings_Count_one lay_count s c w).mono λen w' ⟨h1,h2⟩=>⟨h1,h2▸Below.refl _ _⟩
   ·cases hq
  ·cases hq
 | [],ha=>exact ha.elim
 | [_],ha=>exact ha.2.elim
 | _::_::_::_,ha=>exact ha.2.2.elim
theorem strs_law {z:List (AV×H)} : ∀ {l:List Sc} {K:List ByteArray->Ev.R},strs l K=some z->∃ bs:List ByteArray,K bs=some z/\l=bs.map λb=>Sc.o (.c (.string b))
 | [],K,hh=>⟨[],hh,rfl⟩
 | s::l,K,hh=>by
  cases s with
  | o x=>
   cases x with
   | c v=>
    cases v with
    | string b=>
     have hh':strs l (λr=>K (b::r))=some z:=hh
     obtain⟨bs,h1,h2⟩:=strs_law hh';exact⟨b::bs,h1,by rw[h2];rfl⟩
    | _=>cases hh
   | _=>cases hh
  | _=>cases hh
theorem join_at {w0:World} {e:Env} {h:H} {w:World} {K:KV} {z:List (AV×H)} {id off n c:Nat} {sep:ByteArray} (R:zq w0 e h w) (hd:e.dom id) (hc:n<=c)
  (hh:gd (Nat.blt 0 n && Nat.ble n 1000) (csE id off n 1 h λm cs=>strs cs λl=>gd (Nat.ble (joined l sep).length 100000) (K (.x (.o (.c (.string ⟨(joined l sep).toArray⟩)))) h))=some z) :
  Calls Pr 52 ⟨[.slice (some (adr e id off)) n c,.string sep]⟩ w λen w'=>∃ v,en=.returned v/\Out w0 e h K v w':=by
 obtain⟨g1,hh⟩:=zk hh;simp only[Bool.and_eq_true]at g1;have g2:=qR g1.1;have g3:=Nat.le_of_ble_eq_true g1.2;cases n with
 | zero=>omega
 | succ n=>
  obtain⟨E,N,t,hb,hh⟩:=qI (z:=z) (K:=λE N t=>gd (Nat.ble (off+(n+1)*1) N) (getL t off ((n+1)*1) λr=>strs r λl=>gd (Nat.ble (joined l sep).length 100000) (K (.x (.o (.c (.string ⟨(joined l sep).toArray⟩)))) h))) hh;obtain⟨g4,hh⟩:=zk hh;have g4:=Nat.le_of_ble_eq_true g4;obtain⟨l,hl,hg,hh⟩:=kQ hh;obtain⟨bs,hs,rfl⟩:=strs_law hh;obtain⟨g5,hk⟩:=zk hs;have g5:=Nat.le_of_ble_eq_true g5;obtain⟨us,u1,u2,u3⟩:=R.row hd hb hg (by rw[hl];exact g4);rw[List.length_map]at hl;refine FOk.val R hk ⟨rfl,rfl⟩ ?_;rw[jf];have hlow:e.blk id<w.heap.size:=(R.low id hd (by rcases hb with hb | hb<;>rw[hb]<;>trivial)).2;have:=Any.strings_Join lay_join str_ext (e.blk id) off c bs sep w (λj x hx=>by
   have hj:((bs.map λb=>Sc.o (.c (.string b))))[j]? = some (Sc.o (.c (.string x))):=by rw[List.getElem?_map,hx];rfl
   have hju:j<us.length:=by rw[u1];exact(List.getElem?_eq_some_iff.1 hj).1
   have hu:=List.getElem?_eq_getElem hju
   have hd2:us[j]=.string x:=(u2.at hj hu).1.1
   have:=u3 j _ hu
   rw[je,hd2]at this;exact this) hlow (by omega) (by omega) (Nat.le_trans g5 (by decide));rw[show bs.length=n+1 by omega]at this;exact this
theorem join_ok (w0:World):FOk w0 orJoin.g 52:=by
 intro e h K z args us w hh ha R;refine⟨by rw[jf];exact zf Tryz.func52 (by kernel_rfl) (by kernel_rfl),?_⟩;have hh':jW args _=some z:=hh;obtain⟨x,y,rfl,hp⟩:=jL hh';obtain⟨x,rfl,hp2⟩:=qj hp;obtain⟨y,rfl,hq⟩:=qj hp2;clear hp hp2 hh' hh
 match us,ha with
 | [u,v],ha=>
  split at hq
  ·rename_i sep _;have hv:v=.string sep:=ha.2.1.1;subst hv;split at hq
   ·rename_i id off n c _;obtain⟨hd,rfl⟩:e.dom id/\u=.slice (some (adr e id off)) n c:=ha.1;obtain⟨g0,hq2⟩:=zk hq;exact join_at R hd (Nat.le_of_ble_eq_true g0) hq2
   ·rename_i id off n c _;obtain⟨hd,rfl,hc⟩:e.dom id/\u=.slice (some (adr e id off)) n (e.cap id-c)/\n+c<=e.cap id:=ha.1;exact join_at R hd (by omega) hq
   ·cases hq
  ·cases hq
 | [],ha=>exact ha.elim
 | [_],ha=>exact ha.2.elim
 | _::_::_::_,ha=>exact ha.2.2.elim
theorem copy_ok (w0:World):FOk w0 orCopy.g 185:=by
 intro e h K z args us w hh ha R;refine⟨by rw[jf];exact zf Tryz.func185 (by kernel_rfl) (by kernel_rfl),?_⟩;have hh':jv args _=some z:=hh;obtain⟨x,rfl,hp⟩:=jm hh';obtain⟨id,off,rfl,hp2⟩:=qW hp;obtain⟨g1,hq⟩:=zk hp2;have:=Nat.eq_of_beq_eq_true g1;subst this;clear hp hp2 hh' hh
 match us,ha with
 | [u],ha=>
  obtain⟨hd,rfl⟩:e.dom id/\u=.pointer (some (adr e id 0)):=ha.1;split at hq
  ·rename_i E n t hb;have g2:=(zk hq).1;replace hq:=(zk hq).2;simp only[Bool.and_eq_true]at g2;obtain rfl:E=145:=Nat.eq_of_beq_eq_true g2.1;obtain rfl:n=2:=Nat.eq_of_beq_eq_true g2.2;have ok:=R.ok id hd;rw[hb]at ok;obtain⟨cs,k1,k2,k3⟩:=ok;obtain⟨s,v,c1,c2,c3⟩:=k3.2.2 0 (by decide);have hc:w.cell? ⟨e.blk id,0,none⟩=some v:=by rw[qP k1];exact c1
   rw[c2]at hq;split at hq
   ·rename_i i o hs;cases hs;obtain⟨g3,hk⟩:=zk hq;rw[Bool.and_eq_true]at g3;have e1:i=id:=Nat.eq_of_beq_eq_true g3.1;have e2:o=0:=Nat.eq_of_beq_eq_true g3.2;subst e1;subst e2;obtain⟨_,rfl⟩:e.dom i/\v=.pointer (some (adr e i 0)):=c3.1;refine FOk.val (x:=.t []) R hk ⟨[],rfl,trivial⟩ ?_;rw[jf];exact(Any.Builder_copyCheck_used { lay_join with } str_ext.toX72 (e.blk i) w hc).mono λen w' ⟨h1,h2⟩=>⟨h1,h2▸Below.refl _ _⟩
   ·rename_i hs;cases hs;obtain rfl:v=.pointer none:=c3.1.1;have hu:zB (DnC e) [.p id 0] [.pointer (some (adr e id 0))]:=⟨⟨⟨hd,rfl⟩,rfl⟩,trivial⟩;obtain⟨E',cs',m1,m2,m3⟩:=edit_law (K:=λh=>K (.t []) h) R hd hu (q:=1) (by simp) hq;rw[k1]at m1;obtain⟨rfl,rfl⟩:cs'=cs/\E'=145:=by unfold LC at m1;simp at m1;exact⟨m1.1.symm,m1.2.symm⟩
    rw[jf];have hsh:w.shape? (e.blk id)=some (ky.t 72,2):=by rw[show ky.t 72=145 from rfl];simp[World.shape?,k1,LC,k2]
    refine(Any.Builder_copyCheck_fresh { lay_join with } str_ext.toX72 (e.blk id) w hc hsh (by simp[World.frozen?,k1,LC])).mono λen w' ⟨h1,h2⟩=>⟨_,h1,?_⟩;refine OutU.outT (m3 w' ?_ ?_)
    ·subst h2;exact⟨rfl,rfl,rfl,by simp[World.setCell],λk _ hk=>Below.heap_setCell _ _ _ _ (λe=>hk (by simp[e]))⟩
    ·subst h2;obtain⟨c0,c1',rfl⟩:∃ a b,cs'=[a,b]:=by
      match cs',k2 with
      | [a,b],_=>exact⟨a,b,rfl⟩
     simp[World.setCell,Array.getElem?_modify,k1,LC,adr]
   ·cases hq
  ·cases hq
 | [],ha=>exact ha.elim
 | _::_::_,ha=>exact ha.2.elim
section
variable {P:Program} {ρ:Ren}
set_option maxHeartbeats 1000000 in
set_option maxRecDepth 100000 in
theorem builder_str (L:Lays.n169 P ρ) (X:Builder.Extra P ρ) (b g cap:Nat) (p:Value) (cur:Array Value) (l:List UInt8) (w:World) (hbk:w.heap[b]? = some (.cells #[p,.slice (some ⟨g,0,none⟩) l.length cap] (ρ.t 72) (0,0))) (hg:w.heap[g]? = some (.cells cur (ρ.t 5) (0,0))) (hls:l.length<=cur.size)
  (hcl:∀ j x,l[j]? = some x->w.cell? ⟨g,j,none⟩=some (.int .u8 (x.toNat:Int))) (hcap:l.length<=cap) (h63:l.length<=9223372036854775807) (h0:l≠[]) :
  Calls P (ρ.f 169) #[.pointer (some ⟨b,0,none⟩)] w λe w'=>e=.returned (.string ⟨l.toArray⟩)/\w.grownBy w' (some g):=by
 have hl0:l.length≠0:=by simpa using h0
 have c1:w.drew.cell? ⟨b,1,none⟩=some (.slice (some ⟨g,0,none⟩) l.length cap):=by
  have:w.drew.heap[b]? = some (.cells #[p,.slice (some ⟨g,0,none⟩) l.length cap] (ρ.t 72) (0,0)):=hbk
  rw[Lib.cell_of_heap this];rfl
 have hSD:(Builtin.unsafeSliceData_ #[(ρ.t 37)] (ρ.t 127) #[.slice (some ⟨g,0,none⟩) l.length cap]).run P w.drew=.ok (.pointer (some ⟨g,0,none⟩)) w.drew:=
  Lib.run_unsafeSliceData_row _ _ _ _ _ _ (by omega)
 have hUS:(Builtin.unsafeString_ #[(ρ.t 127),(ρ.t 3)] (ρ.t 9) #[.pointer (some ⟨g,0,none⟩),.int .i64 l.length]).run P w.drew=.ok (.string ⟨l.toArray⟩) (w.drew.freeze ⟨g,0,none⟩ l.length):=by refine Lib.run_unsafeString_row w.drew (ρ.t 127) (ρ.t 3) (ρ.t 9) (ρ.t 5) L.t127 X.cellsByte g cur.size (by have hg':w.drew.heap[g]? = some (.cells cur (ρ.t 5) (0,0)):=hg;simp[World.shape?,hg']) l h0 hls h63 ?_;intro j x hx;have:=hcl j x hx;rw[Addr.add_lit,Nat.zero_add];exact this
 have hgr:w.grownBy (w.drew.freeze ⟨g,0,none⟩ l.length) (some g):=by
  refine⟨?_,?_,?_,?_,λk _ hne=>?_⟩<;>unfold World.freeze<;>rw[if_neg hl0]
  ·rfl
  ·rfl
  ·rfl
  ·show w.heap.size<=(w.heap.modify _ _).size
   rw[Array.size_modify];exact Nat.le_refl _
  ·simp only[Array.getElem?_modify];rw[if_neg (λe=>hne (by rw[e]))];rfl
 have mixed:=L.mixed
 have t72:=L.t72;have a72:=L.a72;have z72:=L.z72;have v72:=L.v72;have u72:=run_underlying L.t72
 have t70:=L.t70;have a70:=L.a70;have z70:=L.z70;have v70:=L.v70;have u70:=run_underlying L.t70
 have t37:=L.t37;have a37:=L.a37;have z37:=L.z37;have v37:=L.v37;have u37:=run_underlying L.t37
 have t127:=L.t127;have a127:=L.a127;have z127:=L.z127;have v127:=L.v127;have u127:=run_underlying L.t127
 have t3:=L.t3;have a3:=L.a3;have z3:=L.z3;have v3:=L.v3;have u3:=run_underlying L.t3
 have t9:=L.t9;have a9:=L.a9;have z9:=L.z9;have v9:=L.v9;have u9:=run_underlying L.t9
 have t5:=X.t5;have a5:=X.a5;have z5:=X.z5;have v5:=X.v5;have u5:=run_underlying X.t5
 go_enter L.f169,Body.n169_ntmps ρ
 go_wp2
 go_region_o
 all_goals (go_wp2;go_ret;exact⟨rfl,hgr⟩)
end
theorem byts_law {z:List (AV×H)} : ∀ {l:List Sc} {K:List UInt8->Ev.R},byts l K=some z->∃ bs:List UInt8,K bs=some z/\l.length=bs.length/\∀ (j:Nat) (x:UInt8),bs[j]? = some x->l[j]? = some (Sc.i IntKind.u8 (Int.ofNat x.toNat))
 | [],K,hh=>⟨[],hh,rfl,λj s hj=>by simp at hj⟩
 | s::l,K,hh=>by
  cases s with
  | i k a=>
   cases k with
   | u8=>
    cases a with
    | ofNat n=>
     have hh':gd (Nat.blt n 256) (byts l (λr=>K (UInt8.ofNat n::r)))=some z:=hh
     obtain⟨g1,hh'⟩:=zk hh';obtain⟨bs,h1,h2,h3⟩:=byts_law hh';refine⟨_,h1,by simp[h2],λj s hj=>?_⟩;cases j with
     | zero=>
      simp at hj;subst hj;rw[UInt8.toNat_ofNat',Nat.mod_eq_of_lt (qR g1)];rfl
     | succ j=>exact h3 j s (by simpa using hj)
    | _=>cases hh
   | _=>cases hh
  | _=>cases hh
theorem str_ok (w0:World):FOk w0 orStr.g 108:=by
 intro e h K z args us w hh ha R;refine⟨by rw[jf];exact zf Tryz.func108 (by kernel_rfl) (by kernel_rfl),?_⟩;have hh':jv args _=some z:=hh;obtain⟨x,rfl,hp⟩:=jm hh';obtain⟨id,off,rfl,hp2⟩:=qW hp;obtain⟨g1,hq⟩:=zk hp2;have:=Nat.eq_of_beq_eq_true g1;subst this;clear hp hp2 hh' hh
 match us,ha with
 | [u],ha=>
  obtain⟨hd,rfl⟩:e.dom id/\u=.pointer (some (adr e id 0)):=ha.1;split at hq
  ·rename_i E n t hb;have g2:=(zk hq).1;replace hq:=(zk hq).2;simp only[Bool.and_eq_true]at g2;obtain rfl:E=145:=Nat.eq_of_beq_eq_true g2.1;obtain rfl:n=2:=Nat.eq_of_beq_eq_true g2.2;have ok:=R.ok id hd;rw[hb]at ok;obtain⟨cs,k1,k2,k3⟩:=ok;obtain⟨s,v,c1,c2,c3⟩:=k3.2.2 1 (by decide);rw[c2]at hq;split at hq
   ·rename_i i o m c hs;cases hs;have g3:=(zk hq).1;replace hq:=(zk hq).2;rw[Bool.and_eq_true]at g3;have e2:o=0:=Nat.eq_of_beq_eq_true g3.1;subst e2;have hm:=qR g3.2;obtain⟨hi,rfl,hcap⟩:e.dom i/\v=.slice (some (adr e i 0)) m (e.cap i-c)/\m+c<=e.cap i:=c3.1;split at hq
    ·rename_i E' n' t' hbi;have g4:=(zk hq).1;replace hq:=(zk hq).2;rw[Bool.and_eq_true]at g4;obtain rfl:E'=5:=Nat.eq_of_beq_eq_true g4.1;have hmn:=Nat.le_of_ble_eq_true g4.2;obtain⟨l,l1,l2,hq⟩:=kQ hq;obtain⟨bs,hk,b1,b2⟩:=byts_law hq;obtain⟨hlo,h',P,hk⟩:=jS hk (R.zN hi);obtain⟨ds,d1,d2⟩:=R.cells hi (.inr hbi);obtain rfl:m=bs.length:=by omega
     obtain⟨a0,rfl⟩:∃ a,cs=[a,.slice (some (adr e i 0)) bs.length (e.cap i-c)]:=by
      match cs,k2,c1 with
      | [a,b],_,c1=>simp at c1;subst c1;exact⟨a,rfl⟩
     have h2:=d2.2.1
     have h3:=capV_le t'
     rw[jf];refine(builder_str { lay_join with } str_ext (e.blk id) (e.blk i) (e.cap i-c) a0 ⟨ds⟩ bs w k1 d1 (Nat.le_trans hmn d2.1) (λj x hj=>?_) (by omega) (by omega) (λh=>by subst h;simp at hm)).mono λen w' ⟨r1,r2⟩=>⟨_,r1,?_⟩
     ·have hjb:j<bs.length:=(List.getElem?_eq_some_iff.1 hj).1
      obtain⟨s,v,q1,q2,q3⟩:=d2.2.2 j (by omega);have q4:=l2 j _ (b2 j x hj);rw[Nat.zero_add,q2]at q4;cases q4;rw[qP d1,q1];exact congrArg some q3.1
     ·exact⟨_,h',e,z,hk,⟨rfl,rfl⟩,(R.low' i).put P hi (by show inB (hget h i);rw[hbi];trivial) (by show ¬ hidK (hget h i);rw[hbi];exact λc=>c) r2 trivial,(fr_low e h i).trans <| (R.low' i).frPut P hi (.inl hlo) (by show jU (hget h i) _;rw[hbi];trivial)⟩
    ·cases hq
   ·cases hq
  ·cases hq
 | [],ha=>exact ha.elim
 | _::_::_,ha=>exact ha.2.elim
theorem oc1 (w0:World):OcOk w0 O1:=by
 intro f o h;unfold O1 at h;have b:∀ {m:Nat} {x y:Option Orc},(bif Nat.beq f m then x else y)=some o->(f=m/\x=some o)\/y=some o:=by
  intro m x y h;cases c:Nat.beq f m with
  | true=>rw[c]at h;exact .inl ⟨Nat.eq_of_beq_eq_true c,h⟩
  | false=>rw[c]at h;exact .inr h
 rcases b h with ⟨rfl,h⟩ | h
 ·cases h;exact @join_ok w0
 rcases b h with ⟨rfl,h⟩ | h
 ·cases h;exact @trim_ok w0
 rcases b h with ⟨rfl,h⟩ | h
 ·cases h;exact @count_ok w0
 rcases b h with ⟨rfl,h⟩ | h
 ·cases h;exact @copy_ok w0
 rcases b h with ⟨rfl,h⟩ | h
 ·cases h;exact @str_ok w0
 cases h
end Go.Ev
namespace Go.Cu
open Go.Lw
theorem ivs {a b:Int} (h:a=b):some (Value.int .i64 a)=some (Value.int .i64 b):=by rw[h]
abbrev iv (n:Int):Value:=.int .i64 n
structure Sm where
 p:Int
 m:Int
 deriving DecidableEq
abbrev smv (a:Sm):Value:=.agg #[.int .i64 a.p,.int .i64 a.m]
abbrev sme (a:Sm):List Value:=[.int .i64 a.p,.int .i64 a.m]
def ko (x lo hi p m:Int):Sm:=if lo=hi then ⟨x*(p+m*lo),0⟩else ⟨x*p,x*m⟩
def kP (k:Nat):Int:=((k % 101:Nat):Int)
def kM (k:Nat):Int:=((k / 101:Nat):Int)-10
def MS (x lo hi:Int):Nat->MM Sm Sm×Nat
 | 0=>([],0)
 | k+1=>mput (ko x lo hi (kP k) (kM k)) ⟨kP k,kM k⟩ (MS x lo hi k).1 (MS x lo hi k).2
theorem MS_ok (x lo hi:Int):∀ k,MOk (MS x lo hi k).1 (MS x lo hi k).2
 | 0=>MOk.nil 0
 | k+1=>mput_ok (MS_ok x lo hi k)
def endK (x:Int):Nat:=if x=0 then 1 else 2121
def atS (lo:Int) (s:Sm):Int:=s.p+s.m*lo
def mxS (lo:Int) (s:Sm):Int:=max (max s.p (atS lo s)) (-(atS lo s))
def mostS (far lo:Int):List Sm->Int
 | []=>0
 | s::S=>far*mxS lo s+mostS far lo S
def mostA (far lo:Int) (S:List Sm) (k:Nat):Int:=mostS far lo (S.take k)
theorem mostS_app (far lo:Int) (s:Sm):∀ S:List Sm,mostS far lo (S++[s])=mostS far lo S+far*mxS lo s
 | []=>by simp[mostS]
 | t::S=>by simp[mostS,mostS_app far lo s S];omega
def inS (q:Int) (e:Sm×Sm×Nat):Bool:=decide (-q<=e.1.p/\e.1.p<=q)
def shM (x lo hi q:Int):MM Sm Sm:=(MS x lo hi (endK x)).1.filter (inS q)
def good (s:Sm):Prop:=0<=s.p/\s.p<=100/\-10<=s.m/\s.m<=10
theorem mul_bd {a b A B:Int} (h1 : -A<=a) (h2:a<=A) (h3 : -B<=b) (h4:b<=B) : -(A*B)<=a*b/\a*b<=A*B:=by
 have hA:0<=A:=by omega
 have hB:0<=B:=by omega
 have e1:0<=(A-a)*(B+b):=Int.mul_nonneg (by omega) (by omega)
 have e2:0<=(A+a)*(B-b):=Int.mul_nonneg (by omega) (by omega)
 have e3:0<=(A+a)*(B+b):=Int.mul_nonneg (by omega) (by omega)
 have e4:0<=(A-a)*(B-b):=Int.mul_nonneg (by omega) (by omega)
 constructor<;>grind
end Go.Cu
namespace Go.Proofs.YtnffcfhdnjbdbaaGreatDoor
open Go.Lw Go.Cu Go.RowKit
theorem tindex_i (g:FuncId) (cap:List Value) (p:Int->Bool) (V:View) (vl:Value) (l:List Int) (hs:SlI V vl l) (hok:zi Tryz.prog g)
  (hc:∀ x,x∈l->Fnc Tryz.prog g ([]++[iv x]++cap) V (λv _=>v=.bool (p x))) :
  Fnc Tryz.prog 406 [vl,.func (.func g) #[] cap.toArray] V λv _=>∃ j:Int,v=iv j/\(decide (0<=j))=l.any p:=by
 have hlen:=hs.jC
 refine zG Tryz.func406 rfl Tryz.ntmps406 (Nat.le_of_ble_eq_true rfl) ?_;intro w0 hw0;refine zb (tT 0 [0]) ?_;refine ax (tT 0 [0,0,0]) ?_;refine ze ?_;refine zZ Tryz.underlying173 ?_;refine ze ?_;refine AtT.dn ?_;refine xc (ι:=Nat) (KS:=λk=>[(0,vl),(1,.func (.func g) #[] cap.toArray),(4,iv 0),(7,iv l.length),(8,iv k)]) (OS:=λ_=>[])
  (VS:=λk V'=>V'=V/\k<=l.length/\(l.take k).any p=false) (μ:=λk=>l.length-k) 0 ?_ ?_ ?_ ?_
 ·exact⟨rfl,rfl,rfl,rfl,rfl,trivial⟩
 ·exact Pt.zg
 ·exact⟨rfl,Nat.zero_le _,rfl⟩
 ·rintro k V' ks' O' ⟨rfl,hkl,hany⟩ hk hO hl;subst hk hO;refine zb (tT 0 [0]) ?_;refine qc ?_;refine AtT.dn ?_;refine zI rfl (λhp=>?_) (λhp=>?_)
  ·refine zb (tT 0 [0,0]) ?_;refine ze ?_;refine ax (tT 0 [0,0,0,0,0,1]) ?_;refine ze ?_;refine ze ?_;refine ze ?_;refine kZ Tryz.underlying173 tk2 ?_;intro p14 e14 he14 hc14;refine kV tk2 ?_;refine jD rfl rfl rfl hok (hc e14 (List.mem_of_getElem? he14)) ?_;rintro _ rfl;refine AtT.dn ?_;have hee:l[k]? = some e14:=by simpa using he14
   have hnx:l.take (k+1)=l.take k++[e14]:=by rw[List.take_succ_eq_append_getElem (by omega)];congr 1;rw[List.getElem?_eq_getElem (by omega)]at hee;simpa using hee
   refine At.cond rfl (λhb=>?_) (λhb=>?_)
   ·refine zb (tT 0 [0,0]) ?_;refine ze ?_;refine zh ?_;refine zL rfl (.tmp rfl) ⟨k,rfl,?_⟩;have:l.any p=true:=List.any_eq_true.2 ⟨e14,List.mem_of_getElem? hee,hb⟩;rw[this];simp
   ·refine zb (tT 0 [0,0]) ?_;refine zM ?_;refine ze ?_;refine AtT.dn ?_;refine At.round (k+1) ?_ ?_ ?_ ?_
    ·show l.length-(k+1)<l.length-k;omega
    ·refine⟨rfl,by omega,?_⟩;rw[hnx,List.any_append,hany];simp[hb]
    ·exact⟨rfl,rfl,rfl,rfl,rfl,trivial⟩
    ·exact Pt.zg
  ·have hkk:k=l.length:=by omega
   subst hkk;rw[List.take_length]at hany;refine zb (tT 0 [0]) ?_;refine zh ?_;refine zL rfl (.tmp rfl) ⟨-1,rfl,?_⟩;rw[hany];rfl
theorem tcontains_i (g:FuncId) (cap:List Value) (p:Int->Bool) (V:View) (vl:Value) (l:List Int) (hs:SlI V vl l) (hok:zi Tryz.prog g)
  (hc:∀ x,x∈l->Fnc Tryz.prog g ([]++[iv x]++cap) V (λv _=>v=.bool (p x))) :
  Fnc Tryz.prog 331 [vl,.func (.func g) #[] cap.toArray] V λv _=>v=.bool (l.any p):=by
 refine zG Tryz.func331 rfl Tryz.ntmps331 (Nat.le_of_ble_eq_true rfl) ?_;intro w0 hw0;refine zb (tT 0 [0]) ?_;refine ax (tT 0 [0,0,1,0,0]) ?_;refine ze ?_;refine ze ?_;refine zm rfl rfl ok406 (tindex_i g cap p V vl l hs hok hc) ?_;rintro _ ⟨j,rfl,hj⟩;refine kgeq ?_;refine zh ?_;refine zL rfl (.tmp rfl) ?_;rw[hj]
theorem cwithin1_f (lo hi y:Int) (V:View) (q1 q2:Addr) (h1:Cells V q1 [iv lo]) (h2:Cells V q2 [iv hi]):Fnc Tryz.prog 455 ([]++[iv y]++[.pointer (some q1),.pointer (some q2)]) V λr _=>r=.bool (decide (y<lo\/hi<y)):=by
 refine zG Tryz.func455 rfl Tryz.ntmps455 (Nat.le_of_ble_eq_true rfl) ?_;intro w0 hw0;refine zb (tT 0 [0]) ?_;refine zh ?_;by_cases h:y<lo
 ·refine zP (tT 0 [0,0,0,0,0,0,0,0,0]) ?_;refine ze ?_;refine kV tk2 ?_;refine qc ?_;refine xk (d:=7) rfl (h) ?_;refine ze ?_;all_goals (first | refine kY 8 ?_ | refine kX (d:=8) rfl (λhg8=>?_) (λhg8=>?_) | refine kW (d:=8) rfl (λhg8=>?_) (λhg8=>?_))
  all_goals refine zJ ?_
  all_goals refine qi tk2 ?_
  all_goals refine p_gt ?_
  all_goals refine zF ?_
  all_goals refine zu ?_
  all_goals refine AtT.done ?_
  all_goals refine nrm ?_
  all_goals (exact zL rfl (.tmp rfl) (by rw[decide_eq_true (Or.inl h)];rfl))
 ·refine zP (tT 0 [0,0,0,0,0,0,0,0,0]) ?_;refine ze ?_;refine kV tk2 ?_;refine qc ?_;refine xh (d:=7) rfl (h) ?_;refine ze ?_;all_goals (first | refine kY 8 ?_ | refine kX (d:=8) rfl (λhg8=>?_) (λhg8=>?_) | refine kW (d:=8) rfl (λhg8=>?_) (λhg8=>?_))
  all_goals refine zJ ?_
  all_goals refine qi tk2 ?_
  all_goals refine p_gt ?_
  all_goals refine zF ?_
  all_goals refine zu ?_
  all_goals refine AtT.done ?_
  all_goals refine nrm ?_
  all_goals (exact zL rfl (.tmp rfl) (congrArg Value.bool (decide_eq_decide.2 ⟨λh'=>.inr h',λh'=>h'.resolve_left h⟩)))
theorem cwithin_f (lo hi x:Int) (V:View) (v:Value) (hs:SlI V v [x]):Fnc Tryz.prog 369 [iv lo,iv hi,v] V λr _=>r=.bool (decide (lo<=x/\x<=hi)):=by refine zG Tryz.func369 rfl Tryz.ntmps369 (Nat.le_of_ble_eq_true rfl) ?_;intro w0 hw0;refine zb (tT 0 [1,1,0]) ?_;refine qQ ?_;intro b3;refine qQ ?_;intro b4;refine ax (tT 0 [0,0,1,0,0]) ?_;refine ze ?_;refine kfn ?_;refine kcallL rfl rfl ok331 (λVL hVL hOL=>tcontains_i 455 [.pointer (some ⟨b3,0,none⟩),.pointer (some ⟨b4,0,none⟩)] (λy=>decide (y<lo\/hi<y)) VL _ [x] (hs.le hVL) ok455 (λy hy=>cwithin1_f lo hi y VL _ _ (zQ (hOL b3 _ (List.mem_cons_of_mem _ (List.mem_cons_self ..)))) (zQ (hOL b4 _ (List.mem_cons_self ..))))) ?_;rintro _ rfl;refine xn ?_;refine zh ?_;refine zL rfl (.tmp rfl) ?_;simp only[List.any_cons,List.any_nil,Bool.or_false];congr 1;rw[<-decide_not];exact decide_eq_decide.2 (by omega)
theorem place_f (x:Int) (n c:Nat) (a:Option Addr) (b:Nat) (hx:0<=x/\x<=1000) (hn:n<=1000) (V:View) (h0:Cells V ⟨b,0,none⟩ [.slice a n c]):Fnc Tryz.prog 461 [.pointer (some ⟨b,0,none⟩),iv x] V λr _=>r=iv (x-(n:Int) / 2):=by
 have hd:((n:Int)).tdiv 2=(n:Int) / 2:=Int.tdiv_eq_ediv_of_nonneg (by omega)
 refine zG Tryz.func461 rfl Tryz.ntmps461 (Nat.le_of_ble_eq_true rfl) ?_;intro w0 hw0;refine zb (tT 0 [0]) ?_;refine ax (tT 0 [0,0,0,0,0,0,0,0,0,0]) ?_;refine ze ?_;refine ze ?_;refine jh ?_;refine zw fo425_0 ?_;refine zw fo330_0 ?_;refine kV tk326 ?_;refine zZ Tryz.underlying326 ?_;refine kquo ?_;refine k_sb ?_;refine zh ?_;refine zL rfl (.tmp rfl) ?_;rw[<-hd]
theorem key355:KeyL Tryz.prog 487 smv where
 eq a b w:=by
  have:=(eqS487 a.p a.m b.p b.m).2 w
  have e:decide (a=b)=decide (a.p=b.p/\a.m=b.m):=by cases a;cases b;simp
  rw[e];exact this
 ck e a w:=by
  have u3:=Tryz.underlying2
  have a3:=Tryz.isAgg2
  have z3:=Tryz.sizeOf2
  have ci:∀ (x:Int) (w:World),(Instr.checkKey e 9999 2 (.int .i64 x)).run Tryz.prog w=.ok () w:=λx w=>by rw[show(9999:Nat)=9998+1 from rfl,Instr.checkKey];simp[run_underlying u3,Sem.run_bind,Result.andThen_ok,Sem.run_pure]
  rw[show(10000:Nat)=9999+1 from rfl,Instr.checkKey];simp only[Sem.run_bind,run_underlying Tryz.underlying487,Result.andThen_ok];rw[<-Array.forIn_toList];simp only[List.forIn_cons,List.forIn_nil,Sem.run_bind,Sem.run_pure,Result.andThen_ok];generalize (9999:Nat)=q at ci⊢
  go_simp
 sb a:=by simp[Instr.sameBits]
 now:=⟨_,Tryz.underlying487,.inl λa b=>rfl⟩
set_option maxHeartbeats 1600000 in
theorem sheets_f (x lo hi:Int) (S:List Sm) (a:Option Addr) (c:Nat) (b:Nat) (hx : -100<=x/\x<=100) (hlo:0<=lo/\lo<=50) (hhi:0<=hi/\hi<=50) (hS:∀ s∈S,good s) (hn:1<=S.length/\S.length<=7) (V:View)
  (h0:Cells V ⟨b,0,none⟩ [.slice a S.length c]) (h1:Cells V ⟨b,1,none⟩ [iv lo]) (h2:Cells V ⟨b,2,none⟩ [iv hi]) (hs:Sl V sme 2 (.slice a S.length c) S) :
  Fnc Tryz.prog 463 [.pointer (some ⟨b,0,none⟩),iv x] V λr V'=>∃ m,r=.map (some m)/\V m=none/\V' m=some (qM smv smv (shM x lo hi (mostS ((S.length:Int)-1-(S.length:Int) / 2) lo S)) (MS x lo hi (endK x)).2):=by
 refine zG Tryz.func463 rfl Tryz.ntmps463 (Nat.le_of_ble_eq_true rfl) ?_;intro w0 hw0;refine zb (tT 0 [0]) ?_;refine zh ?_;refine zb (tT 0 [1,0]) ?_;refine AtT.makeMap rfl trivial smv smv (by decide) ?_;intro b15;refine ax (tT 0 [0]) ?_;refine zu ?_;refine AtT.done ?_;refine nrmB ?_;refine cutG (ι:=Unit) (λ_=>[(0,.pointer (some ⟨b,0,none⟩)),(1,iv x),(5,.map (some b15))]) (λ_=>[.blk b15 (qM smv smv (MS x lo hi (endK x)).1 (MS x lo hi (endK x)).2)]) (λ_ V'=>V=V') ?_ ?_
 ·refine nrm ?_;refine xc (ι:=Nat) (KS:=λj=>[(0,.pointer (some ⟨b,0,none⟩)),(1,iv x),(5,.map (some b15)),(6,iv ((j:Int)-10))]) (OS:=λj=>[.blk b15 (qM smv smv (MS x lo hi (101*j)).1 (MS x lo hi (101*j)).2)])
   (VS:=λj V'=>V=V'/\j<=21/\(j=0\/x≠0)) (μ:=λj=>21-j) 0 ?_ ?_ ?_ ?_
  ·exact⟨rfl,rfl,rfl,rfl,trivial⟩
  ·exact Pt.zg
  ·exact⟨rfl,by decide,.inl rfl⟩
  rintro j V' ks' O' ⟨rfl,hj,hjx⟩ hk hO hl;subst hk hO;refine zb (tT 0 [0,0]) ?_;refine ze ?_;refine kleq ?_;refine AtT.dn ?_;refine zI rfl (λhp=>?_) (λhp=>?_)
  ·refine zb (tT 0 [0]) ?_;refine zh ?_;refine xc (ι:=Nat) (KS:=λi=>[(0,.pointer (some ⟨b,0,none⟩)),(1,iv x),(5,.map (some b15)),(6,iv ((j:Int)-10)),(7,iv i)]) (OS:=λi=>[.blk b15 (qM smv smv (MS x lo hi (101*j+i)).1 (MS x lo hi (101*j+i)).2)])
    (VS:=λi V''=>V=V''/\i<=101/\((i=0/\j=0)\/x≠0)) (μ:=λi=>101-i) 0 ?_ ?_ ?_ ?_
   ·exact⟨rfl,rfl,rfl,rfl,rfl,trivial⟩
   ·exact Pt.zg
   ·exact⟨rfl,by decide,by omega⟩
   rintro i V'' ks' O' ⟨rfl,hi1,hix⟩ hk hO hl2;subst hk hO;refine zb (tT 0 [0,0]) ?_;refine ze ?_;refine kleq ?_;refine AtT.dn ?_;refine zI rfl (λhp2=>?_) (λhp2=>?_)
   ·have f1:=mul_bd (a:=x) (b:=(i:Int)) (A:=100) (B:=100) (by omega) (by omega) (by omega) (by omega)
    have f2:=mul_bd (a:=x) (b:=(j:Int)-10) (A:=100) (B:=10) (by omega) (by omega) (by omega) (by omega)
    have f3:=mul_bd (a:=(j:Int)-10) (b:=lo) (A:=10) (B:=50) (by omega) (by omega) (by omega) (by omega)
    have f4:=mul_bd (a:=x) (b:=(i:Int)+((j:Int)-10)*lo) (A:=100) (B:=600) (by omega) (by omega) (by omega) (by omega)
    have ek:ko x lo hi (kP (101*j+i)) (kM (101*j+i))=ko x lo hi i ((j:Int)-10):=by unfold kP kM;rw[show(101*j+i) % 101=i by omega,show(101*j+i) / 101=j by omega]
    have ep:kP (101*j+i)=i:=by unfold kP;rw[show(101*j+i) % 101=i by omega]
    have em:kM (101*j+i)=(j:Int)-10:=by unfold kM;rw[show(101*j+i) / 101=j by omega]
    refine zb (tT 0 [0,0,0,0,0,0,0,1,2]) ?_;refine ze ?_;refine ze ?_;first | refine kmul ?_ | refine kmulW ?_
    refine ze ?_;refine ze ?_;first | refine kmul ?_ | refine kmulW ?_
    refine qD (bd487_0_1 _ _) ?_;refine zW z487 ?_;intro b8;refine zH tk487 ?_;refine AtT.dn ?_;refine xm (tT 0 [0,0,0,0,0,0,0,0,0,0,0,0,0]) ffm (by kernel_rfl) ?_;refine ze ?_;refine jh ?_;refine zw fo425_0 ?_;refine zw fo330_1 ?_;refine zw fo328_0 ?_;refine kV tk2 ?_;refine ze ?_;refine jh ?_;refine zw fo425_0 ?_;refine zw fo330_1 ?_;refine zw fo328_1 ?_;refine kV tk2 ?_;refine keqI ?_;refine AtT.done ?_;refine nrmB ?_;refine cutG (ι:=Unit) (λ_=>[(0,.pointer (some ⟨b,0,none⟩)),(1,iv x),(5,.map (some b15)),(6,iv ((j:Int)-10)),(7,iv i),(8,.pointer (some ⟨b8,0,none⟩))])
     (λ_=>[.blk b15 (qM smv smv (MS x lo hi (101*j+i)).1 (MS x lo hi (101*j+i)).2),.blk b8 (LC (sme (ko x lo hi i ((j:Int)-10))) 487)]) (λ_ V2=>V=V2) ?_ ?_
    ·refine zI rfl (λhp3=>?_) (λhp3=>?_)
     ·have e1:ko x lo hi i ((j:Int)-10)=⟨x*(i+((j:Int)-10)*lo),0⟩:=by unfold ko;rw[if_pos hp3]
      rw[e1];refine zb (tT 0 [0,0,0,0,0,0,0,0,0,0,0,0,0,2]) ?_;refine ze ?_;refine ze ?_;refine ze ?_;refine ze ?_;refine jh ?_;refine zw fo425_0 ?_;refine zw fo330_1 ?_;refine zw fo328_0 ?_;refine kV tk2 ?_;first | refine kmul ?_ | refine kmulW ?_
      refine zM ?_;first | refine kmul ?_ | refine kmulW ?_
      refine qD (bd487_0_1 _ _) ?_;refine zH tk487 ?_;refine AtT.dn ?_;refine qH () rfl ⟨rfl,rfl,rfl,rfl,rfl,rfl,trivial⟩ ?_
      ·exact Pt.zg
     ·have e1:ko x lo hi i ((j:Int)-10)=⟨x*i,x*((j:Int)-10)⟩:=by unfold ko;rw[if_neg hp3]
      rw[e1];refine nrm ?_;refine qH () rfl ⟨rfl,rfl,rfl,rfl,rfl,rfl,trivial⟩ ?_
      ·exact Pt.zg
    rintro _ _ ks' O' rfl hk hO hl3;subst hk hO;refine zb (tT 0 [0,0,0,0,0,2]) ?_;refine ze ?_;refine qo tk487 ?_;refine ze ?_;refine ze ?_;refine qD (bd341_0_1 _ _) ?_;refine mapSet rfl trivial key355 (ko x lo hi i ((j:Int)-10)) (⟨(i:Int),(j:Int)-10⟩:Sm) Tryz.underlying493 rfl rfl rfl (by repeat first|exact Upd.here|apply Upd.there) ?_;refine AtT.dn ?_;refine zb (tT 0 [0,0]) ?_;refine ze ?_;refine keqI ?_;refine AtT.dn ?_;have eM:MS x lo hi (101*j+i+1)=mput (ko x lo hi i ((j:Int)-10)) (⟨(i:Int),(j:Int)-10⟩:Sm) (MS x lo hi (101*j+i)).1 (MS x lo hi (101*j+i)).2:=by
     show mput (ko x lo hi (kP (101*j+i)) (kM (101*j+i))) (⟨kP (101*j+i),kM (101*j+i)⟩:Sm) _ _=_
     rw[ek,ep,em]
    rw[<-eM];refine zI rfl (λhp3=>?_) (λhp3=>?_)
    ·have he:endK x=101*j+i+1:=by unfold endK;rw[if_pos hp3];omega
     refine nrm ?_;refine qH () rfl ⟨rfl,rfl,rfl,trivial⟩ ?_;rw[he]
     ·exact Pt.zg
    ·refine zb (tT 0 [0,0,0]) ?_;refine ze ?_;refine zM ?_;refine zh ?_;refine At.round (i+1) ?_ ?_ ?_ ?_
     ·show 101-(i+1)<101-i;omega
     ·exact⟨rfl,by omega,.inr hp3⟩
     ·exact⟨rfl,rfl,rfl,rfl,by congr 2,trivial⟩
     ·exact Pt.zg
   ·obtain rfl:i=101:=by omega
    have hx0:x≠0:=by omega
    refine zb (tT 0 [0,0,0]) ?_;refine ze ?_;refine zM ?_;refine zh ?_;refine At.round (j+1) ?_ ?_ ?_ ?_
    ·show 21-(j+1)<21-j;omega
    ·exact⟨rfl,by omega,.inr hx0⟩
    ·exact⟨rfl,rfl,rfl,ivs (by omega),trivial⟩
    rw[show 101*(j+1)=101*j+101 by omega]
    ·exact Pt.zg
  ·obtain rfl:j=21:=by omega
   have hx0:x≠0:=by omega
   have he:endK x=101*21:=by unfold endK;rw[if_neg hx0]
   refine nrm ?_;refine qH () rfl ⟨rfl,rfl,rfl,trivial⟩ ?_;rw[he]
   ·exact Pt.zg
 obtain⟨far,hfar⟩:∃ far,far=(S.length:Int)-1-(S.length:Int) / 2:=⟨_,rfl⟩;have hfb:0<=far/\far<=3:=by omega
 have hmx:∀ s∈S, -600<=atS lo s/\atS lo s<=600/\-500<=s.m*lo/\s.m*lo<=500/\0<=mxS lo s/\mxS lo s<=600/\0<=far*mxS lo s/\far*mxS lo s<=1800:=λs hs=>by
  obtain⟨q1,q2,q3,q4⟩:=hS s hs;have f1:=mul_bd (a:=s.m) (b:=lo) (A:=10) (B:=50) (by omega) (by omega) (by omega) (by omega);have f2 : -600<=atS lo s/\atS lo s<=600:=by unfold atS;omega
  have f3:0<=mxS lo s/\mxS lo s<=600:=by unfold mxS;omega
  have f4:=mul_bd (a:=far) (b:=mxS lo s) (A:=3) (B:=600) (by omega) (by omega) (by omega) (by omega)
  have f5:=Int.mul_nonneg hfb.1 f3.1
  omega
 have hmb:∀ k,k<=S.length->0<=mostA far lo S k/\mostA far lo S k<=1800*k:=λk=>by
  induction k with
  | zero=>intro _;simp[mostA,mostS]
  | succ k ih=>
   intro hk;have:=ih (by omega);have hk':k<S.length:=by omega
   have:=hmx S[k] (List.getElem_mem hk')
   unfold mostA at *;rw[List.take_succ_eq_append_getElem hk',mostS_app];omega
 rw[<-hfar];rintro _ V3 ks' O' rfl hk hO hl;subst hk hO;refine zb (tT 0 [0,0,0,0,0,0,0,0,1,0]) ?_;refine ze ?_;refine ze ?_;refine jh ?_;refine zw fo425_0 ?_;refine zw fo330_0 ?_;refine kV tk326 ?_;refine zZ Tryz.underlying326 ?_;refine k_sb ?_;refine zm rfl rfl ok461 (place_f ((S.length:Int)-1) S.length c a b (by omega) (by omega) _ h0) ?_;rintro _ rfl;rw[<-hfar];refine ax (tT 0 [0]) ?_;refine ax (tT 0 [0,0,0,0,0,0,0]) ?_;refine ze ?_;refine jh ?_;refine zw fo425_0 ?_;refine zw fo330_0 ?_;refine kV tk326 ?_;refine zZ Tryz.underlying326 ?_;refine ze ?_;refine AtT.done ?_;refine nrmB ?_;refine cutG (ι:=Unit) (λ_=>[(0,.pointer (some ⟨b,0,none⟩)),(5,.map (some b15)),(10,iv (mostS far lo S))]) (λ_=>[.blk b15 (qM smv smv (MS x lo hi (endK x)).1 (MS x lo hi (endK x)).2)]) (λ_ V2=>V=V2) ?_ ?_
 ·have e0:mostA far lo S 0=0:=rfl
  refine nrm ?_;refine xc (ι:=Nat) (KS:=λk=>[(0,.pointer (some ⟨b,0,none⟩)),(5,.map (some b15)),(9,iv far),(10,iv (mostA far lo S k)),(77,.slice a S.length c),(78,iv S.length),(79,iv k)]) (OS:=λ_=>[.blk b15 (qM smv smv (MS x lo hi (endK x)).1 (MS x lo hi (endK x)).2)])
   (VS:=λk V'=>V=V'/\k<=S.length) (μ:=λk=>S.length-k) 0 ?_ ?_ ?_ ?_
  ·exact⟨rfl,rfl,rfl,rfl,rfl,rfl,rfl,trivial⟩
  ·exact Pt.zg
  ·exact⟨rfl,Nat.zero_le _⟩
  rintro k V' ks' O' ⟨rfl,hk1⟩ hk hO hl3;subst hk hO;refine zb (tT 0 [0]) ?_;refine qc ?_;refine AtT.dn ?_;refine zI rfl (λhp=>?_) (λhp=>?_)
  ·have hkl:k<S.length:=by omega
   have hb1:=hmb k hk1
   have hb2:=hmb (k+1) hkl
   refine zb (tT 0 [0,0,1,2]) ?_;refine kZ Tryz.underlying326 tk341 ?_;intro p81 e81 he81 hc81;refine qo tk341 ?_;refine zW z341 ?_;intro b12;refine zH tk341 ?_;refine AtT.dn ?_;have hee:S[k]? = some e81:=by simpa using he81
   have hm:=hmx e81 (List.mem_of_getElem? hee)
   have hg:=hS e81 (List.mem_of_getElem? hee)
   unfold good at hg;unfold atS at hm;have hSk:S[k]=e81:=by rw[List.getElem?_eq_getElem hkl]at hee;simpa using hee
   have eA:mostA far lo S (k+1)=mostA far lo S k+far*mxS lo e81:=by unfold mostA;rw[List.take_succ_eq_append_getElem hkl,mostS_app,hSk]
   have eX:mxS lo e81=max (max e81.p (e81.p+e81.m*lo)) (-(e81.p+e81.m*lo)):=rfl
   rw[eX]at hm eA;refine xm (tT 0 [0,0,0,0,0,0,0,0,0,0,0,0,0]) ffm (by kernel_rfl) ?_;refine zw fo341_0 ?_;refine kV tk2 ?_;refine zw fo341_1 ?_;refine kV tk2 ?_;refine ze ?_;refine jh ?_;refine zw fo425_0 ?_;refine zw fo330_1 ?_;refine zw fo328_0 ?_;refine kV tk2 ?_;first | refine kmul ?_ | refine kmulW ?_
   refine zM ?_;refine ax (tT 0 [0,0,0,0,0,0,0,0,0,0,0]) ?_;refine ze ?_;refine ze ?_;refine zw fo341_0 ?_;refine kV tk2 ?_;refine ze ?_;refine ze ?_;first | refine kneg ?_ | refine knegW ?_
   refine max3 rfl trivial rfl rfl rfl (by decide) ?_;first | refine kmul ?_ | refine kmulW ?_
   refine zM ?_;refine zh ?_;refine zb (tT 0 [0,0]) ?_;refine zM ?_;refine ze ?_;refine AtT.dn ?_;refine At.round (k+1) ?_ ?_ ?_ ?_
   ·show S.length-(k+1)<S.length-k;omega
   ·exact⟨rfl,hkl⟩
   ·exact⟨rfl,rfl,rfl,ivs eA.symm,rfl,rfl,by congr 2,trivial⟩
   ·exact Pt.zg
  ·obtain rfl:k=S.length:=by omega
   have eA:mostA far lo S S.length=mostS far lo S:=by unfold mostA;rw[List.take_length]
   refine nrm ?_;refine qH () rfl ⟨rfl,rfl,ivs eA,trivial⟩ ?_
   ·exact Pt.zg
 rintro _ V4 ks' O' rfl hk hO hl;subst hk hO;obtain⟨M,hM⟩:∃ M,M=(MS x lo hi (endK x)).1:=⟨_,rfl⟩;obtain⟨cM,hcM⟩:∃ c,c=(MS x lo hi (endK x)).2:=⟨_,rfl⟩;obtain⟨q,hq⟩:∃ q,q=mostS far lo S:=⟨_,rfl⟩;have hok:MOk M cM:=by rw[hM,hcM];exact MS_ok _ _ _ _
 have hq2:0<=q/\q<=20000:=by
  have:=hmb S.length (Nat.le_refl _)
  unfold mostA at this;rw[List.take_length,<-hq]at this;omega
 have hsh:shM x lo hi q=M.filter (inS q):=by unfold shM;rw[hM]
 rw[<-hM,<-hcM,<-hq];rw[hsh];refine zb (tT 0 [0,1]) ?_;refine ze ?_;refine AtT.range rfl trivial Tryz.underlying493 rfl zo.zg (by decide) ?_;intro b107;refine AtT.dn ?_;refine xc (ι:=Array Nat) (KS:=λ_=>[(5,.map (some b15)),(10,iv q),(107,.pointer (some ⟨b107,0,none⟩))])
  (OS:=λseen=>[.blk b107 (.mapIter (some b15) cM seen cM),.blk b15 (qM smv smv (left (inS q) M seen) cM)])
  (VS:=λ_ V'=>Le V V') (μ:=λseen=>(M.filter λe=>!seen.contains e.2.2).length) #[] ?_ ?_ ?_ ?_
 ·exact⟨rfl,rfl,rfl,trivial⟩
 ·rw[left_nil]
  ·exact Pt.zg
 ·exact Le.refl _
 rintro seen V5 ks' O' hV5 hk hO hl3;subst hk hO;have hsub:∀ e∈left (inS q) M seen,e∈M:=λe he=>(List.mem_filter.1 he).1;refine zb (tT 0 [2,0]) ?_;all_goals (refine AtT.next rfl trivial rfl zo.zg zo.zg (λe he=>hok.lt e (hsub e he)) (Nat.le_refl _) (by decide) (λhall=>?_) (λe he hns=>?_))
 all_goals refine zx ?_
 all_goals refine AtT.done ?_
 all_goals refine nrm ?_
 ·refine zS rfl rfl ?_;rw[left_end hall];refine zb (tT 0 [0,0]) ?_;refine ze ?_;refine zh ?_;refine giveM (b:=b15) zo.zg (λV6 hV6 hb15 hn15=>?_);refine zL rfl (.tmp rfl) ⟨b15,rfl,?_,hb15⟩;cases h:V b15 with
  | none=>rfl
  | some o=>rw[hV5 _ _ h]at hn15;cases hn15
 ·refine ql rfl rfl ?_;have heM:=hsub e he;have hun:=kr heM hns;have hnd2:((left (inS q) M seen).map (·.2.2)).Nodup:=hok.borns.sublist (List.filter_sublist.map _);refine zb (tT 0 [1,0,1,2]) ?_;refine AtT.entry rfl trivial rfl zo.zg zo.zg he hnd2 (by decide) ?_;refine zx ?_;refine zW z487 ?_;intro b14;refine zH tk487 ?_;refine AtT.dn ?_;refine zb (tT 0 [0,0,0,0,0,1,1,0]) ?_;refine ze ?_;first | refine kneg ?_ | refine knegW ?_
  refine ze ?_;refine zw fo487_0 ?_;refine kV tk2 ?_;refine zy (bs173_1_0 _) ?_;intro q117 V117 hV117 hq117;have g117:Le V V117:=by first | exact hV117 | exact Le.trans (by assumption) hV117
  refine zm rfl rfl ok369 (cwithin_f (-q) q e.1.p _ _ (Sl.lit hq117 rfl (by simp))) ?_;rintro _ rfl;refine xn ?_;refine AtT.dn ?_;refine At.cond rfl (λhm=>?_) (λhm=>?_)
  ·have hg:inS q e=false:=by have h:(!inS q e)=true:=hm;simpa using h
   have hdel:=left_del (g:=inS q) (seen:=seen) hok.borns hok.keys heM hg
   refine zb (tT 0 [0,0,2]) ?_;refine ze ?_;refine qo tk487 ?_;refine mapDel rfl trivial key355 e.1 smv rfl Tryz.underlying493 rfl rfl (by repeat first|exact Upd.here|apply Upd.there) ?_;refine AtT.dn ?_;refine At.round (seen.push e.2.2) hun (hV5.trans hV117) ⟨rfl,rfl,rfl,trivial⟩ ?_;rw[hdel]
   ·exact Pt.zg
  ·have hg:inS q e=true:=by have h:(!inS q e)=false:=hm;simpa using h
   have hkeep:=left_keep (g:=inS q) (seen:=seen) hok.borns heM hg
   refine nrm ?_;refine At.round (seen.push e.2.2) hun (hV5.trans hV117) ⟨rfl,rfl,rfl,trivial⟩ ?_;rw[hkeep]
   ·exact Pt.zg
end Go.Proofs.YtnffcfhdnjbdbaaGreatDoor
namespace Go.St
open Go.Lw Go.Cu
abbrev Ent:=Int×List (List Sm)
def gtE:List Ent->Nat->Ent
 | [],_=>(0,[])
 | e::_,0=>e
 | _::T,j+1=>gtE T j
def valW (T:List Ent) (h:Nat) (e:Sm×Int):Int:=(gtE T (h-e.1.p.toNat)).1+e.2
def endW (M:List (Sm×Int)) (h:Nat):List (Sm×Int):=M.filter λe=>decide (e.1.m=(h:Int))
def mxI (a:Int) (l:List Int):Int:=l.foldl max a
def stepS (M:List (Sm×Int)) (T:List Ent) (h:Nat):Ent:=
 if mxI (gtE T 0).1 ((endW M h).map (valW T h))=(gtE T 0).1 then gtE T 0
 else (mxI (gtE T 0).1 ((endW M h).map (valW T h)),((endW M h).filter λe=>decide (valW T h e=mxI (gtE T 0).1 ((endW M h).map (valW T h)))).flatMap λe=>(gtE T (h-e.1.p.toNat)).2.map λS=>S++[e.1])
def tabR (M:List (Sm×Int)):Nat->List Ent
 | 0=>[(0,[[]])]
 | h+1=>stepS M (tabR M h) h::tabR M h
def entM (M:List (Sm×Int)) (j:Nat):Ent:=gtE (tabR M j) 0
theorem ent_at (M:List (Sm×Int)) {j:Nat} : ∀ {h:Nat},j<=h->gtE (tabR M h) (h-j)=entM M j
 | 0,hj=>by
   obtain rfl:j=0:=by omega
   rfl
 | h+1,hj=>by
  by_cases c:j=h+1
  ·subst c;rw[Nat.sub_self];rfl
  ·rw[show h+1-j=(h-j)+1 by omega];exact ent_at M (by omega)
theorem ent_new (M:List (Sm×Int)) (h:Nat):entM M (h+1)=stepS M (tabR M h) h:=rfl
theorem mxI_ge (a:Int):∀ l:List Int,a<=mxI a l/\(∀ x∈l,x<=mxI a l)/\(mxI a l=a\/mxI a l∈l):=by
 intro l;induction l generalizing a with
 | nil=>exact⟨Int.le_refl _,λx hx=>by(cases hx),.inl rfl⟩
 | cons y l ih=>
  obtain⟨h1,h2,h3⟩:=ih (max a y);show a<=mxI (max a y) l/\(∀ x∈y::l,x<=mxI (max a y) l)/\(mxI (max a y) l=a\/mxI (max a y) l∈y::l);refine⟨by omega,λx hx=>?_,?_⟩
  ·rcases List.mem_cons.1 hx with rfl | hx
   ·omega
   ·exact h2 x hx
  ·rcases h3 with h3 | h3
   ·rcases(show max a y=a\/max a y=y by omega)with h | h
    ·exact .inl (h3.trans h)
    ·exact .inr (by rw[h3,h];exact List.mem_cons_self)
   ·exact .inr (List.mem_cons_of_mem _ h3)
structure Ch where
 a:Option Addr
 n:Nat
 c:Nat
 k:Int
abbrev Ch.v (x:Ch):Value:=.slice x.a x.n x.c
def bst (out:Ch):List Ch->Ch
 | []=>out
 | x::l=>bst (if out.k<x.k then x else out) l
theorem bst_app (x:Ch):∀ (l:List Ch) (out:Ch),bst out (l++[x])=if (bst out l).k<x.k then x else bst out l
 | [],out=>rfl
 | y::l,out=>bst_app x l _
theorem bst_spec:∀ (l:List Ch) (out:Ch),out.k<=(bst out l).k/\(∀ x∈l,x.k<=(bst out l).k)/\((bst out l=out)\/(bst out l∈l/\out.k<(bst out l).k))
 | [],out=>⟨Int.le_refl _,λx hx=>by(cases hx),.inl rfl⟩
 | y::l,out=>by
  simp only[bst];by_cases c:out.k<y.k
  ·rw[if_pos c];obtain⟨h1,h2,h3⟩:=bst_spec l y;refine⟨by omega,λx hx=>?_,.inr ⟨?_,by omega⟩⟩
   ·rcases List.mem_cons.1 hx with rfl | hx
    ·exact h1
    ·exact h2 x hx
   ·rcases h3 with h3 | h3
    ·rw[h3];exact List.mem_cons_self
    ·exact List.mem_cons_of_mem _ h3.1
  ·rw[if_neg c];obtain⟨h1,h2,h3⟩:=bst_spec l out;refine⟨h1,λx hx=>?_,?_⟩
   ·rcases List.mem_cons.1 hx with rfl | hx
    ·omega
    ·exact h2 x hx
   ·rcases h3 with h3 | h3
    ·exact .inl h3
    ·exact .inr ⟨List.mem_cons_of_mem _ h3.1,h3.2⟩
theorem step_ok {M:List (Sm×Int)} {h:Nat} {Rw:Value->List Sm->Prop} {c0:Ch} {xs:List Ch} (hM:∀ e∈M,e.1.p<=e.1.m)
  (h0:c0.k=(entM M h).1) (h0S:∃ S∈(entM M h).2,Rw c0.v S)
  (h1:∀ x∈xs,∃ e∈M,e.1.m=(h:Int)/\x.k=(entM M e.1.p.toNat).1+e.2/\∃ S∈(entM M e.1.p.toNat).2,Rw x.v (S++[e.1]))
  (h2:∀ e∈M,e.1.m=(h:Int)->∃ x∈xs,x.k=(entM M e.1.p.toNat).1+e.2):(bst c0 xs).k=(entM M (h+1)).1/\∃ S∈(entM M (h+1)).2,Rw (bst c0 xs).v S:=by
 rw[ent_new];have g0:gtE (tabR M h) 0=entM M h:=rfl;have gp:∀ e∈M,e.1.m=(h:Int)->gtE (tabR M h) (h-e.1.p.toNat)=entM M e.1.p.toNat:=λe he hm=>ent_at M (by have:=hM e he;omega);have ge':∀ e∈endW M h,e∈M/\e.1.m=(h:Int):=λe he=>by obtain⟨k1,k2⟩:=List.mem_filter.1 he;exact⟨k1,by simpa using k2⟩
 have gv:∀ e∈M,e.1.m=(h:Int)->valW (tabR M h) h e=(entM M e.1.p.toNat).1+e.2:=λe he hm=>by unfold valW;rw[gp e he hm]
 obtain⟨b1,b2,b3⟩:=bst_spec xs c0;obtain⟨m1,m2,m3⟩:=mxI_ge (gtE (tabR M h) 0).1 ((endW M h).map (valW (tabR M h) h));have le:mxI (gtE (tabR M h) 0).1 ((endW M h).map (valW (tabR M h) h))<=(bst c0 xs).k:=by
  rcases m3 with m3 | m3
  ·rw[m3,g0,<-h0];exact b1
  ·obtain⟨w,hw,e⟩:=List.mem_map.1 m3;obtain⟨k1,k2⟩:=ge' w hw;obtain⟨x,hx,ex⟩:=h2 w k1 k2;rw[<-e,gv w k1 k2,<-ex];exact b2 x hx
 have ge:(bst c0 xs).k<=mxI (gtE (tabR M h) 0).1 ((endW M h).map (valW (tabR M h) h)):=by
  rcases b3 with b3 | ⟨b3,_⟩
  ·rw[b3,h0];exact m1
  ·obtain⟨w,hw,hm,e,_⟩:=h1 _ b3;rw[e,<-gv w hw hm];exact m2 _ (List.mem_map_of_mem (List.mem_filter.2 ⟨hw,by simpa using hm⟩))
 have eq:(bst c0 xs).k=mxI (gtE (tabR M h) 0).1 ((endW M h).map (valW (tabR M h) h)):=Int.le_antisymm ge le
 unfold stepS;by_cases c:mxI (gtE (tabR M h) 0).1 ((endW M h).map (valW (tabR M h) h))=(gtE (tabR M h) 0).1
 ·simp only[c,if_true];rcases b3 with b3 | ⟨_,b3⟩
  ·rw[b3];exact⟨h0,h0S⟩
  ·have e:(bst c0 xs).k=(entM M h).1:=eq.trans c
   omega
 ·simp only[c,if_false];refine⟨eq,?_⟩;rcases b3 with b3 | ⟨b3,_⟩
  ·rw[b3,h0]at eq;exact absurd eq.symm c
  ·obtain⟨w,hw,hm,e,S,hS,hr⟩:=h1 _ b3;refine⟨S++[w.1],List.mem_flatMap.2 ⟨w,List.mem_filter.2 ⟨List.mem_filter.2 ⟨hw,by simpa using hm⟩,by rw[gv w hw hm,<-e,eq];simp⟩,?_⟩,hr⟩;rw[gp w hw hm];exact List.mem_map_of_mem hS
theorem ent_bd {M:List (Sm×Int)} (hM:∀ e∈M,0<=e.1.p/\e.1.p<=e.1.m/\0<=e.2/\e.2<=1000):∀ h j,j<=h->0<=(entM M j).1/\(entM M j).1<=1000*(j:Int):=by
 intro h;induction h with
 | zero=>
   intro j hj;obtain rfl:j=0:=by omega
   exact⟨Int.le_refl _,Int.le_refl _⟩
 | succ h ih=>
  intro j hj;by_cases c:j=h+1
  ·subst c;rw[ent_new];have g0:gtE (tabR M h) 0=entM M h:=rfl;have i0:=ih h (Nat.le_refl _);have key:∀ x,(x=(gtE (tabR M h) 0).1\/x∈(endW M h).map (valW (tabR M h) h))->0<=x/\x<=1000*((h+1:Nat):Int):=λx hx=>by
    rcases hx with rfl | hx
    ·rw[g0];omega
    ·obtain⟨w,hw,rfl⟩:=List.mem_map.1 hx;obtain⟨k1,k2⟩:=List.mem_filter.1 hw;have k3:w.1.m=(h:Int):=by simpa using k2
     obtain⟨q1,q2,q3,q4⟩:=hM w k1;have:=ih w.1.p.toNat (by omega);unfold valW;rw[ent_at M (j:=w.1.p.toNat) (by omega)];omega
   obtain⟨m1,m2,m3⟩:=mxI_ge (gtE (tabR M h) 0).1 ((endW M h).map (valW (tabR M h) h));unfold stepS;split
   ·exact key _ (.inl rfl)
   ·exact key _ m3
  ·exact ih j (by omega)
theorem ent_len {M:List (Sm×Int)} (hM:∀ e∈M,0<=e.1.p/\e.1.p<=e.1.m/\0<=e.2/\e.2<=1000):∀ h j,j<=h->∀ S∈(entM M j).2,S.length<=j:=by
 intro h;induction h with
 | zero=>
   intro j hj S hS;obtain rfl:j=0:=by omega
   obtain rfl:=List.mem_singleton.1 hS;exact Nat.le_refl _
 | succ h ih=>
  intro j hj S hS;by_cases c:j=h+1
  ·subst c;rw[ent_new]at hS;unfold stepS at hS;split at hS
   ·have:=ih h (Nat.le_refl _) S hS
    omega
   ·obtain⟨e,he,hS⟩:=List.mem_flatMap.1 hS;obtain⟨S',hS',rfl⟩:=List.mem_map.1 hS;obtain⟨k1,k2⟩:=List.mem_filter.1 (List.mem_filter.1 he).1;have k3:e.1.m=(h:Int):=by simpa using k2
    obtain⟨q1,q2,q3,q4⟩:=hM e k1;rw[ent_at M (j:=e.1.p.toNat) (by omega)]at hS';have:=ih e.1.p.toNat (by omega) S' hS';rw[List.length_append,List.length_singleton];omega
  ·exact ih j (by omega) S hS
end Go.St
namespace Go.Proofs.YtnffcfhdnjbdbaaGreatDoor
open Go.Lw Go.Cu Go.St Go.RowKit
abbrev che (c:Ch):List Value:=[.slice c.a c.n c.c,iv c.k]
abbrev chv (c:Ch):Value:=.agg #[.slice c.a c.n c.c,iv c.k]
theorem che_len (c:Ch):(che c).length=2:=rfl
theorem stbetter_f (x y:Ch) (V:View):Fnc Tryz.prog 765 [chv x,chv y] V λr _=>r=.bool (decide (y.k<x.k)):=by refine zG Tryz.func765 rfl Tryz.ntmps765 (Nat.le_of_ble_eq_true rfl) ?_;intro w0 hw0;refine zb (tT 0 [1,1,0]) ?_;refine qQ ?_;intro b2;refine qQ ?_;intro b3;refine ax (tT 0 [0,0,0,0,0,0]) ?_;refine zw fo787_1 ?_;refine kV tk2 ?_;refine zw fo787_1 ?_;refine kV tk2 ?_;refine kgtr ?_;refine zh ?_;exact zL rfl (.tmp rfl) rfl
theorem stbest_f (L:List Ch) (c0:Ch) (xs:List Ch) (hL:L=c0::xs) (V:View) (a:Option Addr) (c:Nat) (hs:Sl V che 2 (.slice a L.length c) L):Fnc Tryz.prog 764 [.slice a L.length c,.func (.func 765) #[] #[]] V λr _=>r=chv (bst c0 xs):=by
 have hl1:L.length=xs.length+1:=by rw[hL];rfl
 have hlen:=hs.jC
 refine zG Tryz.func764 rfl Tryz.ntmps764 (Nat.le_of_ble_eq_true rfl) ?_;intro w0 hw0;refine zb (tT 0 [1]) ?_;refine zW z787 ?_;intro b4;refine xq (tT 0 [0,0,0,1,2]) ?_;refine ze ?_;refine kZ Tryz.underlying785 jA ?_;intro p9 e9 he9 hc9;refine qo jA ?_;refine zW z787 ?_;intro b5;refine zH jA ?_;refine AtT.dn ?_;have he:e9=c0:=by
  have:L[0]? = some e9:=by simpa using he9
  rw[hL]at this;simpa using this.symm
 subst he;refine zP (tT 0 [0,0,0,0]) ?_;refine ze ?_;refine ktail Tryz.underlying785 jA ?_;intro a12 c12 hs12;refine zZ Tryz.underlying785 ?_;refine ze ?_;refine AtT.dn ?_;have hd:List.drop (Int.toNat 1) L=xs:=by rw[hL];rfl
 rw[hd]at hs12;rw[hd];refine xc (ι:=Nat) (KS:=λk=>[(1,.func (.func 765) #[] #[]),(4,.pointer (some ⟨b4,0,none⟩)),(5,.pointer (some ⟨b5,0,none⟩)),(12,.slice a12 xs.length c12),(13,iv xs.length),(14,iv k)])
  (OS:=λk=>[.blk b5 (LC (che (bst e9 (xs.take k))) 787),.blk b4 (LC [.slice none 0 0,iv 0] 787)]) (VS:=λk V'=>V=V'/\k<=xs.length) (μ:=λk=>xs.length-k) 0 ?_ ?_ ?_ ?_
 ·exact⟨rfl,rfl,rfl,rfl,rfl,rfl,trivial⟩
 ·exact Pt.zg
 ·exact⟨rfl,Nat.zero_le _⟩
 rintro k V' ks' O' ⟨rfl,hk1⟩ hk hO hl3;subst hk hO;refine zb (tT 0 [0]) ?_;refine qc ?_;refine AtT.dn ?_;refine zI rfl (λhp=>?_) (λhp=>?_)
 ·have hkl:k<xs.length:=by omega
  refine zb (tT 0 [0,0,1,2]) ?_;refine kZ Tryz.underlying785 jA ?_;intro p16 e16 he16 hc16;refine qo jA ?_;refine zW z787 ?_;intro b7;refine zH jA ?_;refine AtT.dn ?_;have hee:xs[k]? = some e16:=by simpa using he16
  have hnx:xs.take (k+1)=xs.take k++[e16]:=by rw[List.take_succ_eq_append_getElem hkl];congr 1;rw[List.getElem?_eq_getElem hkl]at hee;simpa using hee
  refine zb (tT 0 [0,0,0,1]) ?_;refine ze ?_;refine qo jA ?_;refine qo jA ?_;refine jD rfl rfl rfl ok765 (stbetter_f e16 (bst e9 (xs.take k)) _) ?_;rintro _ rfl;refine AtT.dn ?_;refine zI rfl (λhb=>?_) (λhb=>?_)
  ·refine zb (tT 0 [0,2]) ?_;refine qo jA ?_;refine zH jA ?_;refine AtT.dn ?_;refine zb (tT 0 [0,0]) ?_;refine zM ?_;refine ze ?_;refine AtT.dn ?_;refine At.round (k+1) ?_ ?_ ?_ ?_
   ·show xs.length-(k+1)<xs.length-k;omega
   ·exact⟨rfl,hkl⟩
   ·exact⟨rfl,rfl,rfl,rfl,rfl,by congr 2,trivial⟩
   rw[hnx,bst_app,if_pos hb]
   ·exact Pt.zg
  ·refine zb (tT 0 [0,0]) ?_;refine zM ?_;refine ze ?_;refine AtT.dn ?_;refine At.round (k+1) ?_ ?_ ?_ ?_
   ·show xs.length-(k+1)<xs.length-k;omega
   ·exact⟨rfl,hkl⟩
   ·exact⟨rfl,rfl,rfl,rfl,rfl,by congr 2,trivial⟩
   rw[hnx,bst_app,if_neg hb]
   ·exact Pt.zg
 ·obtain rfl:k=xs.length:=by omega
  rw[List.take_length];refine zb (tT 0 [0,2]) ?_;refine qo jA ?_;refine zH jA ?_;refine AtT.dn ?_;exact zL rfl (.agg rfl jA zo.zg rfl) rfl
def RwS (V V':View) (v:Value) (S:List Sm):Prop:=(v=.slice none 0 0/\S=[])\/(RwB V V' 328 2 sme v S/\S≠[])
theorem RwS.le {V V' V2:View} {v:Value} {S:List Sm} (h:RwS V V' v S) (hl:Le V' V2):RwS V V2 v S:=h.imp id λh=>⟨h.1.le hl,h.2⟩
theorem RwS.sl {V V':View} {v:Value} {S:List Sm} (h:RwS V V' v S):Sl V' sme 2 v S:=by
 rcases h with ⟨rfl,rfl⟩ | h
 ·exact Sl.nil _ _ _
 ·exact h.1.sl λ_=>rfl
def UOk (V V':View) (M:List (Sm×Int)) (U:List Ch) (h:Nat):Prop:=∀ j,j<=h->∃ u,U[j]? = some u/\u.k=(entM M j).1/\∃ S∈(entM M j).2,RwS V V' u.v S
def XOk (V V':View) (M:MM Sm Int) (P:List (Sm×Int)) (h:Nat) (xs:List Ch) (seen:Array Nat):Prop:=
 (∀ x∈xs,∃ e∈P,e.1.m=(h:Int)/\x.k=(entM P e.1.p.toNat).1+e.2/\∃ S∈(entM P e.1.p.toNat).2,RwS V V' x.v (S++[e.1]))/\
 (∀ e∈M,e.1.m=(h:Int)->e.2.2∈seen->∃ x∈xs,x.k=(entM P e.1.p.toNat).1+e.2.1)/\xs.length+(M.filter λe=>!seen.contains e.2.2).length<=M.length
theorem XOk.le {V V' V2:View} {M:MM Sm Int} {P:List (Sm×Int)} {h:Nat} {xs:List Ch} {seen:Array Nat} (k:XOk V V' M P h xs seen) (hl:Le V' V2):XOk V V2 M P h xs seen:=
 ⟨λx hx=>by obtain⟨e,he,h1,h2,S,hS,h3⟩:=k.1 x hx;exact⟨e,he,h1,h2,S,hS,h3.le hl⟩,k.2⟩
theorem seen_push2 {α β:Type} {M:MM α β} {seen:Array Nat} {e e':α×β×Nat} (hb:(M.map (·.2.2)).Nodup) (he:e∈M) (he':e'∈M) (h:e'.2.2∈seen.push e.2.2):e'.2.2∈seen\/e'=e:=by rw[Array.mem_push]at h;exact h.imp id λh=>inj_of (λe:α×β×Nat=>e.2.2) hb he' he h
theorem XOk.idle {V V':View} {M:MM Sm Int} {P:List (Sm×Int)} {h:Nat} {xs:List Ch} {seen:Array Nat} {e:Sm×Int×Nat} (k:XOk V V' M P h xs seen) (hb:(M.map (·.2.2)).Nodup) (he:e∈M) (hns:e.2.2∉seen) (hm:¬ e.1.m=(h:Int)):XOk V V' M P h xs (seen.push e.2.2):=by
 refine⟨k.1,λe' he' hm' hs=>?_,?_⟩
 ·rcases seen_push2 hb he he' hs with h1 | rfl
  ·exact k.2.1 e' he' hm' h1
  ·exact absurd hm' hm
 ·have:=kr he hns
  have:=k.2.2
  omega
theorem XOk.more {V V':View} {M:MM Sm Int} {h:Nat} {xs:List Ch} {seen:Array Nat} {e:Sm×Int×Nat} {x:Ch} (k:XOk V V' M (M.map λe=>(e.1,e.2.1)) h xs seen) (hb:(M.map (·.2.2)).Nodup) (he:e∈M) (hns:e.2.2∉seen) (hm:e.1.m=(h:Int))
  (hx:x.k=(entM (M.map λe=>(e.1,e.2.1)) e.1.p.toNat).1+e.2.1) (hS:∃ S∈(entM (M.map λe=>(e.1,e.2.1)) e.1.p.toNat).2,RwS V V' x.v (S++[e.1])):XOk V V' M (M.map λe=>(e.1,e.2.1)) h (xs++[x]) (seen.push e.2.2):=by
 refine⟨λy hy=>?_,λe' he' hm' hs=>?_,?_⟩
 ·rcases List.mem_append.1 hy with hy | hy
  ·exact k.1 y hy
  ·obtain rfl:=List.mem_singleton.1 hy;exact⟨(e.1,e.2.1),List.mem_map_of_mem he,hm,hx,hS⟩
 ·rcases seen_push2 hb he he' hs with h1 | rfl
  ·obtain⟨y,hy,h2⟩:=k.2.1 e' he' hm' h1;exact⟨y,List.mem_append_left _ hy,h2⟩
  ·exact⟨x,by simp,hx⟩
 ·have:=kr he hns
  have:=k.2.2
  rw[List.length_append,List.length_singleton];omega
theorem UOk.set {V V':View} {M:List (Sm×Int)} {U:List Ch} {h:Nat} (k:UOk V V' M U h) {b:Ch} (hl:h+1<U.length) (h1:b.k=(entM M (h+1)).1) (h2:∃ S∈(entM M (h+1)).2,RwS V V' b.v S):UOk V V' M (U.set (h+1) b) (h+1):=λj hj=>by
 by_cases c:j=h+1
 ·subst c;exact⟨b,by rw[List.getElem?_set_self hl],h1,h2⟩
 ·obtain⟨u,k1,k2⟩:=k j (by omega);exact⟨u,by rw[List.getElem?_set_ne (λe=>c e.symm)];exact k1,k2⟩
theorem UOk.le {V V' V2:View} {M:List (Sm×Int)} {U:List Ch} {h:Nat} (k:UOk V V' M U h) (hl:Le V' V2):UOk V V2 M U h:=λj hj=>by obtain⟨u,h1,h2,S,hS,h3⟩:=k j hj;exact⟨u,h1,h2,S,hS,h3.le hl⟩
theorem flat_piece {α:Type} {enc:α->List Value} {s:Nat} (he:∀ x,(enc x).length=s):∀ {l:List α} {i:Nat} {x:α},l[i]? = some x->((flat enc l).drop (i*s)).take s=enc x
 | y::l,0,x,h=>by
  simp at h;subst h;simp only[Nat.zero_mul,List.drop_zero,flat,List.flatMap_cons];rw[<-he y];exact List.take_left
 | y::l,i+1,x,h=>by
  have e:(flat enc (y::l)).drop ((i+1)*s)=(flat enc l).drop (i*s):=by simp only[flat,List.flatMap_cons];rw[show(i+1)*s=(enc y).length+i*s by rw[he y,Nat.add_mul,Nat.one_mul];omega,<-List.drop_drop,List.drop_left]
  rw[e];exact flat_piece he (by simpa using h)
theorem flat_more {α:Type} {enc:α->List Value} (l:List α) (x:α):flat enc (l++[x])=flat enc l++enc x:=by simp[flat]
abbrev prs (M:MM Sm Int):List (Sm×Int):=M.map λe=>(e.1,e.2.1)
theorem sl686 (b:Nat) (w:World):(Instr.sliceAt 785 (.slice (some ⟨b,0,none⟩) 102 102) (some (.int .i64 1)) none none).run Tryz.prog w=.ok (.slice (some ⟨b,2,none⟩) 101 101) w:=by
 have hX':Tryz.prog.underlying 785=some (.slice (Tryz.prog.elem 785)):=by simp[Program.elem,Tryz.underlying785]
 have hEl:Tryz.prog.elem 785=787:=by simp[Program.elem,Tryz.underlying785]
 simp only[Sem.run_bind,run_sliceAt_slice w 785 _ _ _ _ hX'];rw[run_slice_l w 785 _ 102 102 hX' .i64 1 (by decide) (by decide),hEl,Lw.run_sizeOf jA];rfl
theorem proof_tail:∃ c1 c2 c3 c4 ct,Tryz.f693.body=some (.seq c1 (.seq c2 (.seq c3 (.seq c4 ct))))/\∀ (M:MM Sm Int) (cM:Nat) (hbo:(M.map (·.2.2)).Nodup) (hlt:∀ e∈M,e.2.2<cM) (hMl:M.length<=1000) (hM:∀ e∈M,0<=e.1.p/\e.1.p<=e.1.m/\e.1.m<=100/\0<=e.2.1/\e.2.1<=1000)
  (b3 mb:Nat) (V:View) (ds:List Deferred) (w0:World) (hV0:Le V (hp w0)) (h3:Cells V ⟨b3,0,none⟩ [.map (some mb)]) (hm:V mb=some (qM smv iv M cM)),
  At ⟨w0,V,ds⟩ 95 [(3,.pointer (some ⟨b3,0,none⟩))] [] V (ct.wpIn (FW none) 0 Tryz.prog λe a' w'=>e=.ret/\a'.defers=ds/\a'.tmps.size=95/\Below w0.heap.size w0 w'/\∃ v V',a'.tmps[2]? = some v/\Le V' (hp w')/\∃ S∈(entM (prs M) 101).2,RwS V V' v S):=by
 refine⟨_,_,_,_,_,rfl,?_⟩;intro M cM hbo hlt hMl hM b3 mb V ds w0 hV0 h3 hmb;have hP:∀ e∈prs M,0<=e.1.p/\e.1.p<=e.1.m/\0<=e.2/\e.2<=1000:=λe he=>by obtain⟨x,hx,rfl⟩:=List.mem_map.1 he;have:=hM x hx;exact⟨this.1,this.2.1,this.2.2.2.1,this.2.2.2.2⟩
 have hbd:=ent_bd hP 102
 have hln:=ent_len hP 102
 refine zb (tT 0 [1,0]) ?_;refine makeSl rfl trivial che rfl Tryz.underlying785 rw787 rfl rfl (by decide) rfl rfl (by omega) (by omega) (by decide) (m:=102) (za:=(⟨none,0,0,0⟩:Ch)) ?_;intro b33;refine ax (tT 0 [0,0,0,0]) ?_;refine ze ?_;refine slVL rfl trivial rfl rfl (sl686 b33) (by decide) ?_;refine zZ Tryz.underlying785 ?_;refine ze ?_;refine AtT.done ?_;refine nrmB ?_;refine nrm ?_;refine xc (ι:=Nat×List Ch) (KS:=λg=>[(3,.pointer (some ⟨b3,0,none⟩)),(7,.slice (some ⟨b33,0,none⟩) 102 102),(36,iv 101),(37,iv g.1)]) (OS:=λg=>[.blk b33 (LC (flat che g.2) 787)])
  (VS:=λg V'=>Le V V'/\g.1<=101/\g.2.length=102/\UOk V V' (prs M) g.2 g.1) (μ:=λg=>101-g.1) (0,List.replicate 102 ⟨none,0,0,0⟩) ?_ ?_ ?_ ?_
 ·exact⟨rfl,rfl,rfl,rfl,trivial⟩
 ·exact Pt.zg
 ·refine⟨Le.refl _,Nat.zero_le _,by simp,λj hj=>?_⟩;obtain rfl:j=0:=by dsimp only at hj;omega
  exact⟨⟨none,0,0,0⟩,rfl,rfl,[],List.mem_singleton.2 rfl,.inl ⟨rfl,rfl⟩⟩
 rintro⟨h,U⟩ V1 ks' O' ⟨hV1,hh,hUl,hU⟩ hk hO hl1;dsimp only at hh hUl hU hk hO;subst hk hO;have hmb1:=hV1 _ _ hmb;have h31:=h3.le hV1;refine zb (tT 0 [0]) ?_;refine qc ?_;refine AtT.dn ?_;refine zI rfl (λhp=>?_) (λhp=>?_)
 ·have hh2:h<101:=by omega
  obtain⟨u,hu,huk,Su,hSu,hRu⟩:=hU h (Nat.le_refl _);have hpu:=flat_piece che_len hu;refine zb (tT 0 [0,0]) ?_;refine ze ?_;refine ax (tT 0 [0,0,0,0,1,0]) ?_;refine ze ?_;refine ze ?_;refine idxZ rfl trivial Tryz.underlying785 jA rfl rfl (by omega) (by decide) ?_;refine loadOP rfl trivial rfl jA zo.zg hpu rfl (by decide) ?_;refine kbslice (bs785_1_0 _ _ _ _) ?_;intro b44;refine zh ?_;refine At.blkRow (b:=b44) (m:=1) (cap:=1) (s:=2) (xs:=che u) (rest:=[]) zo.zg rfl rfl (Nat.le_refl _) (by decide) ?_;refine zb (tT 0 [0,1]) ?_;refine kV tk781 ?_;refine rangeV rfl trivial Tryz.underlying781 rfl (hmb1) (by decide) ?_;intro b46;refine AtT.dn ?_;refine nrm ?_;refine xc (ι:=Array Nat×List Ch×Option Addr×Nat) (KS:=λg=>[(3,.pointer (some ⟨b3,0,none⟩)),(7,.slice (some ⟨b33,0,none⟩) 102 102),(36,iv 101),(37,iv h),(8,iv h),(9,.slice g.2.2.1 (g.2.1.length+1) g.2.2.2),(46,.pointer (some ⟨b46,0,none⟩))])
   (OS:=λg=>[.blk b33 (LC (flat che U) 787),.blk b46 (.mapIter (some mb) cM g.1 cM),.row (.slice g.2.2.1 (g.2.1.length+1) g.2.2.2) 787 2 (g.2.1.length+1) (flat che (u::g.2.1))])
   (VS:=λg V'=>Le V1 V'/\XOk V V' M (prs M) h g.2.1 g.1) (μ:=λg=>(M.filter λe=>!g.1.contains e.2.2).length) (#[],[],some ⟨b44,0,none⟩,1) ?_ ?_ ?_ ?_
  ·exact⟨rfl,rfl,rfl,rfl,rfl,rfl,rfl,trivial⟩
  ·exact Pt.zg
  ·refine⟨Le.refl _,λx hx=>by(cases hx),λe _ _ he=>by simp at he,?_⟩;show 0+_<=_;rw[Nat.zero_add];exact List.length_filter_le _ _
  rintro⟨seen,xs,ao,co⟩ V2 ks' O' ⟨hV2,hX⟩ hk hO hl2;dsimp only at hX hk hO;subst hk hO;have hmb2:=hV2 _ _ hmb1;have h32:=h31.le hV2;have hxl:xs.length<=1000:=by have:=hX.2.2;omega
  refine zb (tT 0 [2,0]) ?_;all_goals refine nextV rfl trivial rfl zo.zg hmb2 (λe he=>hlt e he) (Nat.le_refl _) (by decide) (λhall=>?_) (λe he hns=>?_)
  all_goals refine zx ?_
  all_goals refine AtT.done ?_
  all_goals refine nrm ?_
  ·refine zS rfl rfl ?_;have hst:=step_ok (M:=prs M) (h:=h) (Rw:=RwS V V2) (c0:=u) (xs:=xs) (λe he=>(hP e he).2.1) huk ⟨Su,hSu,hRu.le hV2⟩ hX.1 (λe he hm=>by obtain⟨x,hx,rfl⟩:=List.mem_map.1 he;exact hX.2.1 x hx hm (hall x hx));refine nrm ?_;refine xw (l:=u::xs) che_len rfl rfl zo.zg (λV3 hV3 hs3=>?_);have hset:=flat_set che_len U (h+1) (bst u xs) (by omega);have hfl:(flat che U).length=204:=by rw[zU che_len,hUl]
   have hcast:((h:Int)+1)=((h+1:Nat):Int):=by omega
   have hUn:=((hU.le (hV2.trans hV3)).set (b:=bst u xs) (by omega) hst.1 (by obtain⟨S,h1,h2⟩:=hst.2;exact⟨S,h1,h2.le hV3⟩))
   refine zb (tT 0 [0,0,0,0,1,0,2]) ?_;refine ze ?_;refine ze ?_;refine zM ?_;rw[hcast];refine ze ?_;refine zm rfl rfl ok764 (stbest_f (u::xs) u xs rfl _ _ _ hs3) ?_;rintro _ rfl;refine idxZ rfl trivial Tryz.underlying785 jA rfl rfl (by omega) (by decide) ?_;refine AtT.store rfl trivial rfl rfl jA rfl rfl (by simp only[hfl,List.length_cons,List.length_nil];omega) rfl hset (by repeat first|exact Upd.here|apply Upd.there) ?_;refine AtT.dn ?_;refine zb (tT 0 [0,0]) ?_;refine zM ?_;refine ze ?_;refine AtT.dn ?_;refine At.round (h+1,U.set (h+1) (bst u xs)) ?_ ?_ ?_ ?_
   ·show 101-(h+1)<101-h;omega
   ·exact⟨hV1.trans (hV2.trans hV3),by dsimp only;omega,by dsimp only;rw[List.length_set];exact hUl,hUn⟩
   ·exact⟨rfl,rfl,rfl,ivs (by dsimp only;omega),trivial⟩
   ·exact Pt.zg
  ·refine ql rfl rfl ?_;have hun:=kr he hns;obtain⟨⟨ep,em⟩,en,eb⟩:=e;obtain⟨q1,q2,q3,q4,q5⟩:=hM _ he;dsimp only at q1 q2 q3 q4 q5 hns hun;obtain⟨p,rfl⟩:∃ p:Nat,ep=(p:Int):=⟨ep.toNat,by omega⟩;refine zb (tT 0 [1,0,0,1,2,0]) ?_;refine entryV rfl trivial rfl zo.zg hmb2 he hbo (by decide) ?_;refine zx ?_;refine zx ?_;refine zW z328 ?_;intro b10;refine zH tk328 ?_;refine zh ?_;refine zb (tT 0 [0,0,0,0]) ?_;refine zw fo328_1 ?_;refine kV tk2 ?_;refine ze ?_;refine keqI ?_;refine AtT.dn ?_;refine zI rfl (λhm=>?_) (λhm=>?_)
   ·have hm':em=(h:Int):=hm
    obtain⟨up,hup,hupk,Sp,hSp,hRp⟩:=hU p (by omega);have hb2:=hbd p (by omega);have hl2':=hln p (by omega) Sp hSp;have hpp:=flat_piece che_len hup;obtain⟨pa,pn,pc,pk⟩:=up;have hslp:=(hRp.le hV2).sl;obtain⟨_,_,hsle,_⟩:=id hslp;cases hsle;refine zb (tT 0 [0,0,0,0,0,1,2]) ?_;refine ze ?_;refine zw fo328_0 ?_;refine kV tk2 ?_;refine idxZ rfl trivial Tryz.underlying785 jA rfl rfl (by omega) (by decide) ?_;refine loadOP rfl trivial rfl jA zo.zg hpp rfl (by decide) ?_;refine zW z787 ?_;intro b12;refine zH jA ?_;refine AtT.dn ?_;refine nrm ?_;refine xm (.q 0 (.q 1 (.q 2 (.q 3 (.q 4 (.q 5 (.q 6 (.q 7 (.q 8 (.q 9 (.q 10 (.q 13 (.q 14 (.q 15 (.q 16 (.n false 11 (.n false 12 (.q 17 (.n false 18 (.n true 19 (.q 20 .done))))))))))))))))))))) ffm (by kernel_rfl) ?_;refine ze ?_;refine zw fo787_0 ?_;refine kV tk566 ?_;refine zw fo787_0 ?_;refine kV tk566 ?_;refine zZ Tryz.underlying566 ?_;refine zw fo787_0 ?_;refine kV tk566 ?_;refine zZ Tryz.underlying566 ?_;first | refine kclipAll Tryz.underlying566 tk328 ?_ | refine kclip Tryz.underlying566 tk328 ?_
    intro a70 hs70;refine qo tk328 ?_;refine zw fo787_1 ?_;refine kV tk2 ?_;refine ze ?_;refine zM ?_;refine zy (bs566_1_0 _ _) ?_;intro q72 V72 hV72 hq72;refine appendCR rfl trivial Tryz.underlying566 rw328 rfl (by decide) rfl (by first | assumption | exact Sl.le (by assumption) (by assumption)) rfl rfl (by first | assumption | exact Cells.le (by assumption) (by assumption)) (λ_=>rfl) (by simp) (by unfold maxLen;simp only[List.length_cons,List.length_nil];omega) (by simp only[List.length_cons,List.length_nil];omega) (by decide) (enc:=sme) (m:=[⟨(p:Int),em⟩]) ?_;intro a73 c73 V73 hV73 hr73;refine qD (bd787_0_1 _ _ _ _) ?_;refine zy (bs785_1_0 _ _ _ _) ?_;intro q79 V79 hV79 hq79;first | refine jq Tryz.underlying785 rw787 ?_
    intro a80 c80;refine zh ?_;have ew:IntKind.i64.wrap (pk+en)=pk+en:=wrap_fit (Fit.of (by dsimp only at hupk;omega) (by dsimp only at hupk;omega));have hge:=hV72.trans (hV73.trans hV79);refine At.round (seen.push eb,xs++[(⟨a73,(Sp++[(⟨(p:Int),em⟩:Sm)]).length,c73,pk+en⟩:Ch)],a80,c80) ?_ ?_ ?_ ?_
    ·exact hun
    ·exact⟨hV2.trans hge,(hX.le hge).more (e:=(⟨(p:Int),em⟩,en,eb)) hbo he hns hm' (by rw[show(pk:Int)=(entM (prs M) p).1 from hupk];rfl) ⟨Sp,hSp,.inr ⟨(hr73.base (hV1.trans (hV2.trans hV72))).le hV79,by simp⟩⟩⟩
    ·dsimp only;rw[List.length_append,List.length_singleton];exact⟨rfl,rfl,rfl,rfl,rfl,rfl,rfl,trivial⟩
    ·dsimp only;rw[List.length_append,List.length_singleton,<-List.cons_append,flat_more];rw[ew];exact Pt.zg
   ·refine nrm ?_;refine At.round (seen.push eb,xs,ao,co) ?_ ?_ ?_ ?_
    ·exact hun
    ·exact⟨hV2,hX.idle (e:=(⟨(p:Int),em⟩,en,eb)) hbo he hns hm⟩
    ·exact⟨rfl,rfl,rfl,rfl,rfl,rfl,rfl,trivial⟩
    ·exact Pt.zg
 ·obtain rfl:h=101:=by omega
  obtain⟨u,hu,huk,Su,hSu,hRu⟩:=hU 101 (Nat.le_refl _);have hpu:=flat_at che_len U 101 u hu 0 _ rfl;refine zb (tT 0 [0,0,0,0,0,0,0,0]) ?_;refine ze ?_;refine ze ?_;refine zZ Tryz.underlying785 ?_;refine k_sb ?_;refine idxZ rfl trivial Tryz.underlying785 jA rfl rfl (by omega) (by decide) (j:=101) ?_;refine zw fo787_0 ?_;refine jM rfl trivial rfl tk566 zo.zg hpu (by decide) ?_;refine zh ?_;exact λa w hk hm=>⟨rfl,hk.defers,hk.size,hm.below,_,V1,hk.known 2 _ rfl,hm.view,Su,hSu,hRu⟩
end Go.Proofs.YtnffcfhdnjbdbaaGreatDoor
namespace Go.Cu
open Go.Lw
section
variable {α β:Type} [DecidableEq α]
theorem mmod_map {g:Nat->α} {h:Nat->β} {i:Nat} {v:β} : ∀ {l:List Nat},(∀ a∈l,g a=g i->a=i)->l.Nodup->mmod (g i) v (l.map λp=>(g p,h p,p))=l.map λp=>(g p,if p=i then v else h p,p)
 | [],_,_=>rfl
 | a::l,hg,hn=>by
  simp only[List.map_cons,mmod];by_cases c:g i=g a
  ·have e:=hg a List.mem_cons_self c.symm
   subst e;rw[if_pos rfl,if_pos rfl];congr 1;refine List.map_congr_left λp hp=>?_;rw[if_neg (λe'=>(List.nodup_cons.1 hn).1 (by rw[<-e'];exact hp))]
  ·rw[if_neg c,if_neg (λe=>c (by rw[e])),mmod_map (λb hb=>hg b (List.mem_cons_of_mem _ hb)) (List.nodup_cons.1 hn).2]
theorem mhas_map {g:Nat->α} {h:Nat->β} {a:α} {l:List Nat} : kI a (l.map λp=>(g p,h p,p))=true↔∃ p∈l,g p=a:=by rw[mhas_keys,List.map_map];simp
end
theorem mul_inj {x a b:Int} (hx:x≠0) (h:x*a=x*b):a=b:=Int.eq_of_mul_eq_mul_left hx h
theorem MS_A {x lo hi:Int} (hx:x≠0) (hl:lo≠hi):∀ k,MS x lo hi k=((List.range k).map (λj=>((⟨x*kP j,x*kM j⟩:Sm),(⟨kP j,kM j⟩:Sm),j)),k)
 | 0=>rfl
 | k+1=>by
  have ek:ko x lo hi (kP k) (kM k)=⟨x*kP k,x*kM k⟩:=by unfold ko;rw[if_neg hl]
  have hno:¬ kI (⟨x*kP k,x*kM k⟩:Sm) ((List.range k).map (λj=>((⟨x*kP j,x*kM j⟩:Sm),(⟨kP j,kM j⟩:Sm),j)))=true:=λh=>by obtain⟨p,hp,e⟩:=(mhas_map (g:=λj=>(⟨x*kP j,x*kM j⟩:Sm)) (h:=λj=>(⟨kP j,kM j⟩:Sm))).1 h;simp only[Sm.mk.injEq]at e;have e1:=mul_inj hx e.1;have e2:=mul_inj hx e.2;have:=List.mem_range.1 hp;unfold kP at e1;unfold kM at e2;omega
  show mput (ko x lo hi (kP k) (kM k)) ⟨kP k,kM k⟩ (MS x lo hi k).1 (MS x lo hi k).2=_
  rw[ek,MS_A hx hl k];dsimp only;unfold mput;rw[if_neg hno,List.range_succ,List.map_append];rfl
theorem MS_B0 {x:Int} (hx:x≠0):∀ k,k<=101->MS x 0 0 k=((List.range k).map (λj:Nat=>((⟨x*(j:Int),0⟩:Sm),(⟨(j:Int), -10⟩:Sm),j)),k)
 | 0,_=>rfl
 | k+1,hk=>by
  have e1:kP k=k:=by unfold kP;omega
  have e2:kM k = -10:=by unfold kM;omega
  have ek:ko x 0 0 (kP k) (kM k)=⟨x*(k:Int),0⟩:=by unfold ko;rw[if_pos rfl,Int.mul_zero,Int.add_zero,e1]
  have hno:¬ kI (⟨x*(k:Int),0⟩:Sm) ((List.range k).map (λj:Nat=>((⟨x*(j:Int),0⟩:Sm),(⟨(j:Int), -10⟩:Sm),j)))=true:=λh=>by obtain⟨p,hp,e⟩:=(mhas_map (g:=λj:Nat=>(⟨x*(j:Int),0⟩:Sm)) (h:=λj:Nat=>(⟨(j:Int), -10⟩:Sm))).1 h;simp only[Sm.mk.injEq]at e;have e1:=mul_inj hx e.1;have:=List.mem_range.1 hp;omega
  show mput (ko x 0 0 (kP k) (kM k)) ⟨kP k,kM k⟩ (MS x 0 0 k).1 (MS x 0 0 k).2=_
  rw[ek,MS_B0 hx k (by omega),e1,e2];dsimp only;unfold mput;rw[if_neg hno,List.range_succ,List.map_append];rfl
theorem MS_B {x:Int} (hx:x≠0) (j:Nat):∀ i,i<=101->MS x 0 0 (101+(101*j+i))=((List.range 101).map (λp:Nat=>((⟨x*(p:Int),0⟩:Sm),(⟨(p:Int),if p<i then (j:Int)-9 else (j:Int)-10⟩:Sm),p)),101)
 | 0,_=>by
  cases j with
  | zero=>
   rw[show 101+(101*0+0)=101 from rfl,MS_B0 hx 101 (Nat.le_refl _)];rfl
  | succ j=>
   rw[show 101+(101*(j+1)+0)=101+(101*j+101) by omega,MS_B hx j 101 (Nat.le_refl _)];congr 1;refine List.map_congr_left λp hp=>?_;rw[if_pos (List.mem_range.1 hp),if_neg (Nat.not_lt_zero _)];congr 3;omega
 | i+1,hi=>by
  have e1:kP (101+(101*j+i))=i:=by unfold kP;omega
  have e2:kM (101+(101*j+i))=(j:Int)-9:=by unfold kM;omega
  have ek:ko x 0 0 (kP (101+(101*j+i))) (kM (101+(101*j+i)))=⟨x*(i:Int),0⟩:=by unfold ko;rw[if_pos rfl,Int.mul_zero,Int.add_zero,e1]
  have hyes:kI (⟨x*(i:Int),0⟩:Sm) ((List.range 101).map (λp:Nat=>((⟨x*(p:Int),0⟩:Sm),(⟨(p:Int),if p<i then (j:Int)-9 else (j:Int)-10⟩:Sm),p)))=true:=
   (mhas_map (g:=λp:Nat=>(⟨x*(p:Int),0⟩:Sm)) (h:=λp:Nat=>(⟨(p:Int),if p<i then (j:Int)-9 else (j:Int)-10⟩:Sm))).2 ⟨i,List.mem_range.2 (by omega),rfl⟩
  show mput (ko x 0 0 (kP (101+(101*j+i))) (kM (101+(101*j+i)))) ⟨kP (101+(101*j+i)),kM (101+(101*j+i))⟩ (MS x 0 0 (101+(101*j+i))).1 (MS x 0 0 (101+(101*j+i))).2=_
  rw[ek,MS_B hx j i (by omega),e1,e2];dsimp only;unfold mput;rw[if_pos hyes];have:=mmod_map (g:=λp:Nat=>(⟨x*(p:Int),0⟩:Sm)) (h:=λp:Nat=>(⟨(p:Int),if p<i then (j:Int)-9 else (j:Int)-10⟩:Sm)) (i:=i) (v:=(⟨(i:Int),(j:Int)-9⟩:Sm)) (l:=List.range 101) (λa _ h=>by simp only[Sm.mk.injEq]at h;have:=mul_inj hx h.1;omega) List.nodup_range;rw[this];congr 1;refine List.map_congr_left λp hp=>?_;by_cases c:p=i
  ·subst c;rw[if_pos rfl,if_pos (by omega)]
  ·rw[if_neg c];by_cases d:p<i
   ·rw[if_pos d,if_pos (by omega)]
   ·rw[if_neg d,if_neg (by omega)]
def ent (x lo hi:Int):List (Sm×Sm×Nat):=
 if x=0 then [(⟨0,0⟩,⟨0, -10⟩,0)]else if lo=hi then (List.range 101).map (λp:Nat=>(⟨x*(p:Int),0⟩,⟨(p:Int),10⟩,p))else (List.range 2121).map (λj=>(⟨x*kP j,x*kM j⟩,⟨kP j,kM j⟩,j))
theorem MS_end {x lo hi:Int} (h:lo=hi->lo=0):(MS x lo hi (endK x)).1=ent x lo hi:=by
 unfold ent endK;by_cases hx:x=0
 ·subst hx;rw[if_pos rfl,if_pos rfl];show(mput (ko 0 lo hi (kP 0) (kM 0)) (⟨kP 0,kM 0⟩:Sm) [] 0).1=_;have:ko 0 lo hi (kP 0) (kM 0)=⟨0,0⟩:=by unfold ko;split<;>simp
  rw[this];rfl
 ·rw[if_neg hx,if_neg hx];by_cases hl:lo=hi
  ·rw[if_pos hl];have h0:=h hl;subst hl;subst h0;rw[show 2121=101+(101*19+101)from rfl,MS_B hx 19 101 (Nat.le_refl _)];refine List.map_congr_left λp hp=>?_;rw[if_pos (List.mem_range.1 hp)];rfl
  ·rw[if_neg hl,MS_A hx hl]
end Go.Cu
namespace Go.Ev
open Go.Lw Go.RowKit Go.Proofs
abbrev Sm:=Go.Cu.Sm
def nI {Z:Type} (n:Int) (K:Int->Z):Z:=Int.rec (motive:=λ_=>Z) (λm=>nat m λm=>K (.ofNat m)) (λm=>nat m λm=>K (.negSucc m)) n
theorem nI_eq {Z:Type} (n:Int) (K:Int->Z):nI n K=K n:=by
 cases n with
 | ofNat m=>exact nat_eq m λm=>K (.ofNat m)
 | negSucc m=>exact nat_eq m λm=>K (.negSucc m)
def prs:List Sc->Option (List Sm)
 | .i .i64 a::.i .i64 b::l=>(match prs l with | some r=>some (⟨a,b⟩::r) | none=>none)
 | []=>some []
 | _=>none
def goodB (s:Sm):Bool:=qO 0 s.p && qO s.p 100 && qO (-10) s.m && qO s.m 10
def bldF {Z:Type} (f:Nat->Sm×Sm) (q:Int) (l:List Nat) (K:List (AV×AV)->Option Z):Option Z:=
 List.rec (motive:=λ_=>(List (AV×AV)->Option Z)->Option Z) (λK=>K []) (λj _ ih K=>nI (f j).1.p λa=>jV (qO (-q) a && qO a q)
  (nI (f j).1.m λb=>nI (f j).2.p λc=>nI (f j).2.m λd=>ih λr=>K ((.a [.i .i64 a,.i .i64 b],.a [.i .i64 c,.i .i64 d])::r)) (ih K)) l K
def shF (x lo hi:Int):Nat->Sm×Sm:=bif ieqB x 0 then λ_=>(⟨0,0⟩,⟨0, -10⟩)else bif ieqB lo hi then λp=>(⟨x*(p:Int),0⟩,⟨(p:Int),10⟩)else λj=>(⟨x*Go.Cu.kP j,x*Go.Cu.kM j⟩,⟨Go.Cu.kP j,Go.Cu.kM j⟩)
def shN (x lo hi:Int):Nat:=bif ieqB x 0 then 1 else bif ieqB lo hi then 101 else 2121
def rd3 {Z:Type} (l:List Sc) (K:So->Int->Int->Option Z):Option Z:=match l with | [.o so,.i .i64 lo,.i .i64 hi]=>K so lo hi | _=>none
def sliceS (h:H) (so:So) (K:Nat->Nat->Nat->R):R:=match so with | .s i o m c=>gd (Nat.ble m c && Nat.ble c 1000000) (K i o m) | .w i o m _=>rowK h i λ_ _ _=>K i o m | _=>none
def orSheets:Orc:=.mk λargs h K=>jW args λbp xv=>asP bp λid off=>gd (Nat.beq off 0) (asI xv λk x=>gd (Nat.beq (kNo k) (kNo .i64)) (jd h id λE n t=>gd (Nat.ble 3 n) (getL t 0 3 λr=>rd3 r λso lo hi=>
 sliceS h so λi o m=>csE i o m 2 h λ_ cs=>obn (prs cs) λS=>gd (qO (-100) x && qO x 100 && qO 0 lo && qO lo 50 && qO 0 hi && qO hi 50 && Nat.ble 1 m && Nat.ble m 7 && S.all goodB && (!ieqB lo hi || ieqB lo 0)) (
 nI (Go.Cu.mostS ((m:Int)-1-(m:Int) / 2) lo S) λq=>bldF (shF x lo hi) q (List.range (shN x lo hi)) λl=>newB h (.o (.m l)) λid h=>K (.x (.o (.m id))) h))))
def absE (e:Sm×Sm×Nat):AV×AV:=(.a [.i .i64 e.1.p,.i .i64 e.1.m],.a [.i .i64 e.2.1.p,.i .i64 e.2.1.m])
theorem bldF_eq {Z:Type} (f:Nat->Sm×Sm) (q:Int):∀ (l:List Nat) (K:List (AV×AV)->Option Z),bldF f q l K=K (((l.map λj=>((f j).1,(f j).2,j)).filter (Go.Cu.inS q)).map absE)
 | [],K=>rfl
 | j::l,K=>by
  have e:bldF f q (j::l) K=nI (f j).1.p λa=>jV (qO (-q) a && qO a q)
   (nI (f j).1.m λb=>nI (f j).2.p λc=>nI (f j).2.m λd=>bldF f q l λr=>K ((.a [.i .i64 a,.i .i64 b],.a [.i .i64 c,.i .i64 d])::r)) (bldF f q l K):=rfl
  rw[e,nI_eq,jr,jr,nI_eq,nI_eq,nI_eq,bldF_eq f q l,bldF_eq f q l];simp only[List.map_cons,List.filter_cons];by_cases c:Go.Cu.inS q ((f j).1,(f j).2,j)=true
  ·have c' : -q<=(f j).1.p/\(f j).1.p<=q:=by simpa [Go.Cu.inS]using c
   rw[if_pos c,decide_eq_true c'.1,decide_eq_true c'.2];rfl
  ·rw[if_neg c];have c':(decide (-q<=(f j).1.p) && decide ((f j).1.p<=q))=false:=by simp only[Go.Cu.inS,decide_eq_true_eq]at c;rw[Bool.and_eq_false_iff,decide_eq_false_iff_not,decide_eq_false_iff_not];omega
   rw[c'];rfl
theorem sh_ent (x lo hi:Int):(List.range (shN x lo hi)).map (λj=>((shF x lo hi j).1,(shF x lo hi j).2,j))=Go.Cu.ent x lo hi:=by
 unfold shN shF Go.Cu.ent;rw[ieqB_eq,ieqB_eq];by_cases hx:x=0
 ·rw[if_pos hx,decide_eq_true hx];rfl
 ·rw[if_neg hx,decide_eq_false hx];by_cases hl:lo=hi
  ·rw[if_pos hl,decide_eq_true hl];rfl
  ·rw[if_neg hl,decide_eq_false hl];rfl
theorem prs_law {e:Env} : ∀ {cs:List Sc} {S:List Sm} {us:List Value},prs cs=some S->zB (DnC e) cs us->us=flat Go.Cu.sme S/\cs.length=S.length*2
 | [],S,us,h,ha=>by
  unfold prs at h;cases h;cases us with
  | nil=>exact⟨rfl,rfl⟩
  | cons _ _=>exact ha.elim
 | [a],S,us,h,ha=>by
  unfold prs at h;split at h
  ·rename_i h2;cases h2
  ·rename_i h2;cases h2
  ·cases h
 | a::b::l,S,us,h,ha=>by
  unfold prs at h;split at h
  ·rename_i a' b' l' h2;cases h2;split at h
   ·rename_i r hr;cases h
    match us,ha with
    | u::v::us,ha=>
     obtain⟨h1,h2⟩:=prs_law hr ha.2.2;have e1:u=.int .i64 a':=ha.1.1;have e2:v=.int .i64 b':=ha.2.1.1;subst e1;subst e2;refine⟨by rw[h1];rfl,by simp[h2];omega⟩
    | [],ha=>exact ha.elim
    | [_],ha=>exact ha.2.elim
   ·cases h
  ·cases ‹_::_=[]›
  ·cases h
theorem ents_ok {e:Env} : ∀ M:List (Sm×Sm×Nat),zB (DnE e) (M.map absE) (M.map (mE Go.Cu.smv Go.Cu.smv))
 | []=>trivial
 | _::M=>⟨⟨⟨_,rfl,⟨rfl,rfl⟩,⟨rfl,rfl⟩,trivial⟩,⟨_,rfl,⟨rfl,rfl⟩,⟨rfl,rfl⟩,trivial⟩⟩,ents_ok M⟩
theorem csE_cells {w0:World} {e:Env} {h:H} {w:World} (R:zq w0 e h w) {id off n s:Nat} (hd:e.dom id) {Z:Type} {z:Z} {K:Nat->List Sc->Option Z} (hh:csE id off n s h K=some z):∃ l us,K n l=some z/\l.length=n*s/\zB (DnC e) l us/\∀ j u,us[j]? = some u->w.cell? ((adr e id off).add j)=some u:=by
 cases n with
 | zero=>exact⟨[],[],hh,by simp,trivial,λj u hj=>by simp at hj⟩
 | succ n=>
  have h':(jd h id λE q t=>gd (Nat.ble (off+(n+1)*s) q) (getL t off ((n+1)*s) λr=>K (n+1) r))=some z:=hh
  obtain⟨E,q,t,hb,h'⟩:=qI h';obtain⟨h1,h'⟩:=zk h';have h1:=Nat.le_of_ble_eq_true h1;obtain⟨l,h2,h3,h'⟩:=kQ h';obtain⟨us,k1,k2,k3⟩:=R.row hd hb h3 (by omega);exact⟨l,us,h',h2,k2,k3⟩
theorem sliceS_law {w0:World} {e:Env} {h:H} {w:World} {z:List (AV×H)} (R:zq w0 e h w) {so:So} {v:Value} {K:Nat->Nat->Nat->Ev.R} (hh:sliceS h so K=some z) (hx:DnO e so v):∃ i o m c,v=.slice (some (adr e i o)) m c/\e.dom i/\m<=c/\c<=maxLen/\K i o m=some z:=by
 unfold sliceS at hh;split at hh
 ·rename_i i o m c;obtain⟨hd,rfl⟩:=hx;obtain⟨g,hh⟩:=zk hh;rw[Bool.and_eq_true]at g;have g1:=Nat.le_of_ble_eq_true g.1;have g2:=Nat.le_of_ble_eq_true g.2;exact⟨i,o,m,c,rfl,hd,g1,by unfold maxLen;omega,hh⟩
 ·rename_i i o m c;obtain⟨hd,rfl,hc⟩:=hx;obtain⟨E,n,t,hb,hh⟩:=rowK_law hh;have ok:=R.ok i hd;rw[hb]at ok;obtain⟨cs,zz,k1,k2,k3,k4,k5⟩:=ok;exact⟨i,o,m,_,rfl,hd,by omega,by omega,hh⟩
 ·cases hh
theorem sheets_ok (w0:World):FOk w0 orSheets.g 463:=by
 intro e h K z args us w hh ha R;refine⟨by rw[jf];exact zf Tryz.func463 (by kernel_rfl) (by kernel_rfl),?_⟩;have hh':jW args _=some z:=hh;obtain⟨bp,xv,rfl,hq⟩:=jL hh';obtain⟨id,off,rfl,hq⟩:=qW hq;obtain⟨g1,hq⟩:=zk hq;have:=Nat.eq_of_beq_eq_true g1;subst this;obtain⟨k,x,rfl,hq⟩:=qB hq;obtain⟨g2,hq⟩:=zk hq;have hk:k=.i64:=by
  have:=Nat.eq_of_beq_eq_true g2
  cases k<;>first | rfl | cases this
 subst hk;obtain⟨E,n,t,hb,hq⟩:=qI hq;obtain⟨g3,hq⟩:=zk hq;obtain⟨r,r1,r2,hq⟩:=kQ hq;unfold rd3 at hq;split at hq;rotate_left
 ·cases hq
 rename_i so lo hi
 match us,ha with
 | [u,v],ha=>
  obtain⟨hd,rfl⟩:e.dom id/\u=.pointer (some (adr e id 0)):=ha.1;obtain rfl:v=.int .i64 x:=ha.2.1;obtain⟨us3,u1,u2,u3⟩:=R.row hd hb r2 (by have:=Nat.le_of_ble_eq_true g3;simpa using this)
  match us3,u2 with
  | [v0,v1,v2],u2=>
   obtain rfl:v1=.int .i64 lo:=u2.2.1.1;obtain rfl:v2=.int .i64 hi:=u2.2.2.1.1;have hv0:DnO e so v0:=u2.1.1;obtain⟨i,o,m,c,rfl,hdi,hmc,hcm,hq⟩:=sliceS_law R hq hv0;obtain⟨cs,us,hq,hcl,hcu,hcc⟩:=csE_cells R hdi hq;obtain⟨S,hS,hq⟩:=zA hq;obtain⟨g4,hq⟩:=zk hq;simp only[Bool.and_eq_true,jr,ieqB_eq,decide_eq_true_eq,Bool.or_eq_true,Bool.not_eq_true',decide_eq_false_iff_not]at g4;obtain⟨⟨⟨⟨⟨⟨⟨⟨⟨a1,a2⟩,a3⟩,a4⟩,a5⟩,a6⟩,a7⟩,a8⟩,a9⟩,a10⟩:=g4;have a7:=Nat.le_of_ble_eq_true a7;have a8:=Nat.le_of_ble_eq_true a8;rw[nI_eq,bldF_eq,sh_ent]at hq;obtain⟨rfl,hlen⟩:=prs_law hS hcu;have hm:m=S.length:=by omega
   subst hm;have hsl:Sl (hp w) Go.Cu.sme 2 (.slice (some (adr e i o)) S.length c) S:=Sl.of_cells (λ_=>rfl) (λj u hj=>by rw[jy];exact hcc j u hj) hmc hcm;have cell:∀ (j:Nat) (u:Value),[Value.slice (some (adr e i o)) S.length c,.int .i64 lo,.int .i64 hi][j]? = some u->Cells (hp w) ⟨e.blk id,j,none⟩ [u]:=λj u hj q v hv=>by
    cases q with
    | zero=>
     simp at hv;subst hv;rw[jy,Addr.add_lit,Nat.add_zero];have:=u3 j u hj;rwa[je,Nat.zero_add]at this
    | succ q=>simp at hv
   have hgood:∀ s∈S,Go.Cu.good s:=λs hs=>by
    have:=List.all_eq_true.1 a9 s hs
    unfold goodB at this;simp only[Bool.and_eq_true,jr,decide_eq_true_eq]at this;exact⟨this.1.1.1,this.1.1.2,this.1.2,this.2⟩
   have F:=YtnffcfhdnjbdbaaGreatDoor.sheets_f x lo hi S (some (adr e i o)) c (e.blk id) ⟨by omega,by omega⟩ ⟨by omega,by omega⟩ ⟨by omega,by omega⟩ hgood ⟨by omega,by omega⟩ (hp w) (cell 0 _ rfl) (cell 1 _ rfl) (cell 2 _ rfl) hsl
   rw[jf];refine(F w (Le.refl _)).mono λen w' ⟨q,V',h1,h2,h3,h4,h5,mb,h6,h7,h8⟩=>⟨q,h1,?_⟩;subst h6;have hb':w'.heap[mb]? = some (qM Go.Cu.smv Go.Cu.smv (Go.Cu.shM x lo hi (Go.Cu.mostS ((S.length:Int)-1-(S.length:Int) / 2) lo S)) (Go.Cu.MS x lo hi (Go.Cu.endK x)).2):=h4 _ _ h8;have hlt:mb<w'.heap.size:=(Array.getElem?_eq_some_iff.1 hb').1;have hge:w.heap.size<=mb:=by
    have:w.heap[mb]? = none:=h7
    simpa using this
   have hend:=Go.Cu.MS_end (x:=x) (lo:=lo) (hi:=hi) (λh=>a10.resolve_left (λh'=>h' h))
   have hok:=Go.Cu.MS_ok x lo hi (Go.Cu.endK x)
   refine R.alloc (al:=⟨.o (.m _),λid=>.x (.o (.m id))⟩) ⟨h2,rfl,λid hid=>⟨mb,0,.nilFunc,λ_=>⟨hge,hlt⟩,λh=>⟨_,_,by rw[qh];exact hb',?_⟩,⟨.inl rfl,by rw[qh]⟩⟩⟩ hq;unfold Go.Cu.shM;rw[hend];refine⟨ents_ok _,?_,?_⟩
   ·rw[List.map_map];have:=hok.borns;rw[hend]at this;exact this.sublist (List.filter_sublist.map _)
   ·intro en hen;obtain⟨e1,he1,rfl⟩:=List.mem_map.1 hen;have:=hok.lt e1 (by rw[hend];exact(List.mem_filter.1 he1).1);exact this
  | [],u2=>exact u2.elim
  | [_],u2=>exact u2.2.elim
  | [_,_],u2=>exact u2.2.2.elim
  | _::_::_::_::_,u2=>exact u2.2.2.2.elim
 | [],ha=>exact ha.elim
 | [_],ha=>exact ha.2.elim
 | _::_::_::_,ha=>exact ha.2.2.elim
end Go.Ev
namespace Go.Ev
def O2 (f:FuncId):Option Orc:=bif Nat.beq f 463 then some orSheets else O1 f
theorem oc2 (w0:World):OcOk w0 O2:=by
 intro f o h;unfold O2 at h;cases c:Nat.beq f 463 with
 | true=>
  rw[c]at h;obtain rfl:=Nat.eq_of_beq_eq_true c;cases h;exact @sheets_ok w0
 | false=>rw[c]at h;exact oc1 w0 f o h
end Go.Ev
namespace Go.Proofs.YtnffcfhdnjbdbaaGreatDoor
open Go.Shelf Go.RowKit Go.Lib Go.Sort
def srt_ren:Go.Shelf.Ren:=⟨λ| 6=>338 | 14=>409 | 15=>125 | 20=>474 | 21=>475 | 22=>476 | 23=>477 | 24=>478 | 25=>479 | 26=>480 | 27=>481 | 28=>201 | 29=>202 | 46=>550 | 47=>279 | 48=>280 | 49=>551 | 50=>552 | 57=>647 | n=>n,λ| 22=>207 | 24=>200 | 25=>390 | 3=>3 | 39=>169 | 0=>0 | 53=>250 | 55=>252 | 4=>4 | 46=>243 | 45=>242 | 50=>247 | 5=>5 | 9=>9 | 66=>318 | 70=>322 | 76=>399 | 77=>73 | n=>n,λn=>n⟩
theorem srt:SlLaysF0.n6 Tryz.prog srt_ren where
 mixed:=by kernel_rfl
 f6:=⟨"slices.SortFunc[[]crossband/boil.set,crossband/boil.set]",of_decide_eq_true (by kernel_rfl),Tryz.func338.trans (congrArg some (by kernel_rfl))⟩
 f14:=⟨"slices.pdqsortCmpFunc[crossband/boil.set]",of_decide_eq_true (by kernel_rfl),Tryz.func409.trans (congrArg some (by kernel_rfl))⟩
 f15:=Tryz.func125.trans (congrArg some (by kernel_rfl))
 f20:=⟨"slices.insertionSortCmpFunc[crossband/boil.set]",of_decide_eq_true (by kernel_rfl),Tryz.func474.trans (congrArg some (by kernel_rfl))⟩
 f21:=⟨"slices.heapSortCmpFunc[crossband/boil.set]",of_decide_eq_true (by kernel_rfl),Tryz.func475.trans (congrArg some (by kernel_rfl))⟩
 f22:=⟨"slices.breakPatternsCmpFunc[crossband/boil.set]",of_decide_eq_true (by kernel_rfl),Tryz.func476.trans (congrArg some (by kernel_rfl))⟩
 f23:=⟨"slices.choosePivotCmpFunc[crossband/boil.set]",of_decide_eq_true (by kernel_rfl),Tryz.func477.trans (congrArg some (by kernel_rfl))⟩
 f24:=⟨"slices.reverseRangeCmpFunc[crossband/boil.set]",of_decide_eq_true (by kernel_rfl),Tryz.func478.trans (congrArg some (by kernel_rfl))⟩
 f25:=⟨"slices.partialInsertionSortCmpFunc[crossband/boil.set]",of_decide_eq_true (by kernel_rfl),Tryz.func479.trans (congrArg some (by kernel_rfl))⟩
 f26:=⟨"slices.partitionEqualCmpFunc[crossband/boil.set]",of_decide_eq_true (by kernel_rfl),Tryz.func480.trans (congrArg some (by kernel_rfl))⟩
 f27:=⟨"slices.partitionCmpFunc[crossband/boil.set]",of_decide_eq_true (by kernel_rfl),Tryz.func481.trans (congrArg some (by kernel_rfl))⟩
 f28:=Tryz.func201.trans (congrArg some (by kernel_rfl))
 f29:=Tryz.func202.trans (congrArg some (by kernel_rfl))
 f46:=⟨"slices.siftDownCmpFunc[crossband/boil.set]",of_decide_eq_true (by kernel_rfl),Tryz.func550.trans (congrArg some (by kernel_rfl))⟩
 f47:=Tryz.func279.trans (congrArg some (by kernel_rfl))
 f48:=Tryz.func280.trans (congrArg some (by kernel_rfl))
 f49:=⟨"slices.medianAdjacentCmpFunc[crossband/boil.set]",of_decide_eq_true (by kernel_rfl),Tryz.func551.trans (congrArg some (by kernel_rfl))⟩
 f50:=⟨"slices.medianCmpFunc[crossband/boil.set]",of_decide_eq_true (by kernel_rfl),Tryz.func552.trans (congrArg some (by kernel_rfl))⟩
 f57:=⟨"slices.order2CmpFunc[crossband/boil.set]",of_decide_eq_true (by kernel_rfl),Tryz.func647.trans (congrArg some (by kernel_rfl))⟩
 t0:=Tryz.underlying0
 a0:=Tryz.isAgg0
 z0:=Tryz.sizeOf0
 v0:=Tryz.zeroValue0
 t3:=Tryz.underlying3
 a3:=Tryz.isAgg3
 z3:=Tryz.sizeOf3
 v3:=Tryz.zeroValue3
 t4:=Tryz.underlying4
 a4:=Tryz.isAgg4
 z4:=Tryz.sizeOf4
 v4:=Tryz.zeroValue4
 t5:=Tryz.underlying5
 a5:=Tryz.isAgg5
 z5:=Tryz.sizeOf5
 v5:=Tryz.zeroValue5
 t9:=Tryz.underlying9
 a9:=Tryz.isAgg9
 z9:=Tryz.sizeOf9
 v9:=Tryz.zeroValue9
 t22:=Tryz.underlying207
 a22:=Tryz.isAgg207
 z22:=Tryz.sizeOf207
 v22:=Tryz.zeroValue207
 t25:=Tryz.underlying390
 a25:=Tryz.isAgg390
 z25:=Tryz.sizeOf390
 v25:=Tryz.zeroValue390
 t39:=Tryz.underlying169
 a39:=Tryz.isAgg169
 z39:=Tryz.sizeOf169
 v39:=Tryz.zeroValue169
 t45:=Tryz.underlying242
 a45:=Tryz.isAgg242
 z45:=Tryz.sizeOf242
 v45:=Tryz.zeroValue242
 t46:=Tryz.underlying243
 a46:=Tryz.isAgg243
 z46:=Tryz.sizeOf243
 v46:=Tryz.zeroValue243
 t50:=Tryz.underlying247
 a50:=Tryz.isAgg247
 z50:=Tryz.sizeOf247
 v50:=Tryz.zeroValue247
 t53:=Tryz.underlying250
 a53:=Tryz.isAgg250
 z53:=Tryz.sizeOf250
 v53:=Tryz.zeroValue250
 t55:=Tryz.underlying252
 a55:=Tryz.isAgg252
 z55:=Tryz.sizeOf252
 v55:=Tryz.zeroValue252
 t66:=Tryz.underlying318
 a66:=Tryz.isAgg318
 z66:=Tryz.sizeOf318
 v66:=Tryz.zeroValue318
 t70:=Tryz.underlying322
 a70:=Tryz.isAgg322
 z70:=Tryz.sizeOf322
 v70:=Tryz.zeroValue322
 t76:=Tryz.underlying399
 a76:=Tryz.isAgg399
 z76:=Tryz.sizeOf399
 v76:=Tryz.zeroValue399
 t77:=Tryz.underlying73
 a77:=Tryz.isAgg73
 z77:=Tryz.sizeOf73
 v77:=Tryz.zeroValue73
end Go.Proofs.YtnffcfhdnjbdbaaGreatDoor
namespace Go.Bl
def stI (n k m:Int):Int:=Go.bits .or .u64 (Go.bits .and .u64 (n / k) m) (IntKind.u64.wrap (Go.bits .and .u64 n m*k))
def rbI (n:Int):Int:=Go.bits .or .u64 (stI (stI n 256 71777214294589695) 65536 281470681808895 / 4294967296) (IntKind.u64.wrap (stI (stI n 256 71777214294589695) 65536 281470681808895*4294967296))
def rvI (n:Int):Int:=rbI (stI (stI (stI n 2 6148914691236517205) 4 3689348814741910323) 16 1085102592571150095)
def cpI (x y:Int):Int:=if x<y then -1 else if x > y then 1 else 0
end Go.Bl
namespace Go.Proofs.YtnffcfhdnjbdbaaGreatDoor
open Go.Shelf Go.RowKit Go.Lib Go.Sort Go.Bl
theorem rb64 (n:Int) (w:World):Calls Tryz.prog 483 #[.int .u64 n] w λe w'=>e=.returned (.int .u64 (rbI n))/\w'=w:=by
 go_enter Tryz.func483,Tryz.ntmps483
 go_wp2
 go_ret
 exact⟨rfl,rfl⟩
theorem nan106 (n:Int) (w:World):Calls Tryz.prog 410 #[.int .u64 n] w λe w'=>e=.returned (.bool false)/\w'=w:=by
 go_enter Tryz.func410,Tryz.ntmps410
 go_wp2
 go_ret
 exact⟨rfl,rfl⟩
theorem rv64 (n:Int) (w:World):Calls Tryz.prog 412 #[.int .u64 n] w λe w'=>e=.returned (.int .u64 (rvI n))/\w'=w:=by
 go_enter Tryz.func412,Tryz.ntmps412
 go_wp2_with (go_at_call 483;refine(rb64 _ _).mono ?_;rintro e w' ⟨rfl,rfl⟩)
 go_ret
 exact⟨rfl,rfl⟩
theorem rv103 (n:Int) (w:World):Calls Tryz.prog 341 #[.int .u64 n] w λe w'=>e=.returned (.int .u64 (rvI n))/\w'=w:=by
 go_enter Tryz.func341,Tryz.ntmps341
 go_wp2_with (go_at_call 412;refine(rv64 _ _).mono ?_;rintro e w' ⟨rfl,rfl⟩)
 go_ret
 exact⟨rfl,rfl⟩
theorem cp102 (x y:Int) (w:World):Calls Tryz.prog 340 #[.int .u64 x,.int .u64 y] w λe w'=>e=.returned (.int .i64 (cpI x y))/\w'=w:=by
 go_enter Tryz.func340,Tryz.ntmps340
 go_wp2_with (go_at_call 410;refine(nan106 _ _).mono ?_;rintro e w' ⟨rfl,rfl⟩)
 all_goals
  go_ret
  refine⟨?_,rfl⟩;unfold cpI;first
   | (rw[if_pos (by omega)];rfl)
   | (rw[if_neg (by omega),if_pos (by omega)];rfl)
   | (rw[if_neg (by omega),if_neg (by omega)];rfl)
def cfS (s t:Nat):Int:=cpI (rvI (IntKind.u64.wrap (t:Int))) (rvI (IntKind.u64.wrap (s:Int)))
set_option maxHeartbeats 1600000 in
set_option maxRecDepth 1000000 in
theorem closure101 (s t:Nat) (W:World):Calls Tryz.prog 339 #[.agg #[.int .i64 (s:Int)],.agg #[.int .i64 (t:Int)]] W λe w'=>e=.returned (.int .i64 (cfS s t))/\∃ q os',w'=grow (W.drewN q) os':=by
 have h1:=rv103 (IntKind.u64.wrap (t:Int))
 have h2:=rv103 (IntKind.u64.wrap (s:Int))
 have h3:=cp102 (rvI (IntKind.u64.wrap (t:Int))) (rvI (IntKind.u64.wrap (s:Int)))
 unfold cfS;generalize rvI (IntKind.u64.wrap (t:Int))=a at h1 h3⊢;generalize rvI (IntKind.u64.wrap (s:Int))=b at h2 h3⊢;generalize cpI a b=r at h3⊢
 go_enter Tryz.func339,Tryz.ntmps339
 go_wp2_with fail
 go_quiet (first
  | (go_at_call_of 341 (Value.int .u64 (IntKind.u64.wrap (t:Int)));refine Calls.quiet_of_same (h1 _))
  | (go_at_call_of 341 (Value.int .u64 (IntKind.u64.wrap (s:Int)));refine Calls.quiet_of_same (h2 _))
  | (go_at_call 340;refine Calls.quiet_of_same (h3 _)))
 go_wp2_with fail
 go_ret
 exact⟨rfl,nq,_,by rw[alloc_eq_grow,alloc_eq_grow,grow_grow];rfl⟩
end Go.Proofs.YtnffcfhdnjbdbaaGreatDoor
namespace Go.Proofs.YtnffcfhdnjbdbaaGreatDoor
open Go.Lw Go.Gl Go.Bl Go.RowKit
theorem sound_f (p:Pq) (V:View):Fnc Tryz.prog 151 [pqv p] V λr _=>r=.bool (sndB p):=by refine zG Tryz.func151 rfl Tryz.ntmps151 (Nat.le_of_ble_eq_true rfl) ?_;intro w0 hw0;refine zb (tT 0 [1,0]) ?_;refine qQ ?_;intro b1;refine ax (tT 0 [0,0,0,0,0,0,1,1,0]) ?_;refine zw fo123_0 ?_;refine kV tk3 ?_;refine zw fo123_1 ?_;refine kV tk3 ?_;refine zw fo123_2 ?_;refine kV tk3 ?_;refine zy (bs34_3_0_1_2 _ _ _) ?_;intro q9 V9 hV9 hq9;refine zm rfl rfl ok165 (qd 0 4 [p.m,p.o,p.h] _ _ (Sl.lit hq9 rfl (by simp))) ?_;rintro _ rfl;rw[wi_pq];refine zh ?_;exact zL rfl (.tmp rfl) rfl
theorem bad_f (t:Tq) (V:View):Fnc Tryz.prog 262 ([]++[tqv t]++[]) V λr _=>r=.bool (badT t):=by refine zG Tryz.func262 rfl Tryz.ntmps262 (Nat.le_of_ble_eq_true rfl) ?_;intro w0 hw0;refine zb (tT 0 [1,0]) ?_;refine qQ ?_;intro b1;refine ax (tT 0 [0,0,1,0,0]) ?_;refine zw fo196_0 ?_;refine qo tk123 ?_;refine zm rfl rfl ok151 (sound_f t.p _) ?_;rintro _ rfl;refine xn ?_;refine zh ?_;exact zL rfl (.tmp rfl) rfl
theorem trials_f (ts:List Tq) (V:View) (v:Value) (hs:Sl V tqe 4 v ts):Fnc Tryz.prog 164 [v] V λr _=>r=iv (trE ts):=by
 have hs':=hs
 obtain⟨a,c,rfl,k1,k2,_⟩:=id hs;clear k1 k2;refine zG Tryz.func164 rfl Tryz.ntmps164 (Nat.le_of_ble_eq_true rfl) ?_;intro w0 hw0;refine zb (tT 0 [0]) ?_;refine ax (tT 0 [0,0,0,0]) ?_;refine ze ?_;refine zZ Tryz.underlying119 ?_;refine kgtr ?_;refine zh ?_;refine zI rfl (λhb=>?_) (λhb=>?_)
 ·refine zb (tT 0 [0]) ?_;refine zh ?_;refine zL rfl (.tmp rfl) ?_;rw[trE,if_pos (by omega)]
 have hb':¬ 16<ts.length:=by omega
 refine zb (tT 0 [0,1,0]) ?_;refine ze ?_;refine zm rfl rfl ok261 (contains_t 262 [] badT _ _ ts hs' ok262 (λt _=>bad_f t _)) ?_;rintro _ rfl;refine zh ?_;refine At.cond rfl (λhc=>?_) (λhc=>?_)
 ·refine zb (tT 0 [0]) ?_;refine zh ?_;refine zL rfl (.tmp rfl) ?_;rw[trE,if_neg hb',if_pos hc]
 refine zb (tT 0 [0]) ?_;refine zh ?_;refine zL rfl (.tmp rfl) ?_;rw[trE,if_neg hb',if_neg (by rw[hc];simp)]
theorem setOf_f (l:List Int) (hl:∀ x∈l,0<=x/\x<15) (V:View) (v:Value) (hs:SlI V v l):Fnc Tryz.prog 156 [v] V λr _=>r=stv (btL l):=by
 have hlen:=hs.jC
 obtain⟨a,c,rfl,k1,k2,_⟩:=id hs;clear k1 k2;refine zG Tryz.func156 rfl Tryz.ntmps156 (Nat.le_of_ble_eq_true rfl) ?_;intro w0 hw0;refine zb (tT 0 [1]) ?_;refine zW z200 ?_;intro b2;refine xq (tT 0 [0,1,2]) ?_;refine qD (bd200) ?_;refine zW z200 ?_;intro b3;refine zH qG ?_;refine xq (tT 0 [0,0,0]) ?_;refine ze ?_;refine zZ Tryz.underlying34 ?_;refine ze ?_;refine AtT.dn ?_;refine xc (ι:=Nat) (KS:=λk=>[(2,.pointer (some ⟨b2,0,none⟩)),(3,.pointer (some ⟨b3,0,none⟩)),(7,.slice a l.length c),(8,iv l.length),(9,iv k)]) (OS:=λk=>[.blk b2 (LC [iv 0] 200),.blk b3 (LC [iv (btL (l.take k))] 200)]) (VS:=λk V'=>V'=V/\k<=l.length) (μ:=λk=>l.length-k) 0 ?_ ?_ ?_ ?_
 ·exact⟨rfl,rfl,rfl,rfl,rfl,trivial⟩
 ·exact Pt.zg
 ·exact⟨rfl,Nat.zero_le _⟩
 ·rintro k V' ks' O' ⟨rfl,hkl⟩ hk hO hl2;subst hk hO;have hb:=btT_lt hl k;refine zb (tT 0 [0]) ?_;refine qc ?_;refine AtT.dn ?_;refine zI rfl (λhp=>?_) (λhp=>?_)
  ·obtain⟨x,hx⟩:∃ x,l[k]? = some x:=⟨_,List.getElem?_eq_getElem (by omega)⟩;have hx0:=hl x (List.mem_of_getElem? hx);have hpw:=pow_lt15 hx0;have hnx:=btL_take hx;refine zb (tT 0 [0,0,0]) ?_;refine kZ Tryz.underlying34 tk3 ?_;intro p11 e11 he11 hc11;obtain rfl:e11=x:=by have:l[k]? = some e11:=(by simpa using he11);rw[hx]at this;simpa using this.symm
   refine kV tk3 ?_;refine zh ?_;refine xm (tT 0 [0,0,0,0,0,0,2]) ffm (by kernel_rfl) ?_;refine zw fo200_0 ?_;refine kV tk3 ?_;refine ze ?_;refine shlN rfl trivial rfl rfl (N:=e11.toNat) (by omega) (by omega) (by decide) ?_;refine orN rfl trivial rfl rfl rfl rfl (by omega) (by omega) (by decide) (A:=btL (l.take k)) (B:=2 ^ e11.toNat) ?_;refine zw fo200_0 ?_;first | refine qK tk3 ?_ | refine zH tk3 ?_
   refine xq (tT 0 [0,0]) ?_;refine zM ?_;refine ze ?_;refine AtT.dn ?_;refine At.round (k+1) ?_ ?_ ?_ ?_
   ·show l.length-(k+1)<l.length-k;omega
   ·exact⟨rfl,by omega⟩
   ·exact⟨rfl,rfl,rfl,rfl,ivs (by omega),trivial⟩
   rw[hnx]
   ·exact Pt.zg
  ·obtain rfl:k=l.length:=by omega
   rw[List.take_length];refine zb (tT 0 [0,2]) ?_;refine qo qG ?_;refine zH qG ?_;refine AtT.dn ?_;exact zL rfl (.agg rfl qG zo.zg rfl) rfl
theorem meets_f (A B:Nat) (hA:A<9223372036854775808) (hB:B<9223372036854775808) (V:View):Fnc Tryz.prog 157 [stv A,stv B] V λr _=>r=.bool (mtB A B):=by refine zG Tryz.func157 rfl Tryz.ntmps157 (Nat.le_of_ble_eq_true rfl) ?_;intro w0 hw0;refine zb (tT 0 [1,1,0]) ?_;refine qQ ?_;intro b2;refine qQ ?_;intro b3;refine ax (tT 0 [0,0,0,0,0,0,0]) ?_;refine zw fo200_0 ?_;refine kV tk3 ?_;refine zw fo200_0 ?_;refine kV tk3 ?_;refine andN rfl trivial rfl rfl rfl rfl hA hB (by decide) (A:=A) (B:=B) ?_;refine kgtr ?_;refine zh ?_;exact zL rfl (.tmp rfl) (by rw[mt_pos])
theorem causes_f (p:Pq) (hp:sndB p=true) (V:View):Fnc Tryz.prog 152 [pqv p] V λr _=>r=stv (cbN p):=by
 have hs:=hp
 unfold sndB at hs;rw[decide_eq_true_eq]at hs;refine zG Tryz.func152 rfl Tryz.ntmps152 (Nat.le_of_ble_eq_true rfl) ?_;intro w0 hw0;refine zb (tT 0 [1,1]) ?_;refine qQ ?_;intro b1;refine zW z200 ?_;intro b2;refine xq (tT 0 [0,0,0,0,0,0,0,0,1,1,2]) ?_;refine zw fo123_0 ?_;refine kV tk3 ?_;refine zw fo123_1 ?_;refine kV tk3 ?_;refine zM ?_;refine zw fo123_2 ?_;refine kV tk3 ?_;refine zM ?_;refine zy (bs34_3_0_1_2 _ _ _) ?_;intro q11 V11 hV11 hq11;refine zm rfl rfl ok156 (setOf_f (caL p) (caL_in hp) _ _ (Sl.lit hq11 rfl (by simp[caL]))) ?_;rintro _ rfl;refine zH qG ?_;refine AtT.dn ?_;exact zL rfl (.agg rfl qG zo.zg rfl) rfl
theorem list_f (A:Nat) (hA:A<9223372036854775808) (V:View):Fnc Tryz.prog 153 [stv A] V λr V'=>SlI V' r (qy A 15):=by
 refine zG Tryz.func153 rfl Tryz.ntmps153 (Nat.le_of_ble_eq_true rfl) ?_;intro w0 hw0;refine zb (tT 0 [1,0]) ?_;refine qQ ?_;intro b1;refine ax (tT 0 [0]) ?_;refine ax (tT 0 [0]) ?_;refine ze ?_;refine AtT.dn ?_;refine xu 3 1 ?_;refine xc (ι:=Nat×Option Addr×Nat) (KS:=λg=>[(1,.pointer (some ⟨b1,0,none⟩)),(3,.slice g.2.1 (qy A g.1).length g.2.2),(5,iv g.1)]) (OS:=λg=>[.row (.slice g.2.1 (qy A g.1).length g.2.2) 3 1 (qy A g.1).length (flat ei (qy A g.1)),.blk b1 (LC [iv A] 200)]) (VS:=λg V'=>Le V V'/\g.1<=15) (μ:=λg=>15-g.1) (0,none,0) ?_ ?_ ?_ ?_
 ·exact⟨rfl,rfl,rfl,trivial⟩
 ·exact Pt.zg
 ·exact⟨Le.refl _,Nat.zero_le _⟩
 ·rintro⟨k,ao,co⟩ V' ks' O' ⟨hVV,hkl⟩ hk hO hl2;dsimp only at hkl hk hO;subst hk hO;have hkn:=bitL_len A k;refine zb (tT 0 [0]) ?_;refine qc ?_;refine AtT.dn ?_;refine zI rfl (λhp=>?_) (λhp=>?_)
  ·have hsr:A >>> k<9223372036854775808:=Nat.lt_of_le_of_lt (by rw[Nat.shiftRight_eq_div_pow];exact Nat.div_le_self _ _) hA
   refine zb (tT 0 [0,0]) ?_;refine ze ?_;refine ax (tT 0 [0,0,0,0,0,0]) ?_;refine zw fo200_0 ?_;refine kV tk3 ?_;refine ze ?_;refine shrN rfl trivial rfl rfl rfl rfl (by omega) (by decide) (A:=A) (N:=k) ?_;refine andN rfl trivial rfl rfl rfl rfl hsr (by decide) (by decide) (A:=A >>> k) (B:=1) ?_;refine keqI ?_;refine AtT.dn ?_;refine zI rfl (λhc=>?_) (λhc=>?_)
   ·have hb:A.testBit k=true:=(bit_iff A k).1 hc
    have hn2:qy A (k+1)=qy A k++[(k:Int)]:=by simp only[qy,hb,if_true]
    refine zb (tT 0 [0,0,1,2,0]) ?_;refine ze ?_;refine ze ?_;refine zy (zR _) ?_;intro q16 V16 hV16 hq16;have g16:Le V V16:=by first | exact hV16 | exact Le.trans (by assumption) hV16
    first | refine jq Tryz.underlying34 rw3 ?_
    intro a17 c17;refine ax (tT 0 [0,0]) ?_;refine zM ?_;refine ze ?_;refine AtT.dn ?_;refine At.round (k+1,a17,c17) ?_ ?_ ?_ ?_
    ·show 15-(k+1)<15-k;omega
    ·exact⟨hVV.trans (by assumption),by dsimp only;omega⟩
    ·dsimp only;rw[hn2,List.length_append];exact⟨rfl,rfl,ivs (by omega),trivial⟩
    dsimp only;rw[hn2,zV,List.length_append]
    ·exact Pt.zg
   ·have hb:¬ A.testBit k=true:=λh=>hc ((bit_iff A k).2 h)
    have hn2:qy A (k+1)=qy A k:=by simp only[qy,if_neg hb]
    refine zb (tT 0 [0,0]) ?_;refine zM ?_;refine ze ?_;refine AtT.dn ?_;refine At.round (k+1,ao,co) ?_ ?_ ?_ ?_
    ·show 15-(k+1)<15-k;omega
    ·exact⟨hVV,by dsimp only;omega⟩
    ·dsimp only;rw[hn2];exact⟨rfl,rfl,ivs (by omega),trivial⟩
    dsimp only;rw[hn2]
    ·exact Pt.zg
  ·obtain rfl:k=15:=by omega
   refine zb (tT 0 [0,0]) ?_;refine ze ?_;refine zh ?_;refine xw Lw.jP rfl rfl zo.zg (λV4 hV4 hs4=>?_);exact zL rfl (.tmp rfl) hs4
end Go.Proofs.YtnffcfhdnjbdbaaGreatDoor
namespace Go.Bl
open Go.Gl Go.Lw
def flK (ts:List Tq):Nat->List Int
 | 0=>[]
 | k+1=>match ts[k]? with
  | some t=>if t.f=true then flK ts k++[(k:Int)]else flK ts k
  | none=>flK ts k
def lsK (no:Nat) (ts:List Tq):Nat->List Nat
 | 0=>[]
 | k+1=>match ts[k]? with
  | some t=>if t.f=true then lsK no ts k++[clrB (cbN t.p) no]else lsK no ts k
  | none=>lsK no ts k
def flL (ts:List Tq):List Int:=flK ts ts.length
def lsL (ts:List Tq):List Nat:=lsK (clA ts) ts ts.length
theorem flK_t {ts:List Tq} {k:Nat} {t:Tq} (h:ts[k]? = some t) (hf:t.f=true):flK ts (k+1)=flK ts k++[(k:Int)]:=by simp only[flK,h,hf,if_true]
theorem flK_f {ts:List Tq} {k:Nat} {t:Tq} (h:ts[k]? = some t) (hf:t.f=false):flK ts (k+1)=flK ts k:=by simp[flK,h,hf]
theorem lsK_t {no:Nat} {ts:List Tq} {k:Nat} {t:Tq} (h:ts[k]? = some t) (hf:t.f=true):lsK no ts (k+1)=lsK no ts k++[clrB (cbN t.p) no]:=by simp only[lsK,h,hf,if_true]
theorem lsK_f {no:Nat} {ts:List Tq} {k:Nat} {t:Tq} (h:ts[k]? = some t) (hf:t.f=false):lsK no ts (k+1)=lsK no ts k:=by simp[lsK,h,hf]
theorem fl_ls (no:Nat) (ts:List Tq):∀ k,(flK ts k).length=(lsK no ts k).length/\(flK ts k).length<=k
 | 0=>⟨rfl,Nat.le_refl _⟩
 | k+1=>by
  have ih:=fl_ls no ts k
  cases c:ts[k]? with
  | none=>simp only[flK,lsK,c];omega
  | some t=>
   cases d:t.f with
   | true=>rw[flK_t c d,lsK_t c d];simp;omega
   | false=>rw[flK_f c d,lsK_f c d];omega
def ixS (l:List Nat) (s:Nat):Option Nat:=l.findIdx? (· == s)
def ixI (o:Option Nat):Int:=match o with
 | some k=>(k:Int)
 | none=>-1
theorem fi_hit {α:Type} {p:α->Bool} {l:List α} {k:Nat} {x:α} (hx:l[k]? = some x) (hp:p x=true) (h:∀ (j:Nat) (y:α),j<k->l[j]? = some y->p y=false):l.findIdx? p=some k:=by rw[List.findIdx?_eq_some_iff_getElem];obtain⟨hk,rfl⟩:=List.getElem?_eq_some_iff.1 hx;exact⟨hk,hp,λj hj=>by rw[h j _ hj (List.getElem?_eq_getElem (by omega))];simp⟩
theorem fi_none {α:Type} {p:α->Bool} {l:List α} (h:∀ (j:Nat) (y:α),j<l.length->l[j]? = some y->p y=false):l.findIdx? p=none:=by rw[List.findIdx?_eq_none_iff];intro x hx;obtain⟨j,hj,rfl⟩:=List.getElem_of_mem hx;exact h j _ hj (List.getElem?_eq_getElem hj)
end Go.Bl
namespace Go.Proofs.YtnffcfhdnjbdbaaGreatDoor
open Go.Lw Go.Gl Go.Bl Go.RowKit
def BcV (V:View) (p:Addr) (ts:List Tq):Prop:=∃ a c a1 c1 a2 c2,Cells V p [.slice a ts.length c,iv (clA ts),.slice a1 (flL ts).length c1,.slice a2 (lsL ts).length c2]/\Sl V tqe 4 (.slice a ts.length c) ts/\SlI V (.slice a1 (flL ts).length c1) (flL ts)/\Sl V ste 1 (.slice a2 (lsL ts).length c2) (lsL ts)
theorem BcV.le {V V':View} {p:Addr} {ts:List Tq} (h:BcV V p ts) (hl:Le V V'):BcV V' p ts:=by obtain⟨a,c,a1,c1,a2,c2,h1,h2,h3,h4⟩:=h;exact⟨a,c,a1,c1,a2,c2,h1.le hl,h2.le hl,h3.le hl,h4.le hl⟩
theorem newBench_f (ts:List Tq) (ht:∀ t∈ts,sndB t.p=true) (h16:ts.length<=16) (V:View) (v:Value) (hs:Sl V tqe 4 v ts):Fnc Tryz.prog 257 [v] V λr V'=>∃ p,r=.pointer (some p)/\BcV V' p ts:=by
 obtain⟨a,c,rfl,h1,h2,_⟩:=id hs;clear h1 h2;have hcA:clA ts<32768:=clN_lt ht _;refine zG Tryz.func257 rfl Tryz.ntmps257 (Nat.le_of_ble_eq_true rfl) ?_;intro w0 hw0;refine zb (tT 0 [0]) ?_;refine ax (tT 0 [0,0,0,1,0]) ?_;refine ze ?_;refine qD (bd206_0 _ _ _) ?_;refine qD (bd209_0 _ _ _ _) ?_;refine qQ ?_;intro b11;refine ax (tT 0 [0,0,0,0,0,0,0]) ?_;refine ze ?_;refine jh ?_;refine zw fo209_0 ?_;refine zw fo206_0 ?_;refine kV tk119 ?_;refine zZ Tryz.underlying119 ?_;refine ze ?_;refine AtT.dn ?_;refine xc (ι:=Nat) (KS:=λk=>[(3,.pointer (some ⟨b11,0,none⟩)),(16,.slice a ts.length c),(17,iv ts.length),(18,iv k)]) (OS:=λk=>[.blk b11 (LC [.slice a ts.length c,iv (clN ts k),.slice none 0 0,.slice none 0 0] 209)]) (VS:=λk V'=>Le V V'/\k<=ts.length) (μ:=λk=>ts.length-k) 0 ?_ ?_ ?_ ?_
 ·exact⟨rfl,rfl,rfl,rfl,trivial⟩
 ·exact Pt.zg
 ·exact⟨Le.refl _,Nat.zero_le _⟩
 ·rintro k V' ks' O' ⟨hVV,hkl⟩ hk hO hl2;subst hk hO;replace hs:=hs.le hVV;have hcl:=clN_lt ht k;refine zb (tT 0 [0]) ?_;refine qc ?_;refine AtT.dn ?_;refine zI rfl (λhp=>?_) (λhp=>?_)
  ·obtain⟨x,hx⟩:∃ x,ts[k]? = some x:=⟨_,List.getElem?_eq_getElem (by omega)⟩;have hxs:=ht x (List.mem_of_getElem? hx);have hnx:=clN_at hx;have hcb:=cbN_lt hxs;refine zb (tT 0 [0,0,1,2]) ?_;refine kZ Tryz.underlying119 tk196 ?_;intro p20 e20 he20 hc20;obtain rfl:e20=x:=by have:ts[k]? = some e20:=(by simpa using he20);rw[hx]at this;simpa using this.symm
   refine qo tk196 ?_;refine zW z196 ?_;intro b5;refine zH tk196 ?_;refine xq (tT 0 [0,0,0]) ?_;refine zw fo196_1 ?_;refine kV tk4 ?_;refine xn ?_;refine AtT.dn ?_;cases hf:e20.f with
   | true=>
    rw[hf,if_neg (by simp)]at hnx;refine zS rfl rfl ?_;refine zb (tT 0 [0,0]) ?_;refine zM ?_;refine ze ?_;refine AtT.dn ?_;refine At.round (k+1) ?_ ?_ ?_ ?_
    ·show ts.length-(k+1)<ts.length-k;omega
    ·exact⟨hVV,by omega⟩
    ·exact⟨rfl,rfl,rfl,ivs (by omega),trivial⟩
    rw[hnx]
    ·exact Pt.zg
   | false=>
    rw[hf,if_pos rfl]at hnx;refine ql rfl rfl ?_;refine nrm ?_;refine cutG (ι:=Unit) (λ_=>[(3,.pointer (some ⟨b11,0,none⟩)),(16,.slice a ts.length c),(17,iv ts.length),(18,iv k)]) (λ_=>[.blk b11 (LC [.slice a ts.length c,iv ((clN ts k ||| cbN e20.p:Nat):Int),.slice none 0 0,.slice none 0 0] 209)]) (λ_ V''=>V''=V') ?_ ?_
    ·refine xm (tT 0 [0,0,0,0,0,0,0,0,0,1,0,0,0,0,0,0,2]) ffm (by kernel_rfl) ?_;refine ze ?_;refine ze ?_;refine jh ?_;refine zw fo209_0 ?_;refine zw fo206_1 ?_;refine zw fo200_0 ?_;refine kV tk3 ?_;refine zw fo196_0 ?_;refine qo tk123 ?_;refine zm rfl rfl ok152 (causes_f e20.p hxs _) ?_;rintro _ rfl;refine kfld (fl200_0 _) ?_;refine orN rfl trivial rfl rfl rfl rfl (by omega) (by omega) (by decide) (A:=clN ts k) (B:=cbN e20.p) ?_;refine qD (bd200_0 _) ?_;refine jh ?_;refine zw fo209_0 ?_;refine zw fo206_1 ?_;refine AtT.store rfl trivial rfl rfl qG rfl rfl (Nat.le_of_ble_eq_true rfl) rfl rfl (by repeat first|exact Upd.here|apply Upd.there) ?_;refine AtT.dn ?_;all_goals (exact qH () rfl ⟨rfl,rfl,rfl,rfl,trivial⟩ Pt.zg)
    rintro _ V'' ks' O' rfl hk hO hl3;subst hk hO;refine zb (tT 0 [0,0]) ?_;refine zM ?_;refine ze ?_;refine AtT.dn ?_;refine At.round (k+1) ?_ ?_ ?_ ?_
    ·show ts.length-(k+1)<ts.length-k;omega
    ·exact⟨hVV,by omega⟩
    ·exact⟨rfl,rfl,rfl,ivs (by omega),trivial⟩
    rw[hnx]
    ·exact Pt.zg
  ·obtain rfl:k=ts.length:=by omega
   refine zb (tT 0 [0,0,0,0,0,0,0]) ?_;refine ze ?_;refine jh ?_;refine zw fo209_0 ?_;refine zw fo206_0 ?_;refine kV tk119 ?_;refine zZ Tryz.underlying119 ?_;refine ze ?_;refine AtT.dn ?_;refine xu 3 1 ?_;refine xu 200 1 ?_;refine xc (ι:=Nat×(Option Addr×Nat)×Option Addr×Nat) (KS:=λg=>[(3,.pointer (some ⟨b11,0,none⟩)),(46,.slice a ts.length c),(47,iv ts.length),(48,iv g.1)])
    (OS:=λg=>[.blk b11 (LC [.slice a ts.length c,iv (clA ts),.slice g.2.1.1 (flK ts g.1).length g.2.1.2,.slice g.2.2.1 (lsK (clA ts) ts g.1).length g.2.2.2] 209),.row (.slice g.2.1.1 (flK ts g.1).length g.2.1.2) 3 1 (flK ts g.1).length (flat ei (flK ts g.1)),.row (.slice g.2.2.1 (lsK (clA ts) ts g.1).length g.2.2.2) 200 1 (lsK (clA ts) ts g.1).length (flat ste (lsK (clA ts) ts g.1))])
    (VS:=λg V''=>Le V' V''/\g.1<=ts.length) (μ:=λg=>ts.length-g.1) (0,(none,0),none,0) ?_ ?_ ?_ ?_
   ·exact⟨rfl,rfl,rfl,rfl,trivial⟩
   ·exact Pt.zg
   ·exact⟨Le.refl _,Nat.zero_le _⟩
   rintro⟨k,⟨a1,c1⟩,a2,c2⟩ V2 ks' O' ⟨hV2,hkl⟩ hk hO hl3;dsimp only at hkl hk hO;subst hk hO;have hs2:=hs.le hV2;have hVV2:=hVV.trans hV2;have hfl:=fl_ls (clA ts) ts k;refine zb (tT 0 [0]) ?_;refine qc ?_;refine AtT.dn ?_;refine zI rfl (λhp=>?_) (λhp=>?_);rotate_left
   ·obtain rfl:k=ts.length:=by omega
    refine zb (tT 0 [0,0]) ?_;refine ze ?_;refine zh ?_;refine xw (l:=flL ts) Lw.jP rfl rfl zo.zg (λV4 hV4 hs4=>?_);refine xw (l:=lsL ts) ste_len rfl rfl zo.zg (λV5 hV5 hs5=>?_);refine jN (b:=b11) zo.zg (λV6 hV6 hb6=>?_);exact zL rfl (.tmp rfl) ⟨_,rfl,a,c,a1,c1,a2,c2,zQ hb6,((hs2.le hV4).le hV5).le hV6,(hs4.le hV5).le hV6,hs5.le hV6⟩
   obtain⟨x,hx⟩:∃ x,ts[k]? = some x:=⟨_,List.getElem?_eq_getElem (by omega)⟩;have hxs:=ht x (List.mem_of_getElem? hx);have hcb:=cbN_lt hxs;refine zb (tT 0 [0,0,0,1,0,2]) ?_;refine ze ?_;refine kZ Tryz.underlying119 tk196 ?_;intro p51 e51 he51 hc51;obtain rfl:e51=x:=by have:ts[k]? = some e51:=(by simpa using he51);rw[hx]at this;simpa using this.symm
   refine qo tk196 ?_;refine zW z196 ?_;intro b7;refine zu ?_;refine zH tk196 ?_;refine xq (tT 0 [0,0]) ?_;refine zw fo196_1 ?_;refine kV tk4 ?_;refine AtT.dn ?_;cases hf:e51.f with
   | false=>
    have e1:=flK_f hx hf
    have e2:=lsK_f (no:=clA ts) hx hf
    refine zS rfl rfl ?_;refine zb (tT 0 [0,0]) ?_;refine zM ?_;refine ze ?_;refine AtT.dn ?_;refine At.round (k+1,(a1,c1),a2,c2) ?_ ?_ ?_ ?_
    ·show ts.length-(k+1)<ts.length-k;omega
    ·exact⟨hV2,by dsimp only;omega⟩
    ·exact⟨rfl,rfl,rfl,ivs (by dsimp only;omega),trivial⟩
    dsimp only;rw[e1,e2]
    ·exact Pt.zg
   | true=>
    have e1:=flK_t hx hf
    have e2:=lsK_t (no:=clA ts) hx hf
    refine ql rfl rfl ?_;refine zb (tT 0 [0,0,0,0,0,0,1,2,0,0,2]) ?_;refine ze ?_;refine ze ?_;refine jh ?_;refine zw fo209_1 ?_;refine kV qp ?_;refine ze ?_;refine zy (zR _) ?_;intro q61 V61 hV61 hq61;have g61:Le V V61:=by first | exact hV61 | exact Le.trans (by assumption) hV61
    first | refine jq Tryz.underlying34 rw3 ?_
    intro a62 c62;refine jh ?_;refine zw fo209_1 ?_;first | refine qK qp ?_ | refine zH qp ?_
    refine AtT.dn ?_;refine cutG (ι:=Option Addr×Nat) (λ_=>[(3,.pointer (some ⟨b11,0,none⟩)),(46,.slice a ts.length c),(47,iv ts.length),(48,iv k)])
     (λg=>[.blk b11 (LC [.slice a ts.length c,iv (clA ts),.slice a62 ((flK ts k).length+1) c62,.slice g.1 ((lsK (clA ts) ts k).length+1) g.2] 209),.row (.slice a62 ((flK ts k).length+1) c62) 3 1 ((flK ts k).length+1) (flat ei (flK ts k)++flat ei [(k:Int)]),.row (.slice g.1 ((lsK (clA ts) ts k).length+1) g.2) 200 1 ((lsK (clA ts) ts k).length+1) (flat ste (lsK (clA ts) ts k)++flat ste [clrB (cbN e51.p) (clA ts)])])
     (λ_ V''=>Le V2 V'') ?_ ?_
    ·refine drawC [.blk b11 (LC [.slice a ts.length c,iv (clA ts),.slice a62 ((flK ts k).length+1) c62,.slice a2 (lsK (clA ts) ts k).length c2] 209),.blk b7 (LC (tqe e51) 196)] (.q 0 (.q 1 (.q 2 (.q 3 (.q 4 (.q 5 (.q 6 (.q 9 (.q 10 (.q 11 (.q 12 (.q 13 (.q 14 (.n false 7 (.q 8 (.q 15 (.q 16 (.n false 17 (.n false 18 (.q 19 (.q 20 (.n true 21 .done)))))))))))))))))))))) ffm (by kernel_rfl) Pt.zg ?_;refine AtC.pre (λhle0=>?_);refine xg (by(refine ze ?_);exact xe) ?_;refine xg (by(refine ze ?_);exact xe) ?_;refine xg (by(refine jh ?_);exact xe) ?_;refine xg (by(refine zw fo209_2 ?_);exact xe) ?_;refine xg (by(refine kV tk207 ?_);exact xe) ?_;refine xg (by(refine zw fo196_0 ?_);exact xe) ?_;refine xg (by(refine qo tk123 ?_);exact xe) ?_;refine xg (by(refine ze ?_);exact xe) ?_;refine xg (by(refine jh ?_);exact xe) ?_;refine xg (by(refine zw fo209_0 ?_);exact xe) ?_;refine xg (by(refine zw fo206_1 ?_);exact xe) ?_;refine xg (by(refine zw fo200_0 ?_);exact xe) ?_;refine xg (by(refine kV tk3 ?_);exact xe) ?_;refine nz ?_;refine zm rfl rfl ok152 (causes_f e51.p hxs _) ?_;rintro _ rfl;refine kgo ?_;refine xg (by(refine kfld (fl200_0 _) ?_);exact xe) ?_;refine xg (by(refine clrN rfl trivial rfl rfl rfl rfl (by omega) (by omega) (by decide) (A:=cbN e51.p) (B:=clA ts) ?_);exact xe) ?_;refine xg (by(refine qD (bd200_0 _) ?_);exact xe) ?_;refine nz ?_;refine zy (bs207_1_0 _) ?_;intro q82 V82 hV82 hq82;have g82:Le V V82:=by first | exact hV82 | exact Le.trans (by assumption) hV82
     refine kgo ?_;refine nz ?_;first | refine jq Tryz.underlying207 rw200 ?_
     intro a83 c83;refine kgo ?_;refine xg (by(refine jh ?_);exact xe) ?_;refine xg (by(refine zw fo209_2 ?_);exact xe) ?_;refine toT ?_;first | refine qK tk207 ?_ | refine zH tk207 ?_
     refine AtT.dn ?_;all_goals (exact qH (a83,c83) (by first | exact Le.refl _ | assumption | exact Le.trans (by assumption) (by assumption)) ⟨rfl,rfl,rfl,rfl,trivial⟩ Pt.zg)
    rintro⟨a83,c83⟩ V3 ks' O' hV3 hk hO hl4;dsimp only at hk hO;subst hk hO;refine zb (tT 0 [0,0]) ?_;refine zM ?_;refine ze ?_;refine AtT.dn ?_;refine At.round (k+1,(a62,c62),a83,c83) ?_ ?_ ?_ ?_
    ·show ts.length-(k+1)<ts.length-k;omega
    ·exact⟨hV2.trans hV3,by dsimp only;omega⟩
    ·exact⟨rfl,rfl,rfl,ivs (by dsimp only;omega),trivial⟩
    dsimp only;rw[e1,e2,zV,zV,List.length_append,List.length_append]
    ·exact Pt.zg
theorem open_bad (ts:List Tq) (h:trE ts≠0) (V:View) (v:Value) (hs:Sl V tqe 4 v ts):Fnc Tryz.prog 154 [v] V λr _=>r=.tuple #[.pointer none,iv (trE ts)]:=by refine zG Tryz.func154 rfl Tryz.ntmps154 (Nat.le_of_ble_eq_true rfl) ?_;intro w0 hw0;refine zb (tT 0 [0,0]) ?_;refine zu ?_;refine ax (tT 0 [0,1,0]) ?_;refine ze ?_;refine zm rfl rfl ok164 (trials_f ts _ _ hs) ?_;rintro _ rfl;refine ax (tT 0 [0,0]) ?_;refine ze ?_;refine kJ ?_;refine AtT.dn ?_;refine ql rfl (decide_eq_true h) ?_;refine zb (tT 0 [0,0,0]) ?_;refine ze ?_;refine zu ?_;refine zh ?_;exact ret2 rfl (.tmp rfl) (.tmp rfl) rfl
theorem open_ok (ts:List Tq) (h:trE ts=0) (V:View) (v:Value) (hs:Sl V tqe 4 v ts):Fnc Tryz.prog 154 [v] V λr V'=>∃ p,r=.tuple #[.pointer (some p),iv 0]/\BcV V' p ts:=by obtain⟨h16,ht⟩:=trE_ok h;refine zG Tryz.func154 rfl Tryz.ntmps154 (Nat.le_of_ble_eq_true rfl) ?_;intro w0 hw0;refine zb (tT 0 [0,0]) ?_;refine zu ?_;refine ax (tT 0 [0,1,0]) ?_;refine ze ?_;refine zm rfl rfl ok164 (trials_f ts _ _ hs) ?_;rintro _ rfl;rw[h];refine ax (tT 0 [0,0]) ?_;refine ze ?_;refine kJ ?_;refine AtT.dn ?_;refine zS rfl (decide_eq_false (by simp)) ?_;refine zb (tT 0 [0,1,0,0]) ?_;refine ze ?_;refine kK rfl rfl ok257 (newBench_f ts ht h16 _ _ hs) ?_;rintro _ V11 hV11 ⟨p,rfl,hb⟩;refine zu ?_;refine zh ?_;exact ret2 rfl (.tmp rfl) (.tmp rfl) ⟨p,rfl,hb⟩
end Go.Proofs.YtnffcfhdnjbdbaaGreatDoor
namespace Go.Proofs.YtnffcfhdnjbdbaaGreatDoor
open Go.Lw Go.Gl Go.Bl Go.RowKit Go.Sort
theorem swo:SWO (ltOf cfS):=by
 have key:∀ x y,ltOf cfS x y=decide (rvI (IntKind.u64.wrap (y:Int))<rvI (IntKind.u64.wrap (x:Int))):=λx y=>by
  unfold ltOf cfS cpI;rw[decide_eq_decide];split
  ·simp[*]
  ·split
   ·simp;omega
   ·simp;omega
 refine⟨λx=>?_,λx y z h1 h2=>?_,λx y z h1 h2=>?_⟩
 ·rw[key];simp
 ·rw[key]at *;simp at *;omega
 ·rw[key]at *;simp at *;omega
theorem flat_ste:∀ l:List Nat,flat ste l=l.map λ(s:Nat)=>iv (s:Int)
 | []=>rfl
 | x::l=>by
  have:=flat_ste l
  simp only[flat]at this⊢;simp[this]
theorem flatK_ste (d:Array Nat):flatK ste 1 d=(flat ste d.toList).toArray:=by
 rw[flat_ste];apply Array.ext
 ·simp[flatK]
 ·intro t h1 h2;simp only[flatK,Array.size_map,Array.size_range,Nat.mul_one]at h1;simp only[flatK,Array.getElem_map,Array.getElem_range,Nat.div_one,Nat.mod_one,List.getElem_toArray,List.getElem_map,Array.getElem_toList];rw[getElem!_pos d t h1];rfl
def SrtL (l:List Nat):Prop:=∀ (i j:Nat) (x y:Nat),i<j->l[i]? = some x->l[j]? = some y->ltOf cfS y x=false
theorem sort_f (l:List Nat) (rest:List Value) (b cap:Nat) (w:World) (hb:w.heap[b]? = some (LC (flat ste l++rest) 200)) (hl:l.length<4611686018427387904) :
  Calls Tryz.prog 338 #[.slice (some ⟨b,0,none⟩) l.length cap,.func (.func 339) #[] #[]] w λe w'=>e=.returned (.tuple #[])/\∃ l':List Nat,l'.Perm l/\SrtL l'/\w'.os=w.os/\w'.tape=w.tape/\w'.output=w.output/\w.heap.size<=w'.heap.size/\(∀ k,k<w.heap.size->k≠b->w'.heap[k]? = w.heap[k]?)/\w'.heap[b]? = some (LC (flat ste l'++rest) 200):=by
 have hbs:b<w.heap.size:=(Array.getElem?_eq_some_iff.1 hb).1
 have eg:∀ args w,(callFunc 339 args).run Tryz.prog w=.ok (.enter 339 args) w:=enters_of Tryz.func339 (by kernel_rfl) rfl
 have hH:HoldsK ste 1 w b 0 l.toArray:=by
  unfold HoldsK Holds;rw[flatK_ste];intro j hj;rw[List.size_toArray]at hj;have hlen:(flat ste l).length=l.length*1:=zU ste_len l;refine⟨?_,?_⟩
  ·rw[Nat.zero_add,qP hb,List.getElem?_append_left hj,getElem!_pos _ _ (by simpa using hj)];simp
  ·simp[World.frozen?,hb,LC]
 have hcon:=AnyQ.slices_SortFunc srt 1 Tryz.isAgg200 Tryz.sizeOf200 ste (λ_=>rfl) (λx v hv=>by simp at hv;subst hv;rfl) cfS swo 339 #[] b 0 cap l.toArray w eg (λ_ _ _ _ x y=>closure101 x y _) hH hbs (by simpa using hl)
 refine hcon.mono λe w' ⟨he,d',n,os,hp,hs,hw⟩=>?_;obtain⟨hp1,_,hp3⟩:=hp;have hsz:d'.size=l.length:=by rw[hp1];simp
 have hpl:d'.toList.Perm l:=by
  have e1:(d'.extract 0 l.toArray.size)=d':=by rw[<-hp1,Array.extract_size]
  have e2:(l.toArray.extract 0 l.toArray.size)=l.toArray:=Array.extract_size
  rw[e1,e2]at hp3;exact hp3
 have hbw:b<w'.heap.size/\True:=by subst hw;refine⟨?_,trivial⟩;show b<((w.heap.modify b _)++os).size;simp;omega
 refine⟨he,d'.toList,hpl,λi j x y hij hx hy=>?_,?_,?_,?_,?_,λk hk hkb=>?_,?_⟩
 ·obtain⟨hi',rfl⟩:=List.getElem?_eq_some_iff.1 hx;obtain⟨hj',rfl⟩:=List.getElem?_eq_some_iff.1 hy;rw[Array.length_toList]at hi' hj';have:=hs i j (Nat.zero_le _) hij (by simp;omega);rw[getElem!_pos d' i hi',getElem!_pos d' j hj']at this;exact this
 ·subst hw;rfl
 ·subst hw;rfl
 ·subst hw;rfl
 ·subst hw;show w.heap.size<=((w.heap.modify b _)++os).size;simp
 ·subst hw;show((w.heap.modify b _)++os)[k]? = _;rw[Array.getElem?_append_left (by simpa using hk),Array.getElem?_modify,if_neg (λh=>hkb h.symm)]
 ·subst hw;show((w.heap.modify b _)++os)[b]? = _;rw[Array.getElem?_append_left (by simpa using hbs),Array.getElem?_modify,if_pos rfl,hb,flatK_ste];simp only[Option.map_some,onCells,LC];congr 2;have hf1:=zU ste_len d'.toList;have hf2:=zU ste_len l;have hll:d'.toList.length=l.length:=by simpa using hsz
  apply Array.ext
  ·simp[putCells];omega
  ·intro t h1 h2;simp only[putCells,Array.size_mapIdx,List.size_toArray]at h1;simp only[putCells,Array.getElem_mapIdx,Nat.zero_le,true_and,Nat.zero_add,List.size_toArray,Nat.sub_zero,id];by_cases c:t<(flat ste d'.toList).length
   ·rw[if_pos c,getElem!_pos _ _ (by simpa using c)];simp only[List.getElem_toArray];rw[List.getElem_append_left c]
   ·rw[if_neg c];simp only[List.getElem_toArray];rw[List.getElem_append_right (by omega),List.getElem_append_right (by omega)];congr 1;omega
theorem key72:KeyL Tryz.prog 200 (λs:Nat=>stv s) where
 eq a b w:=by
  have h:=(eqS200 (a:Int) (b:Int)).2 w
  have e:decide ((a:Int)=(b:Int))=decide (a=b):=by rw[decide_eq_decide];omega
  rw[e]at h;exact h
 ck e a w:=by
  have u3:=Tryz.underlying3
  have a3:=Tryz.isAgg3
  have z3:=Tryz.sizeOf3
  have ci:∀ (x:Int) (w:World),(Instr.checkKey e 9999 3 (.int .i64 x)).run Tryz.prog w=.ok () w:=λx w=>by rw[show(9999:Nat)=9998+1 from rfl,Instr.checkKey];simp[run_underlying u3,Sem.run_bind,Result.andThen_ok,Sem.run_pure]
  rw[show(10000:Nat)=9999+1 from rfl,Instr.checkKey];simp only[Sem.run_bind,run_underlying Tryz.underlying200,Result.andThen_ok];rw[<-Array.forIn_toList];simp only[List.forIn_cons,List.forIn_nil,Sem.run_bind,Sem.run_pure,Result.andThen_ok];generalize (9999:Nat)=q at ci⊢
  go_simp
 sb a:=by simp[Instr.sameBits]
 now:=⟨_,Tryz.underlying200,.inl λa b=>rfl⟩
theorem sortS {cx:Cx} {n:Nat} {ks:List (Nat×Value)} {O R:List Lw.Own} {V:View} {ops:Array Oper} {Qn:Act->World->Prop} {t:Tr} {i d:Nat} {T:TypeId} {pos:String} {after:Array Edge} {gd:Option (Nat×Bool)} {x y:Operand} {ts:Array TypeId} {b cap:Nat} {l:List Nat} {rest:List Value}
  (ho:ops[i]? = some ⟨some d,.call ⟨.value (.func 338),#[x,y],ts⟩,T,pos,after,gd⟩) (hg:Gd ks ops gd) (hx:ev ks x=some (.slice (some ⟨b,0,none⟩) l.length cap)) (hy:ev ks y=some (.func (.func 339) #[] #[])) (hl:l.length<4611686018427387904) (hp:zo (.blk b (LC (flat ste l++rest) 200)) O R) (hn:d<n)
  (next:∀ l':List Nat,l'.Perm l->SrtL l'->AtT cx n ((d,.tuple #[])::ks) (.blk b (LC (flat ste l'++rest) 200)::R) V Tryz.prog ops Qn t):AtT cx n ks O V Tryz.prog ops Qn (.n true i t):=
 .x ho hg λa w hk hm=>by
  have hm1:=hm.pick hp
  have e:(#[x,y]:Array Operand).map a.eval=#[.slice (some ⟨b,0,none⟩) l.length cap,.func (.func 339) #[] #[]]:=by simp[hk.ev hx,hk.ev hy]
  have e2:a.eval (.func 338)=.func (.func 338) #[] #[]:=rfl
  simp only[opW,execOp,resolve,e,e2,Deferred.ofValue,Sem.run_bind,Sem.run_pure,Result.andThen_ok,invoke,Array.empty_append,Array.append_empty];rw[ok338 _ w];refine(sort_f l rest b cap w hm1.blk hl).mono λe w' ⟨h0,l',h1,h2,h3,h4,h5,h6,h7,h8⟩=>?_;subst h0;have hm2:=hm1.set (w':=w') ⟨h3,h4,h5,h6,λk hk hne=>h7 k hk (λe=>hne (by rw[e]))⟩ h8;exact⟨_,_,V,hk.put hn _,hm2,λh=>(by cases h),next l' h1 h2⟩
end Go.Proofs.YtnffcfhdnjbdbaaGreatDoor
namespace Go.Bl
open Go.Gl Go.Lw
def cntK (A:Nat) (n:Nat):Nat:=(qy A n).length
def cnt (A:Nat):Nat:=cntK A 15
theorem cntK_succ (A n:Nat):cntK A (n+1)=cntK A n+(if A.testBit n=true then 1 else 0):=by unfold cntK;simp only[qy];split<;>simp
theorem cntK_or {A i:Nat} (hi:A.testBit i=false):∀ n,cntK (A ||| 2 ^ i) n=cntK A n+(if i<n then 1 else 0)
 | 0=>by simp[cntK,qy]
 | n+1=>by
  rw[cntK_succ,cntK_succ,cntK_or hi n,Nat.testBit_or,Nat.testBit_two_pow];by_cases c:i=n
  ·subst c;simp[hi]
  ·by_cases d:i<n
   ·have:¬ i=n:=c
    simp[d,this,show i<n+1 by omega];split<;>omega
   ·have:¬ i<n+1:=by omega
    simp[d,c,this]
theorem cnt_or {A i:Nat} (hi:A.testBit i=false) (h:i<15):cnt (A ||| 2 ^ i)=cnt A+1:=by unfold cnt;rw[cntK_or hi,if_pos h]
theorem cntK_le (A:Nat):∀ n,cntK A n<=n
 | 0=>by simp[cntK,qy]
 | n+1=>by rw[cntK_succ];have:=cntK_le A n;split<;>omega
theorem cnt_zero:cnt 0=0:=by decide
theorem mtB_iff (A B:Nat):mtB A B=true↔∃ i,A.testBit i=true/\B.testBit i=true:=by
 unfold mtB;rw[decide_eq_true_eq];constructor
 ·intro h;obtain⟨i,hi⟩:=Nat.exists_testBit_of_ne_zero h;rw[Nat.testBit_and,Bool.and_eq_true]at hi;exact⟨i,hi⟩
 ·rintro⟨i,h1,h2⟩ h;have:(A &&& B).testBit i=true:=by rw[Nat.testBit_and,h1,h2];rfl
  rw[h]at this;simp at this
theorem mtB_no {A B i:Nat} (h:mtB A B=false) (hi:A.testBit i=true):B.testBit i=false:=by
 cases c:B.testBit i with
 | false=>rfl
 | true=>rw[(mtB_iff A B).2 ⟨i,hi,c⟩]at h;cases h
def Stp (t s x:Nat):Prop:=(mtB t s=true/\x=s)\/(mtB t s=false/\∃ i,i<15/\t.testBit i=true/\x=s ||| 2 ^ i)
def GsK (ls:List Nat):Nat->Nat->Prop
 | 0,x=>x=0
 | k+1,x=>∃ s,GsK ls k s/\Stp (ls.getD k 0) s x
structure MI (M:MM Nat Int) (c:Nat):Prop where
 born:∀ e∈M,e.2.2<c
 nodB:(M.map (·.2.2)).Nodup
 nodK:(M.map (·.1)).Nodup
 val:∀ e∈M,e.2.1=(cnt e.1:Int)
 lt:∀ e∈M,e.1<32768
theorem mi_nil:MI [] 0:=⟨λe h=>(by cases h),List.nodup_nil,List.nodup_nil,λe h=>(by cases h),λe h=>(by cases h)⟩
theorem mi_ins {M:MM Nat Int} {c a:Nat} (h:MI M c) (ha:a<32768):MI (mIns a (cnt a:Int) M c).1 (mIns a (cnt a:Int) M c).2:=by
 unfold mIns;split
 ·exact h
 ·rename_i hn;have hno:∀ e∈M,e.1≠a:=λe he e1=>hn ((jg a M).2 ⟨e,he,e1⟩);refine⟨λe he=>?_,?_,?_,λe he=>?_,λe he=>?_⟩
  ·rcases List.mem_append.1 he with he | he
   ·have:=h.born e he;omega
   ·rw[List.mem_singleton]at he;subst he;simp
  ·rw[List.map_append];refine List.nodup_append.2 ⟨h.nodB,by simp,λx hx y hy=>?_⟩;obtain⟨e,he,rfl⟩:=List.mem_map.1 hx;simp at hy;subst hy;have:=h.born e he;omega
  ·rw[List.map_append];refine List.nodup_append.2 ⟨h.nodK,by simp,λx hx y hy=>?_⟩;obtain⟨e,he,rfl⟩:=List.mem_map.1 hx;simp at hy;subst hy;exact hno e he
  ·rcases List.mem_append.1 he with he | he
   ·exact h.val e he
   ·rw[List.mem_singleton]at he;subst he;rfl
  ·rcases List.mem_append.1 he with he | he
   ·exact h.lt e he
   ·rw[List.mem_singleton]at he;subst he;exact ha
theorem mi_has {M:MM Nat Int} {c a x:Nat} {v:Int} : kI x (mIns a v M c).1=true↔kI x M=true\/x=a:=by
 unfold mIns;split
 ·rename_i h;constructor
  ·exact .inl
  ·rintro(h1 | rfl)
   ·exact h1
   ·exact h
 ·rw[jg,jg];constructor
  ·rintro⟨e,he,rfl⟩;rcases List.mem_append.1 he with he | he
   ·exact .inl ⟨e,he,rfl⟩
   ·rw[List.mem_singleton]at he;subst he;exact .inr rfl
  ·rintro(⟨e,he,rfl⟩ | rfl)
   ·exact⟨e,List.mem_append_left _ he,rfl⟩
   ·exact⟨(x,v,c),by simp,rfl⟩
structure SmS (ls:List Nat) (srt:List Nat->Prop) (l:List Nat):Prop where
 nod:l.Nodup
 srt:srt l
 mem:∀ x,x∈l↔GsK ls ls.length x/\∀ y,GsK ls ls.length y->cnt x<=cnt y
theorem or_lt15 {s i:Nat} (hs:s<32768) (hi:i<15):s ||| 2 ^ i<32768:=Nat.or_lt_two_pow (n:=15) hs (Nat.pow_lt_pow_right (by decide) hi)
theorem gsK_lt {ls:List Nat} : ∀ {k x:Nat},GsK ls k x->x<32768
 | 0,x,h=>by rw[h];decide
 | k+1,x,⟨s,h1,h2⟩=>by
  have:=gsK_lt h1
  rcases h2 with ⟨_,rfl⟩ | ⟨_,i,hi,_,rfl⟩
  ·exact this
  ·exact or_lt15 this hi
theorem gsK_ex {ls:List Nat} (h:∀ s∈ls,s≠0/\s<32768):∀ k,k<=ls.length->∃ x,GsK ls k x
 | 0,_=>⟨0,rfl⟩
 | k+1,hk=>by
  obtain⟨s,hs⟩:=gsK_ex h k (by omega);have ht:=h (ls.getD k 0) (by simp only[List.getD,List.getElem?_eq_getElem (show k<ls.length by omega)];exact List.getElem_mem _);cases c:mtB (ls.getD k 0) s with
  | true=>exact⟨s,s,hs,.inl ⟨c,rfl⟩⟩
  | false=>
   obtain⟨i,hi⟩:=Nat.exists_testBit_of_ne_zero ht.1;have hi15:i<15:=by apply Classical.byContradiction;intro hc;rw[Nat.testBit_lt_two_pow (Nat.lt_of_lt_of_le (show ls.getD k 0<2 ^ 15 by omega) (Nat.pow_le_pow_right (by decide) (by omega)))]at hi;cases hi
   exact⟨s ||| 2 ^ i,s,hs,.inr ⟨c,i,hi15,hi,rfl⟩⟩
theorem pigeonN:∀ {n:Nat} {l:List Nat},l.Nodup->(∀ x∈l,x<n)->l.length<=n
 | 0,l,_,h=>by
  cases l with
  | nil=>simp
  | cons x l=>have:=h x List.mem_cons_self;omega
 | n+1,l,hd,h=>by
  have h1:=pigeonN (n:=n) (l:=l.erase n) (hd.sublist List.erase_sublist) (λx hx=>by
   have:=h x (List.mem_of_mem_erase hx)
   have:x≠n:=λe=>by subst e;exact(List.Nodup.not_mem_erase hd) hx
   omega)
  by_cases c:n∈l
  ·have:=List.length_erase_of_mem c;omega
  ·rw[List.erase_of_not_mem c]at h1;omega
theorem mi_len {M:MM Nat Int} {c:Nat} (h:MI M c):M.length<=32768:=by
 have:=pigeonN (n:=32768) h.nodK λx hx=>by obtain⟨e,he,rfl⟩:=List.mem_map.1 hx;exact h.lt e he
 rw[List.length_map]at this;exact this
theorem seen_push {M:MM Nat Int} {seen:Array Nat} {e:Nat×Int×Nat} (hn:(M.map (·.2.2)).Nodup) (he:e∈M) {e':Nat×Int×Nat} (he':e'∈M):e'.2.2∈seen.push e.2.2↔e'.2.2∈seen\/e'=e:=by
 rw[Array.mem_push];constructor
 ·rintro(h | h)
  ·exact .inl h
  ·exact .inr (inj_of (λe:Nat×Int×Nat=>e.2.2) hn he' he h)
 ·rintro(h | rfl)
  ·exact .inl h
  ·exact .inr rfl
end Go.Bl
namespace Go.Proofs.YtnffcfhdnjbdbaaGreatDoor
open Go.Lw Go.Gl Go.Bl Go.RowKit
theorem min_f (l:List Int) (hl:l≠[]) (V:View) (v:Value) (hs:SlI V v l):Fnc Tryz.prog 120 [v] V λr _=>∃ m,r=iv m/\m∈l/\∀ x∈l,m<=x:=by
 have hlen:=hs.jC
 have hpos:0<l.length:=List.length_pos_iff.2 hl
 obtain⟨a,c,rfl,k1,k2,_⟩:=id hs;clear k1 k2;refine zG Tryz.func120 rfl Tryz.ntmps120 (Nat.le_of_ble_eq_true rfl) ?_;intro w0 hw0;refine zb (tT 0 [0]) ?_;refine ax (tT 0 [0,0,0]) ?_;refine ze ?_;refine zZ Tryz.underlying34 ?_;refine qc ?_;refine AtT.dn ?_;refine zS rfl (decide_eq_false (by omega)) ?_;refine zb (tT 0 [0,0,0,0]) ?_;refine ze ?_;refine kZ Tryz.underlying34 tk3 ?_;intro p10 e10 he10 hc10;refine kV tk3 ?_;refine zh ?_;have hm0:e10∈l:=List.mem_of_getElem? he10;have h0:l[0]? = some e10:=by simpa using he10
 refine zP (tT 0 [0]) ?_;refine zh ?_;refine xc (ι:=Nat×Int) (KS:=λg=>[(0,.slice a l.length c),(3,iv g.2),(4,iv g.1)]) (OS:=λ_=>[]) (VS:=λg V'=>V'=V/\g.1<=l.length/\g.2∈l/\∀ (j:Nat) (x:Int),j<g.1->l[j]? = some x->g.2<=x) (μ:=λg=>l.length-g.1) (1,e10) ?_ ?_ ?_ ?_
 ·exact⟨rfl,rfl,rfl,trivial⟩
 ·exact Pt.zg
 ·refine⟨rfl,hpos,hm0,λj x hj hx=>?_⟩;obtain rfl:j=0:=by dsimp only at hj;omega
  rw[h0]at hx;cases hx;exact Int.le_refl _
 ·rintro⟨k,m⟩ V' ks' O' ⟨rfl,hkl,hm,hok⟩ hk hO hl2;dsimp only at hkl hm hok hk hO;subst hk hO;refine zb (tT 0 [0,0,0,0]) ?_;refine ze ?_;refine ze ?_;refine zZ Tryz.underlying34 ?_;refine qc ?_;refine AtT.dn ?_;refine zI rfl (λhp=>?_) (λhp=>?_)
  ·obtain⟨x,hx⟩:∃ x,l[k]? = some x:=⟨_,List.getElem?_eq_getElem (by omega)⟩;refine zb (tT 0 [0,0,0,0,0,0,0]) ?_;refine ze ?_;refine ze ?_;refine ze ?_;refine kZ Tryz.underlying34 tk3 ?_;intro p21 e21 he21 hc21;obtain rfl:e21=x:=by have:l[k]? = some e21:=(by simpa using he21);rw[hx]at this;simpa using this.symm
   refine kV tk3 ?_;refine kmin2 ?_;refine ax (tT 0 [0,0,0]) ?_;refine ze ?_;refine zM ?_;refine zh ?_;refine At.round (k+1,min m e21) ?_ ?_ ?_ ?_
   ·show l.length-(k+1)<l.length-k;omega
   ·refine⟨rfl,by dsimp only;omega,?_,λj y hj hy=>?_⟩
    ·show min m e21∈l
     by_cases c:m<=e21
     ·rw[Int.min_eq_left c];exact hm
     ·rw[Int.min_eq_right (by omega)];exact List.mem_of_getElem? hx
    ·show min m e21<=y
     dsimp only at hj;by_cases hjk:j=k
     ·subst hjk;rw[hx]at hy;cases hy;omega
     ·have:=hok j y (by omega) hy;omega
   ·exact⟨rfl,rfl,ivs (by dsimp only;omega),trivial⟩
   ·exact Pt.zg
  ·obtain rfl:k=l.length:=by omega
   refine zb (tT 0 [0,0]) ?_;refine ze ?_;refine zh ?_;exact zL rfl (.tmp rfl) ⟨m,rfl,hm,λx hx=>by obtain⟨j,hj,rfl⟩:=List.getElem_of_mem hx;exact hok j _ hj (List.getElem?_eq_getElem hj)⟩
abbrev mO (M:MM Nat Int) (c:Nat):Obj:=qM (λs:Nat=>stv s) (λn:Int=>iv n) M c
theorem smallest_g (ls:List Nat) (hln:ls.length<=16) (hne:∀ s∈ls,s≠0/\s<32768) (V:View) (p:Addr) (a2:Option Addr) (c2:Nat) (hc26:Cells V (p.add 3) [.slice a2 ls.length c2]) (hsl:Sl V ste 1 (.slice a2 ls.length c2) ls):Fnc Tryz.prog 260 [.pointer (some p)] V λr V'=>∃ l,RwB V V' 200 1 ste r l/\SmS ls SrtL l:=by
 refine zG Tryz.func260 rfl Tryz.ntmps260 (Nat.le_of_ble_eq_true rfl) ?_;intro w0 hw0;refine zb (tT 0 [0]) ?_;refine ax (tT 0 [1,0,2,0,0]) ?_;refine AtT.makeMap rfl trivial (λs:Nat=>stv s) (λn:Int=>iv n) (by decide) ?_;intro b20;refine qD (bd200) ?_;refine insNew rfl trivial key72 0 (0:Int) Tryz.underlying386 rfl rfl rfl rfl (by repeat first|exact Upd.here|apply Upd.there) ?_;refine ze ?_;refine ax (tT 0 [0,0,0,0,0,0]) ?_;refine ze ?_;refine jh ?_;refine zw fo209_2 ?_;refine kV tk207 ?_;refine zZ Tryz.underlying207 ?_;refine ze ?_;refine AtT.dn ?_;refine xc (ι:=Nat×Nat×MM Nat Int×Nat) (KS:=λg=>[(3,.map (some g.2.1)),(26,.slice a2 ls.length c2),(27,iv ls.length),(28,iv g.1)]) (OS:=λg=>[.blk g.2.1 (mO g.2.2.1 g.2.2.2)])
  (VS:=λg V'=>Le V V'/\g.1<=ls.length/\MI g.2.2.1 g.2.2.2/\∀ x,kI x g.2.2.1=true↔GsK ls g.1 x) (μ:=λg=>ls.length-g.1) (0,b20,[(0,0,0)],1) ?_ ?_ ?_ ?_
 ·exact⟨rfl,rfl,rfl,rfl,trivial⟩
 ·exact Pt.zg
 ·refine⟨Le.refl _,Nat.zero_le _,⟨λe h=>?_,by simp,by simp,λe h=>?_,λe h=>?_⟩,λx=>?_⟩
  ·rw[List.mem_singleton]at h;subst h;simp
  ·rw[List.mem_singleton]at h;subst h;simp[cnt_zero]
  ·rw[List.mem_singleton]at h;subst h;simp
  ·simp[kI,GsK]
 rintro⟨k,b,M,c⟩ V' ks' O' ⟨hVV,hkl,hmi,hmem⟩ hk hO hl2;dsimp only at hkl hmi hmem hk hO;subst hk hO;have hsl1:=hsl.le hVV;refine zb (tT 0 [0]) ?_;refine qc ?_;refine AtT.dn ?_;refine zI rfl (λhp=>?_) (λhp=>?_)
 ·obtain⟨t,hx⟩:∃ t,ls[k]? = some t:=⟨_,List.getElem?_eq_getElem (by omega)⟩;have hgt:ls.getD k 0=t:=by simp[List.getD,hx]
  have htb:=(hne t (List.mem_of_getElem? hx)).2
  refine zb (tT 0 [0,0,1,2]) ?_;refine kZ Tryz.underlying207 qG ?_;intro p30 e30 he30 hc30;obtain rfl:e30=t:=by have:ls[k]? = some e30:=(by simpa using he30);rw[hx]at this;simpa using this.symm
  refine qo qG ?_;refine zW z200 ?_;intro b5;refine zH qG ?_;refine xq (tT 0 [1,0]) ?_;refine AtT.makeMap rfl trivial (λs:Nat=>stv s) (λn:Int=>iv n) (by decide) ?_;intro b32;refine ax (tT 0 [0,0,0]) ?_;refine qo qG ?_;refine kfn ?_;refine ax (tT 0 [0,1]) ?_;refine ze ?_;refine AtT.range rfl trivial Tryz.underlying386 rfl zo.zg (by decide) ?_;intro b36;refine AtT.dn ?_;refine xc (ι:=Array Nat×MM Nat Int×Nat) (KS:=λg=>[(3,.map (some b)),(5,.pointer (some ⟨b5,0,none⟩)),(6,.map (some b32)),(7,.func (.func 157) #[stv e30] #[]),(26,.slice a2 ls.length c2),(27,iv ls.length),(28,iv k),(36,.pointer (some ⟨b36,0,none⟩))])
   (OS:=λg=>[.blk b36 (.mapIter (some b) c g.1 c),.blk b32 (mO g.2.1 g.2.2),.blk b (mO M c),.blk b5 (LC (ste e30) 200)])
   (VS:=λg V''=>Le V' V''/\MI g.2.1 g.2.2/\∀ x,kI x g.2.1=true↔∃ e∈M,e.2.2∈g.1/\Stp e30 e.1 x) (μ:=λg=>(M.filter λe=>!g.1.contains e.2.2).length) (#[],[],0) ?_ ?_ ?_ ?_
  ·exact⟨rfl,rfl,rfl,rfl,rfl,rfl,rfl,rfl,trivial⟩
  ·exact Pt.zg
  ·exact⟨Le.refl _,mi_nil,λx=>by simp[kI]⟩
  rintro⟨seen,M2,c2'⟩ V2 ks' O' ⟨hV2,hmi2,hmem2⟩ hk hO hl3;dsimp only at hmi2 hmem2 hk hO;subst hk hO;refine zb (tT 0 [2,0]) ?_;all_goals refine AtT.next rfl trivial rfl zo.zg zo.zg (λe he=>hmi.born e he) (Nat.le_refl _) (by decide) (λhall=>?_) (λe he hns=>?_)
  all_goals refine zx ?_
  all_goals refine AtT.done ?_
  all_goals refine nrm ?_
  ·refine zS rfl rfl ?_;refine zb (tT 0 [0,0]) ?_;refine ze ?_;refine ax (tT 0 [0,0]) ?_;refine zM ?_;refine ze ?_;refine AtT.dn ?_;refine At.round (k+1,b32,M2,c2') ?_ ?_ ?_ ?_
   ·show ls.length-(k+1)<ls.length-k;omega
   ·refine⟨hVV.trans hV2,by dsimp only;omega,hmi2,λx=>?_⟩;show kI x M2=true↔GsK ls (k+1) x;rw[hmem2];simp only[GsK,hgt];constructor
    ·rintro⟨e,he,_,hst⟩;exact⟨e.1,(hmem e.1).1 ((jg e.1 M).2 ⟨e,he,rfl⟩),hst⟩
    ·rintro⟨s,hs,hst⟩;obtain⟨e,he,rfl⟩:=(jg s M).1 ((hmem s).2 hs);exact⟨e,he,hall e he,hst⟩
   ·exact⟨rfl,rfl,rfl,ivs (by dsimp only;omega),trivial⟩
   dsimp only
   ·exact Pt.zg
  refine ql rfl rfl ?_;have hun:=kr he hns;have hev:=hmi.val e he;have hel:=hmi.lt e he;have hci:=cntK_le e.1 15;have hseen:∀ (e':Nat×Int×Nat),e'∈M->(e'.2.2∈seen.push e.2.2↔e'.2.2∈seen\/e'=e):=λe' he'=>by
   rw[Array.mem_push];constructor
   ·rintro(h | h)
    ·exact .inl h
    ·exact .inr (inj_of (λe:Nat×Int×Nat=>e.2.2) hmi.nodB he' he h)
   ·rintro(h | rfl)
    ·exact .inl h
    ·exact .inr rfl
  have hsee2:∀ x,(∃ e'∈M,e'.2.2∈seen.push e.2.2/\Stp e30 e'.1 x)↔(∃ e'∈M,e'.2.2∈seen/\Stp e30 e'.1 x)\/Stp e30 e.1 x:=λx=>by
   constructor
   ·rintro⟨e',h1,h2,h3⟩;rcases(hseen e' h1).1 h2 with h | rfl
    ·exact .inl ⟨e',h1,h,h3⟩
    ·exact .inr h3
   ·rintro(⟨e',h1,h2,h3⟩ | h3)
    ·exact⟨e',h1,(hseen e' h1).2 (.inl h2),h3⟩
    ·exact⟨e,he,(hseen e he).2 (.inr rfl),h3⟩
  refine zb (tT 0 [1,0,0,1,2,0]) ?_;refine AtT.entry rfl trivial rfl zo.zg zo.zg he hmi.nodB (by decide) ?_;refine zx ?_;refine zx ?_;refine zW z200 ?_;intro b8;refine zH qG ?_;refine zh ?_;have hmeet:Fnc Tryz.prog 157 ([stv e30]++[stv e.1]++[]) V2 λr _=>r=.bool (mtB e30 e.1):=meets_f e30 e.1 (by omega) (by omega) V2;cases hmt:mtB e30 e.1 with
  | true=>
   rw[hmt]at hmeet;refine zP (tT 0 [0,0,1]) ?_;refine ze ?_;refine qo qG ?_;refine jD rfl rfl rfl ok157 (hmeet) ?_;rintro _ rfl;refine AtT.dn ?_;refine ql rfl rfl ?_;refine nrm ?_;have hput:∀ e'∈M2,e'.1=e.1->e'.2.1=e.2.1:=λe' h1 h2=>by rw[hmi2.val e' h1,h2,hev]
   refine zP (tT 0 [0,0,0,2]) ?_;refine ze ?_;refine qo qG ?_;refine ze ?_;refine mapPut rfl trivial key72 e.1 e.2.1 Tryz.underlying386 rfl rfl rfl hput (by repeat first|exact Upd.here|apply Upd.there) ?_;refine AtT.dn ?_;refine At.round (seen.push e.2.2,(mIns e.1 e.2.1 M2 c2').1,(mIns e.1 e.2.1 M2 c2').2) ?_ ?_ ?_ ?_
   ·exact hun
   ·refine⟨hV2,?_,λx=>?_⟩
    ·dsimp only;rw[hev];exact mi_ins hmi2 hel
    ·dsimp only;rw[mi_has,hmem2,hsee2];constructor
     ·rintro(h | rfl)
      ·exact .inl h
      ·exact .inr (.inl ⟨hmt,rfl⟩)
     ·rintro(h | h)
      ·exact .inl h
      ·rcases h with ⟨_,rfl⟩ | ⟨h1,_⟩
       ·exact .inr rfl
       ·rw[hmt]at h1;cases h1
   ·exact⟨rfl,rfl,rfl,rfl,rfl,rfl,rfl,rfl,trivial⟩
   dsimp only
   ·exact Pt.zg
  | false=>
   rw[hmt]at hmeet;refine zP (tT 0 [0,0,1]) ?_;refine ze ?_;refine qo qG ?_;refine jD rfl rfl rfl ok157 (hmeet) ?_;rintro _ rfl;refine AtT.dn ?_;refine zS rfl rfl ?_;refine zb (tT 0 [0,1,0,0]) ?_;refine qo qG ?_;refine kK rfl rfl ok153 (list_f e30 (by omega) _) ?_;rintro v49 V49 hV49 hs49;refine zZ Tryz.underlying34 ?_;refine ze ?_;refine AtT.dn ?_;obtain⟨a9,c9,rfl,_⟩:=id hs49;have hbl:=cntK_le e30 15;unfold cntK at hbl;have hcnt:e.2.1<=15:=by rw[hev];unfold cnt cntK;unfold cntK at hci;omega
   have hcn0:0<=e.2.1:=by rw[hev];omega
   refine xc (ι:=Nat×MM Nat Int×Nat) (KS:=λg=>[(3,.map (some b)),(5,.pointer (some ⟨b5,0,none⟩)),(6,.map (some b32)),(7,.func (.func 157) #[stv e30] #[]),(8,.pointer (some ⟨b8,0,none⟩)),(9,iv e.2.1),(26,.slice a2 ls.length c2),(27,iv ls.length),(28,iv k),(36,.pointer (some ⟨b36,0,none⟩)),(49,.slice a9 (qy e30 15).length c9),(50,iv (qy e30 15).length),(51,iv g.1)])
    (OS:=λg=>[.blk b36 (.mapIter (some b) c (seen.push e.2.2) c),.blk b32 (mO g.2.1 g.2.2),.blk b (mO M c),.blk b5 (LC (ste e30) 200),.blk b8 (LC (ste e.1) 200)])
    (VS:=λg V''=>Le V49 V''/\g.1<=(qy e30 15).length/\MI g.2.1 g.2.2/\∀ x,kI x g.2.1=true↔kI x M2=true\/∃ i:Nat,(i:Int)∈(qy e30 15).take g.1/\x=e.1 ||| 2 ^ i) (μ:=λg=>(qy e30 15).length-g.1) (0,M2,c2') ?_ ?_ ?_ ?_
   ·exact⟨rfl,rfl,rfl,rfl,rfl,rfl,rfl,rfl,rfl,rfl,rfl,rfl,rfl,trivial⟩
   ·exact Pt.zg
   ·exact⟨Le.refl _,Nat.zero_le _,hmi2,λx=>by simp⟩
   rintro⟨j,M3,c3⟩ V3 ks' O' ⟨hV3,hjl,hmi3,hmem3⟩ hk hO hl4;dsimp only at hjl hmi3 hmem3 hk hO;subst hk hO;have hs3:=hs49.le hV3;refine zb (tT 0 [0]) ?_;refine qc ?_;refine AtT.dn ?_;refine zI rfl (λhq=>?_) (λhq=>?_)
   ·obtain⟨y,hy⟩:∃ y,(qy e30 15)[j]? = some y:=⟨_,List.getElem?_eq_getElem (by omega)⟩;obtain⟨i,hi15,rfl,hbit⟩:=bitL_mem.1 (List.mem_of_getElem? hy);have hpw:2 ^ i<32768:=pow_lt15 (x:=(i:Int)) (by omega);have hno:=mtB_no hmt hbit;have hcor:=cnt_or hno hi15;have hput:∀ e'∈M3,e'.1=e.1 ||| 2 ^ i->e'.2.1=e.2.1+1:=λe' h1 h2=>by rw[hmi3.val e' h1,h2,hcor,hev];push_cast;rfl
    have hval1:e.2.1+1=(cnt (e.1 ||| 2 ^ i):Int):=by rw[hcor,hev];push_cast;rfl
    refine zb (tT 0 [0,0,0]) ?_;refine kZ Tryz.underlying34 tk3 ?_;intro p53 e53 he53 hc53;obtain rfl:e53=(i:Int):=by have:(qy e30 15)[j]? = some e53:=(by simpa using he53);rw[hy]at this;simpa using this.symm
    refine kV tk3 ?_;refine zh ?_;refine xm (tT 0 [0,0,0,0,0,0,0,0,0,2]) ffm (by kernel_rfl) ?_;refine ze ?_;refine zw fo200_0 ?_;refine kV tk3 ?_;refine ze ?_;refine shlN rfl trivial rfl rfl (N:=i) rfl (by omega) (by decide) ?_;refine orN rfl trivial rfl rfl rfl rfl (by omega) (by omega) (by decide) (A:=e.1) (B:=2 ^ i) ?_;refine qD (bd200_0 _) ?_;refine ze ?_;refine zM ?_;refine mapPut rfl trivial key72 (e.1 ||| 2 ^ i) (e.2.1+1) Tryz.underlying386 rfl rfl rfl hput (by repeat first|exact Upd.here|apply Upd.there) ?_;refine xq (tT 0 [0,0]) ?_;refine zM ?_;refine ze ?_;refine AtT.dn ?_;refine At.round (j+1,(mIns (e.1 ||| 2 ^ i) (e.2.1+1) M3 c3).1,(mIns (e.1 ||| 2 ^ i) (e.2.1+1) M3 c3).2) ?_ ?_ ?_ ?_
    ·show(qy e30 15).length-(j+1)<(qy e30 15).length-j;omega
    ·refine⟨hV3,by dsimp only;omega,?_,λx=>?_⟩
     ·dsimp only;rw[hval1];exact mi_ins hmi3 (or_lt15 hel hi15)
     ·dsimp only;rw[mi_has,hmem3,take_snoc' hy];constructor
      ·rintro((h | ⟨i',h1,h2⟩) | rfl)
       ·exact .inl h
       ·exact .inr ⟨i',List.mem_append_left _ h1,h2⟩
       ·exact .inr ⟨i,by simp,rfl⟩
      ·rintro(h | ⟨i',h1,rfl⟩)
       ·exact .inl (.inl h)
       ·rcases List.mem_append.1 h1 with h1 | h1
        ·exact .inl (.inr ⟨i',h1,rfl⟩)
        ·rw[List.mem_singleton]at h1;obtain rfl:i'=i:=by omega
         exact .inr rfl
    ·exact⟨rfl,rfl,rfl,rfl,rfl,rfl,rfl,rfl,rfl,rfl,rfl,rfl,ivs (by dsimp only;omega),trivial⟩
    dsimp only
    ·exact Pt.zg
   ·obtain rfl:j=(qy e30 15).length:=by omega
    rw[List.take_length]at hmem3;refine nrm ?_;refine At.round (seen.push e.2.2,M3,c3) ?_ ?_ ?_ ?_
    ·exact hun
    ·refine⟨(hV2.trans hV49).trans hV3,hmi3,λx=>?_⟩;dsimp only;rw[hmem3,hmem2,hsee2];constructor
     ·rintro(h | ⟨i,h1,rfl⟩)
      ·exact .inl h
      ·obtain⟨i',h2,h3,h4⟩:=bitL_mem.1 h1;obtain rfl:i=i':=by omega
       exact .inr (.inr ⟨hmt,i,h2,h4,rfl⟩)
     ·rintro(h | h)
      ·exact .inl h
      ·rcases h with ⟨h1,_⟩ | ⟨_,i,h2,h3,rfl⟩
       ·rw[hmt]at h1;cases h1
       ·exact .inr ⟨i,bitL_mem.2 ⟨i,h2,rfl,h3⟩,rfl⟩
    ·exact⟨rfl,rfl,rfl,rfl,rfl,rfl,rfl,rfl,trivial⟩
    dsimp only
    ·exact Pt.zg
 obtain rfl:k=ls.length:=by omega
 have hml:=mi_len hmi
 obtain⟨x0,hx0⟩:=gsK_ex hne ls.length (Nat.le_refl _);obtain⟨e0,he0,_⟩:=(jg x0 M).1 ((hmem x0).2 hx0);refine zb (tT 0 [0]) ?_;refine ax (tT 0 [0,1]) ?_;refine ze ?_;refine AtT.range rfl trivial Tryz.underlying386 rfl zo.zg (by decide) ?_;intro b68;refine AtT.dn ?_;refine xu 3 1 ?_;refine xc (ι:=Array Nat×List Int×Option Addr×Nat) (KS:=λg=>[(3,.map (some b)),(12,.slice g.2.2.1 g.2.1.length g.2.2.2),(68,.pointer (some ⟨b68,0,none⟩))])
  (OS:=λg=>[.blk b68 (.mapIter (some b) c g.1 c),.blk b (mO M c),.row (.slice g.2.2.1 g.2.1.length g.2.2.2) 3 1 g.2.1.length (flat ei g.2.1)])
  (VS:=λg V''=>Le V V''/\(∀ v∈g.2.1,∃ e∈M,v=e.2.1)/\(∀ e∈M,e.2.2∈g.1->e.2.1∈g.2.1)/\g.2.1.length+(M.filter λe=>!g.1.contains e.2.2).length<=M.length) (μ:=λg=>(M.filter λe=>!g.1.contains e.2.2).length) (#[],[],none,0) ?_ ?_ ?_ ?_
 ·exact⟨rfl,rfl,rfl,trivial⟩
 ·exact Pt.zg
 ·exact⟨hVV,λv h=>(by cases h),λe _ h=>(by simp at h),by show 0+_<=_;rw[Nat.zero_add];exact List.length_filter_le _ _⟩
 rintro⟨seen,sz,ao,co⟩ V2 ks' O' ⟨hV2,hz1,hz2,hz3⟩ hk hO hl3;dsimp only at hz1 hz2 hz3 hk hO;subst hk hO;refine zb (tT 0 [2,0]) ?_;all_goals refine AtT.next rfl trivial rfl zo.zg zo.zg (λe he=>hmi.born e he) (Nat.le_refl _) (by decide) (λhall=>?_) (λe he hns=>?_)
 all_goals refine zx ?_
 all_goals refine AtT.done ?_
 all_goals refine nrm ?_
 rotate_left
 ·refine ql rfl rfl ?_;have hun:=kr he hns;refine zb (tT 0 [1,0,0]) ?_;refine AtT.entry rfl trivial rfl zo.zg zo.zg he hmi.nodB (by decide) ?_;refine zx ?_;refine ax (tT 0 [0,0,1,2,0]) ?_;refine ze ?_;refine ze ?_;refine zy (zR _) ?_;intro q75 V75 hV75 hq75;have g75:Le V V75:=by first | exact hV75 | exact Le.trans (by assumption) hV75
  first | refine jq Tryz.underlying34 rw3 ?_
  intro a76 c76;refine zh ?_;refine At.round (seen.push e.2.2,sz++[e.2.1],a76,c76) ?_ ?_ ?_ ?_
  ·exact hun
  ·refine⟨hV2.trans (by first | assumption | exact Le.refl _),λv hv=>?_,λe' h1 h2=>?_,?_⟩
   ·rcases List.mem_append.1 hv with h | h
    ·exact hz1 v h
    ·rw[List.mem_singleton]at h;exact⟨e,he,h⟩
   ·rcases(seen_push hmi.nodB he h1).1 h2 with h | rfl
    ·exact List.mem_append_left _ (hz2 e' h1 h)
    ·exact List.mem_append_right _ (List.mem_singleton.2 rfl)
   ·dsimp only;rw[List.length_append];simp only[List.length_cons,List.length_nil];omega
  ·dsimp only;rw[List.length_append];exact⟨rfl,rfl,rfl,trivial⟩
  dsimp only;rw[zV,List.length_append]
  ·exact Pt.zg
 refine zS rfl rfl ?_;have hsn:sz≠[]:=λh=>by have:=hz2 e0 he0 (hall e0 he0);rw[h]at this;cases this
 refine nrm ?_;refine xw (l:=sz) (m:=sz.length) Lw.jP rfl rfl zo.zg (λV3 hV3 hs3=>?_);refine zP (tT 0 [0,1,0]) ?_;refine ze ?_;refine zm rfl rfl ok120 (min_f sz hsn _ _ hs3) ?_;rintro _ ⟨few,rfl,hf1,hf2⟩;refine zh ?_;have hfew:∀ e∈M,few<=e.2.1:=λe he=>hf2 _ (hz2 e he (hall e he));obtain⟨e1,he1,hfe1⟩:=hz1 few hf1;refine zP (tT 0 [0,1]) ?_;refine ze ?_;refine AtT.range rfl trivial Tryz.underlying386 rfl zo.zg (by decide) ?_;intro b80;refine AtT.dn ?_;refine xc (ι:=Array Nat) (KS:=λ_=>[(3,.map (some b)),(15,iv few),(80,.pointer (some ⟨b80,0,none⟩))])
  (OS:=λseen=>[.blk b80 (.mapIter (some b) c seen c),.blk b (mO (left (λe=>decide (¬ few<e.2.1)) M seen) c)])
  (VS:=λ_ V''=>Le V3 V'') (μ:=λseen=>(M.filter λe=>!seen.contains e.2.2).length) #[] ?_ ?_ ?_ ?_
 ·exact⟨rfl,rfl,rfl,trivial⟩
 ·rw[left_nil]
  ·exact Pt.zg
 ·exact Le.refl _
 rintro seen2 V4 ks' O' hV4 hk hO hl4;subst hk hO;have hsub:∀ e∈left (λe=>decide (¬ few<e.2.1)) M seen2,e∈M:=λe he=>(List.mem_filter.1 he).1;refine zb (tT 0 [2,0]) ?_;all_goals (refine AtT.next rfl trivial rfl zo.zg zo.zg (λe he=>hmi.born e (hsub e he)) (Nat.le_refl _) (by decide) (λhall2=>?_) (λe he hns=>?_))
 all_goals refine zx ?_
 all_goals refine AtT.done ?_
 all_goals refine nrm ?_
 rotate_left
 ·refine ql rfl rfl ?_;have heM:=hsub e he;have hun:=kr heM hns;have hnd2:((left (λe=>decide (¬ few<e.2.1)) M seen2).map (·.2.2)).Nodup:=hmi.nodB.sublist (List.filter_sublist.map _);refine zb (tT 0 [1,0,0,1,2,0]) ?_;refine AtT.entry rfl trivial rfl zo.zg zo.zg he hnd2 (by decide) ?_;refine zx ?_;refine zx ?_;refine zW z200 ?_;intro b16;refine zH qG ?_;refine ax (tT 0 [0,0,0]) ?_;refine ze ?_;refine ze ?_;refine kgtr ?_;refine AtT.dn ?_;refine zI rfl (λhm=>?_) (λhm=>?_)
  ·have hg:decide (¬ few<e.2.1)=false:=decide_eq_false (λh=>h hm)
   have hdel:=left_del (g:=λe:Nat×Int×Nat=>decide (¬ few<e.2.1)) (seen:=seen2) hmi.nodB hmi.nodK heM hg
   refine zb (tT 0 [0,0,2]) ?_;refine ze ?_;refine qo qG ?_;refine mapDel rfl trivial key72 e.1 (λn:Int=>iv n) rfl Tryz.underlying386 rfl rfl (by repeat first|exact Upd.here|apply Upd.there) ?_;refine AtT.dn ?_;refine At.round (seen2.push e.2.2) hun hV4 ⟨rfl,rfl,rfl,trivial⟩ ?_;rw[hdel]
   ·exact Pt.zg
  ·have hg:decide (¬ few<e.2.1)=true:=decide_eq_true hm
   have hkeep:=left_keep (g:=λe:Nat×Int×Nat=>decide (¬ few<e.2.1)) (seen:=seen2) hmi.nodB heM hg
   refine nrm ?_;refine At.round (seen2.push e.2.2) hun hV4 ⟨rfl,rfl,rfl,trivial⟩ ?_;rw[hkeep]
   ·exact Pt.zg
 refine zS rfl rfl ?_;rw[left_end hall2];obtain⟨N,hN⟩:∃ N,N=M.filter λe=>decide (¬ few<e.2.1):=⟨_,rfl⟩;rw[<-hN];have hNs:∀ e∈N,e∈M/\¬ few<e.2.1:=λe he=>by rw[hN]at he;have:=List.mem_filter.1 he;exact⟨this.1,by simpa using this.2⟩
 have hNi:∀ e∈M,¬ few<e.2.1->e∈N:=λe he h=>by rw[hN];exact List.mem_filter.2 ⟨he,by simpa using h⟩
 have hNB:(N.map (·.2.2)).Nodup:=by rw[hN];exact hmi.nodB.sublist (List.filter_sublist.map _)
 have hNK:(N.map (·.1)).Nodup:=by rw[hN];exact hmi.nodK.sublist (List.filter_sublist.map _)
 have hNl:N.length<=32768:=by rw[hN];exact Nat.le_trans (List.length_filter_le _ _) hml
 refine zb (tT 0 [0]) ?_;refine ax (tT 0 [0,1]) ?_;refine ze ?_;refine AtT.range rfl trivial Tryz.underlying386 rfl zo.zg (by decide) ?_;intro b92;refine AtT.dn ?_;refine xu 200 1 ?_;refine xc (ι:=Array Nat×List Nat×Option Addr×Nat) (KS:=λg=>[(18,.slice g.2.2.1 g.2.1.length g.2.2.2),(92,.pointer (some ⟨b92,0,none⟩))])
  (OS:=λg=>[.blk b92 (.mapIter (some b) c g.1 c),.blk b (mO N c),.row (.slice g.2.2.1 g.2.1.length g.2.2.2) 200 1 g.2.1.length (flat ste g.2.1)])
  (VS:=λg V''=>Le V V''/\g.2.1.Nodup/\(∀ x,x∈g.2.1↔∃ e∈N,e.2.2∈g.1/\e.1=x)/\g.2.1.length+(N.filter λe=>!g.1.contains e.2.2).length<=N.length) (μ:=λg=>(N.filter λe=>!g.1.contains e.2.2).length) (#[],[],none,0) ?_ ?_ ?_ ?_
 ·exact⟨rfl,rfl,trivial⟩
 ·exact Pt.zg
 ·exact⟨hV2.trans (hV3.trans hV4),List.nodup_nil,λx=>(by simp),by show 0+_<=_;rw[Nat.zero_add];exact List.length_filter_le _ _⟩
 rintro⟨seen3,out,ao3,co3⟩ V5 ks' O' ⟨hV5,ho1,ho2,ho3⟩ hk hO hl5;dsimp only at ho1 ho2 ho3 hk hO;subst hk hO;refine zb (tT 0 [2,0]) ?_;all_goals (refine AtT.next rfl trivial rfl zo.zg zo.zg (λe he=>hmi.born e (hNs e he).1) (Nat.le_refl _) (by decide) (λhall3=>?_) (λe he hns=>?_))
 all_goals refine zx ?_
 all_goals refine AtT.done ?_
 all_goals refine nrm ?_
 rotate_left
 ·refine ql rfl rfl ?_;have hun:=kr he hns;have hno:e.1∉out:=λh=>by obtain⟨e',h1,h2,h3⟩:=(ho2 e.1).1 h;have:=inj_of (λe:Nat×Int×Nat=>e.1) hNK h1 he h3;subst this;exact hns h2
  refine zb (tT 0 [1,0,1,2]) ?_;refine AtT.entry rfl trivial rfl zo.zg zo.zg he hNB (by decide) ?_;refine zx ?_;refine zW z200 ?_;intro b19;refine zH qG ?_;refine xq (tT 0 [0,0,1,2,0]) ?_;refine ze ?_;refine qo qG ?_;refine zy (bs207_1_0 _) ?_;intro q99 V99 hV99 hq99;have g99:Le V V99:=by first | exact hV99 | exact Le.trans (by assumption) hV99
  first | refine jq Tryz.underlying207 rw200 ?_
  intro a100 c100;refine zh ?_;refine At.round (seen3.push e.2.2,out++[e.1],a100,c100) ?_ ?_ ?_ ?_
  ·exact hun
  ·refine⟨hV5.trans (by first | assumption | exact Le.refl _),?_,λx=>?_,?_⟩
   ·exact List.nodup_append.2 ⟨ho1,by simp,λx hx y hy=>by rw[List.mem_singleton]at hy;subst hy;intro h;subst h;exact hno hx⟩
   ·dsimp only;rw[List.mem_append,List.mem_singleton,ho2];constructor
    ·rintro(⟨e',h1,h2,h3⟩ | rfl)
     ·exact⟨e',h1,(seen_push hNB he h1).2 (.inl h2),h3⟩
     ·exact⟨e,he,(seen_push hNB he he).2 (.inr rfl),rfl⟩
    ·rintro⟨e',h1,h2,h3⟩;rcases(seen_push hNB he h1).1 h2 with h | rfl
     ·exact .inl ⟨e',h1,h,h3⟩
     ·exact .inr h3.symm
   ·dsimp only;rw[List.length_append];simp only[List.length_cons,List.length_nil];omega
  ·dsimp only;rw[List.length_append];exact⟨rfl,rfl,trivial⟩
  dsimp only;rw[zV,List.length_append]
  ·exact Pt.zg
 refine zS rfl rfl ?_;have hfm:e1.2.1=few:=hfe1.symm;have hone:e1.1∈out:=(ho2 e1.1).2 ⟨e1,hNi e1 he1 (by omega),hall3 e1 (hNi e1 he1 (by omega)),rfl⟩;have hon0:out.length≠0:=λh=>by rw[List.eq_nil_of_length_eq_zero h]at hone;cases hone
 refine nrm ?_;refine At.rowBlk2 (v:=.slice ao3 out.length co3) zo.zg hon0 (λbb cap rest hbb hcap hcm hrl=>?_);cases hbb;refine zP (tT 0 [0,2]) ?_;refine ze ?_;refine sortS rfl trivial rfl rfl (l:=out) (rest:=rest) (by omega) zo.zg (by decide) (λl' hperm hsrt=>?_);refine AtT.dn ?_;have hpl:=hperm.length_eq;refine giveM (b:=bb) zo.zg (λV6 hV6 hb6 hn6=>?_);have hl6:(flat ste l').length=l'.length*1:=zU ste_len _;have hl7:(flat ste out).length=out.length*1:=zU ste_len _;have hnv:V bb=none:=by
  cases hv:V bb with
  | none=>rfl
  | some o=>rw[hV5 _ _ hv]at hn6;cases hn6
 have hs6:RwB V V6 200 1 ste (.slice (some ⟨bb,0,none⟩) l'.length co3) l':=⟨bb,co3,_,rfl,by rw[hpl];exact hcap,hcm,hnv,hb6,by rw[<-hrl,List.length_append,List.length_append,hl6,hl7,hpl],by rw[<-hl6];exact List.take_left⟩
 rw[hpl]at hs6;refine zP (tT 0 [0,0]) ?_;refine ze ?_;refine zh ?_;refine zL rfl (.tmp rfl) ⟨l',hs6,hperm.nodup_iff.2 ho1,hsrt,λx=>?_⟩;rw[hperm.mem_iff,ho2];constructor
 ·rintro⟨e,h1,_,rfl⟩;obtain⟨h2,h3⟩:=hNs e h1;refine⟨(hmem e.1).1 ((jg e.1 M).2 ⟨e,h2,rfl⟩),λy hy=>?_⟩;obtain⟨e',h4,h5⟩:=(jg y M).1 ((hmem y).2 hy);have a1:=hfew e' h4;have a2':=hmi.val e' h4;have a3:=hmi.val e h2;rw[h5]at a2';omega
 ·rintro⟨h1,h2⟩;obtain⟨e,h3,h4⟩:=(jg x M).1 ((hmem x).2 h1);have a1:=h2 e1.1 ((hmem e1.1).1 ((jg e1.1 M).2 ⟨e1,he1,rfl⟩));have a2':=hmi.val e h3;have a3:=hmi.val e1 he1;rw[h4]at a2';have:e∈N:=hNi e h3 (by omega);exact⟨e,this,hall3 e this,h4⟩
end Go.Proofs.YtnffcfhdnjbdbaaGreatDoor
namespace Go.Bl
open Go.Gl Go.Lw
def LexB (A B:Nat):Prop:=∃ i,A.testBit i=true/\B.testBit i=false/\∀ j,j<i->A.testBit j=B.testBit j
theorem lex_irr (A:Nat):¬ LexB A A:=λ⟨i,h1,h2,_⟩=>by rw[h1]at h2;cases h2
theorem lex_asym {A B:Nat} (h:LexB A B):¬ LexB B A:=λ⟨k,k1,k2,k3⟩=>by
 obtain⟨i,h1,h2,h3⟩:=h;rcases Nat.lt_trichotomy i k with c | rfl | c
 ·rw[k3 i c]at h2;rw[h1]at h2;cases h2
 ·rw[h1]at k2;cases k2
 ·rw[h3 k c]at k2;rw[k1]at k2;cases k2
theorem lex_tot {A B:Nat} (h:A≠B):LexB A B\/LexB B A:=by
 have hex:∃ i,A.testBit i≠B.testBit i:=by apply Classical.byContradiction;intro hc;refine h (Nat.eq_of_testBit_eq λi=>?_);apply Classical.byContradiction;intro hd;exact hc ⟨i,hd⟩
 have hl:∃ i,A.testBit i≠B.testBit i/\∀ j,j<i->A.testBit j=B.testBit j:=by
  obtain⟨i,hi⟩:=hex;have key:∀ n i,i<=n->A.testBit i≠B.testBit i->∃ i,A.testBit i≠B.testBit i/\∀ j,j<i->A.testBit j=B.testBit j:=by
   intro n;induction n with
   | zero=>intro i h1 h2;exact⟨i,h2,λj hj=>by omega⟩
   | succ n ih=>
    intro i h1 h2;by_cases c:∃ j,j<i/\A.testBit j≠B.testBit j
    ·obtain⟨j,h3,h4⟩:=c;exact ih j (by omega) h4
    ·exact⟨i,h2,λj hj=>by apply Classical.byContradiction;intro hd;exact c ⟨j,hj,hd⟩⟩
  exact key i i (Nat.le_refl _) hi
 obtain⟨i,h1,h2⟩:=hl;cases a:A.testBit i with
 | true=>
  cases b:B.testBit i with
  | true=>rw[a,b]at h1;exact absurd rfl h1
  | false=>exact .inl ⟨i,a,b,h2⟩
 | false=>
  cases b:B.testBit i with
  | true=>exact .inr ⟨i,b,a,λj hj=>(h2 j hj).symm⟩
  | false=>rw[a,b]at h1;exact absurd rfl h1
theorem lt15_bit {A i:Nat} (h:A<32768) (hi:A.testBit i=true):i<15:=by apply Classical.byContradiction;intro hc;rw[Nat.testBit_lt_two_pow (Nat.lt_of_lt_of_le (show A<2 ^ 15 by omega) (Nat.pow_le_pow_right (by decide) (by omega)))]at hi;cases hi
theorem lex_ext:∀ {a b:List Nat},a.Pairwise LexB->b.Pairwise LexB->(∀ x,x∈a↔x∈b)->a=b
 | [],[],_,_,_=>rfl
 | [],y::b,_,_,h=>by have:=(h y).2 List.mem_cons_self;cases this
 | x::a,[],_,_,h=>by have:=(h x).1 List.mem_cons_self;cases this
 | x::a,y::b,ha,hb,h=>by
  rw[List.pairwise_cons]at ha hb;have e:x=y:=by
   rcases List.mem_cons.1 ((h x).1 List.mem_cons_self)with h1 | h1
   ·exact h1
   ·rcases List.mem_cons.1 ((h y).2 List.mem_cons_self)with h2 | h2
    ·exact h2.symm
    ·exact absurd (ha.1 y h2) (lex_asym (hb.1 x h1))
  subst e;rw[lex_ext ha.2 hb.2 λz=>?_];have:=h z;rw[List.mem_cons,List.mem_cons]at this;constructor
  ·intro hz;rcases this.1 (.inr hz)with rfl | h1
   ·exact absurd (ha.1 _ hz) (lex_irr _)
   ·exact h1
  ·intro hz;rcases this.2 (.inr hz)with rfl | h1
   ·exact absurd (hb.1 _ hz) (lex_irr _)
   ·exact h1
def Sub (A B:Nat):Prop:=∀ i,A.testBit i=true->B.testBit i=true
def Ex (no:Nat) (ls:List Nat) (A:Nat):Prop:=A<32768/\mtB A no=false/\∀ s∈ls,mtB A s=true
end Go.Bl
namespace Go.Bl
open Go.Gl Go.Lw Go.Sort
def stN (n k m:Nat):Nat:=((n / 2 ^ k) &&& m) ||| (((n &&& m)*2 ^ k) % 2 ^ 64)
theorem bits_andU {A B:Nat} (hA:A<2 ^ 64) (hB:B<2 ^ 64):Go.bits .and .u64 (A:Int) (B:Int)=((A &&& B:Nat):Int):=by
 show IntKind.u64.wrap (((BitVec.ofInt 64 (A:Int) &&& BitVec.ofInt 64 (B:Int)).toNat:Nat):Int)=_
 rw[BitVec.toNat_and,ofInt_u64 A hA,ofInt_u64 B hB,wrapU (Nat.lt_of_le_of_lt Nat.and_le_left hA)]
theorem bits_orU {A B:Nat} (hA:A<2 ^ 64) (hB:B<2 ^ 64):Go.bits .or .u64 (A:Int) (B:Int)=((A ||| B:Nat):Int):=by
 show IntKind.u64.wrap (((BitVec.ofInt 64 (A:Int) ||| BitVec.ofInt 64 (B:Int)).toNat:Nat):Int)=_
 rw[BitVec.toNat_or,ofInt_u64 A hA,ofInt_u64 B hB,wrapU (Nat.or_lt_two_pow hA hB)]
theorem wrapM (A:Nat):IntKind.u64.wrap (A:Int)=((A % 2 ^ 64:Nat):Int):=by simp[IntKind.wrap,IntKind.bits,IntKind.signed]
theorem stN_lt {n k m:Nat} (hm:m<2 ^ 64):stN n k m<2 ^ 64:=Nat.or_lt_two_pow (Nat.lt_of_le_of_lt Nat.and_le_right hm) (Nat.mod_lt _ (by decide))
theorem st_nat {n k m:Nat} (hn:n<2 ^ 64) (hm:m<2 ^ 64):stI (n:Int) ((2 ^ k:Nat):Int) (m:Int)=((stN n k m:Nat):Int):=by
 unfold stI;rw[show((n:Int) / ((2 ^ k:Nat):Int))=((n / 2 ^ k:Nat):Int)from rfl,bits_andU (Nat.lt_of_le_of_lt (Nat.div_le_self _ _) hn) hm,bits_andU hn hm,<-Int.natCast_mul,wrapM,
  bits_orU (Nat.lt_of_le_of_lt Nat.and_le_right hm) (Nat.mod_lt _ (by decide))];rfl
theorem or_mod (a b n:Nat):(a ||| b) % 2 ^ n=a % 2 ^ n ||| b % 2 ^ n:=by refine Nat.eq_of_testBit_eq λi=>?_;rw[Nat.testBit_or,Nat.testBit_mod_two_pow,Nat.testBit_mod_two_pow,Nat.testBit_mod_two_pow,Nat.testBit_or,Bool.and_or_distrib_left]
theorem or_div (a b k:Nat):(a ||| b) / 2 ^ k=a / 2 ^ k ||| b / 2 ^ k:=by rw[<-Nat.shiftRight_eq_div_pow,<-Nat.shiftRight_eq_div_pow,<-Nat.shiftRight_eq_div_pow,Nat.shiftRight_or_distrib]
theorem or_mul (a b k:Nat):(a ||| b)*2 ^ k=a*2 ^ k ||| b*2 ^ k:=by rw[<-Nat.shiftLeft_eq,<-Nat.shiftLeft_eq,<-Nat.shiftLeft_eq,Nat.shiftLeft_or_distrib]
theorem or_and (a b m:Nat):(a ||| b) &&& m=a &&& m ||| b &&& m:=Nat.and_or_distrib_right a b m
theorem or_four (a b c d:Nat):(a ||| b) ||| (c ||| d)=(a ||| c) ||| (b ||| d):=by refine Nat.eq_of_testBit_eq λi=>?_;simp only[Nat.testBit_or];cases a.testBit i<;>cases b.testBit i<;>cases c.testBit i<;>cases d.testBit i<;>rfl
theorem stN_or (a b k m:Nat):stN (a ||| b) k m=stN a k m ||| stN b k m:=by unfold stN;rw[or_div,or_and,or_and,or_mul,or_mod,or_four]
def rvN (n:Nat):Nat:=
 let x:=stN (stN (stN (stN (stN n 1 6148914691236517205) 2 3689348814741910323) 4 1085102592571150095) 8 71777214294589695) 16 281470681808895
 (x / 2 ^ 32) ||| ((x*2 ^ 32) % 2 ^ 64)
theorem rvN_or (a b:Nat):rvN (a ||| b)=rvN a ||| rvN b:=by unfold rvN;simp only[stN_or];rw[or_div,or_mul,or_mod,or_four]
theorem rv_nat {n:Nat} (hn:n<2 ^ 64):rvI (n:Int)=((rvN n:Nat):Int):=by
 have h1:=stN_lt (n:=n) (k:=1) (m:=6148914691236517205) (by decide)
 have e1:=st_nat (n:=n) (k:=1) (m:=6148914691236517205) hn (by decide)
 have h2:=stN_lt (n:=stN n 1 6148914691236517205) (k:=2) (m:=3689348814741910323) (by decide)
 have e2:=st_nat (k:=2) (m:=3689348814741910323) h1 (by decide)
 have h3:=stN_lt (n:=stN (stN n 1 6148914691236517205) 2 3689348814741910323) (k:=4) (m:=1085102592571150095) (by decide)
 have e3:=st_nat (k:=4) (m:=1085102592571150095) h2 (by decide)
 have h4:=stN_lt (n:=stN (stN (stN n 1 6148914691236517205) 2 3689348814741910323) 4 1085102592571150095) (k:=8) (m:=71777214294589695) (by decide)
 have e4:=st_nat (k:=8) (m:=71777214294589695) h3 (by decide)
 have h5:=stN_lt (n:=stN (stN (stN (stN n 1 6148914691236517205) 2 3689348814741910323) 4 1085102592571150095) 8 71777214294589695) (k:=16) (m:=281470681808895) (by decide)
 have e5:=st_nat (k:=16) (m:=281470681808895) h4 (by decide)
 unfold rvI rbI;rw[show(2:Int)=((2 ^ 1:Nat):Int)from rfl,show(6148914691236517205:Int)=((6148914691236517205:Nat):Int)from rfl,e1,show(4:Int)=((2 ^ 2:Nat):Int)from rfl,show(3689348814741910323:Int)=((3689348814741910323:Nat):Int)from rfl,e2,
  show(16:Int)=((2 ^ 4:Nat):Int)from rfl,show(1085102592571150095:Int)=((1085102592571150095:Nat):Int)from rfl,e3,show(256:Int)=((2 ^ 8:Nat):Int)from rfl,show(71777214294589695:Int)=((71777214294589695:Nat):Int)from rfl,e4,
  show(65536:Int)=((2 ^ 16:Nat):Int)from rfl,show(281470681808895:Int)=((281470681808895:Nat):Int)from rfl,e5];rw[show(4294967296:Int)=((2 ^ 32:Nat):Int)from rfl,<-Int.natCast_mul,wrapM];show Go.bits .or .u64 ((_ / 2 ^ 32:Nat):Int) _=_;rw[bits_orU (Nat.lt_of_le_of_lt (Nat.div_le_self _ _) h5) (Nat.mod_lt _ (by decide))];rfl
def rvM (q:Nat->Bool):Nat->Nat
 | 0=>0
 | k+1=>if q k=true then rvM q k ||| 2 ^ (63-k)else rvM q k
theorem rvM_bit (q:Nat->Bool):∀ n,n<=15->∀ j,(rvM q n).testBit j=(decide (63<j+n/\j<=63) && q (63-j))
 | 0,_,j=>by simp[rvM];omega
 | n+1,h,j=>by
  have ih:=rvM_bit q n (by omega) j
  simp only[rvM];by_cases c:j=63-n
  ·subst c;have e:63-(63-n)=n:=by omega
   rw[e]at ih⊢;have d1:decide (63<63-n+(n+1)/\63-n<=63)=true:=decide_eq_true (by omega);rw[d1,Bool.true_and];cases hq:q n with
   | true=>rw[if_pos rfl,Nat.testBit_or,Nat.testBit_two_pow];simp
   | false=>rw[if_neg (by simp),ih,hq,Bool.and_false]
  ·have d1:decide (63<j+(n+1)/\j<=63)=decide (63<j+n/\j<=63):=by rw[decide_eq_decide];omega
   rw[d1,<-ih];split
   ·rw[Nat.testBit_or,Nat.testBit_two_pow,decide_eq_false (λe=>c e.symm),Bool.or_false]
   ·rfl
theorem rvN_pow:∀ k,k<15->rvN (2 ^ k)=2 ^ (63-k):=by decide +kernel
theorem rvN_0:rvN 0=0:=by decide +kernel
theorem rvN_M (q:Nat->Bool):∀ n,n<=15->rvN (mkM q n)=rvM q n
 | 0,_=>rvN_0
 | n+1,h=>by
  have ih:=rvN_M q n (by omega)
  simp only[mkM,rvM];split
  ·rw[rvN_or,ih,rvN_pow n (by omega)]
  ·exact ih
theorem mkM_self {A:Nat} (h:A<32768):mkM A.testBit 15=A:=by
 refine Nat.eq_of_testBit_eq λi=>?_;rw[mkM_bit];by_cases c:i<15
 ·rw[decide_eq_true c,Bool.true_and]
 ·rw[decide_eq_false c,Bool.false_and,Nat.testBit_lt_two_pow (Nat.lt_of_lt_of_le (show A<2 ^ 15 by omega) (Nat.pow_le_pow_right (by decide) (by omega)))]
theorem rv_bit {A:Nat} (h:A<32768) (j:Nat):(rvN A).testBit j=(decide (63<j+15/\j<=63) && A.testBit (63-j)):=by
 have:=rvN_M A.testBit 15 (Nat.le_refl _)
 rw[mkM_self h]at this;rw[this,rvM_bit _ _ (Nat.le_refl _)]
theorem lt_bit {x y i:Nat} (h1:x.testBit i=false) (h2:y.testBit i=true) (h3:∀ j,i<j->x.testBit j=y.testBit j):x<y:=by
 have e:x / 2 ^ (i+1)=y / 2 ^ (i+1):=by rw[<-Nat.shiftRight_eq_div_pow,<-Nat.shiftRight_eq_div_pow];refine Nat.eq_of_testBit_eq λj=>?_;rw[Nat.testBit_shiftRight,Nat.testBit_shiftRight];exact h3 _ (by omega)
 have a:x % 2 ^ (i+1)<2 ^ i:=Nat.lt_pow_two_of_testBit _ λj hj=>by
  rw[Nat.testBit_mod_two_pow];by_cases c:j=i
  ·subst c;rw[h1,Bool.and_false]
  ·rw[decide_eq_false (by omega)];rfl
 have b:2 ^ i<=y % 2 ^ (i+1):=Nat.ge_two_pow_of_testBit (by rw[Nat.testBit_mod_two_pow,h2,decide_eq_true (by omega)];rfl)
 have c:=Nat.div_add_mod x (2 ^ (i+1))
 have d:=Nat.div_add_mod y (2 ^ (i+1))
 rw[e]at c;omega
theorem lex_rv {A B:Nat} (hA:A<32768) (hB:B<32768) (h:LexB A B):rvN B<rvN A:=by
 obtain⟨i,h1,h2,h3⟩:=h;have hi:=lt15_bit hA h1;refine lt_bit (i:=63-i) ?_ ?_ λj hj=>?_
 ·rw[rv_bit hB,show 63-(63-i)=i by omega,h2,Bool.and_false]
 ·rw[rv_bit hA,show 63-(63-i)=i by omega,h1,decide_eq_true (by omega)];rfl
 ·rw[rv_bit hA,rv_bit hB];by_cases c:63<j+15/\j<=63
  ·rw[decide_eq_true c,Bool.true_and,Bool.true_and,h3 (63-j) (by omega)]
  ·rw[decide_eq_false c];rfl
end Go.Bl
namespace Go.Proofs.YtnffcfhdnjbdbaaGreatDoor
open Go.Lw Go.Gl Go.Bl Go.RowKit Go.Sort
theorem lt_lex {s t:Nat} (hs:s<32768) (ht:t<32768):ltOf cfS s t=true↔LexB s t:=by
 have key:ltOf cfS s t=decide (rvN t<rvN s):=by
  unfold ltOf cfS;rw[wrapM,wrapM,Nat.mod_eq_of_lt (by omega),Nat.mod_eq_of_lt (by omega),rv_nat (by omega),rv_nat (by omega)];unfold cpI;rw[decide_eq_decide];split
  ·simp;omega
  ·split
   ·simp;omega
   ·simp;omega
 rw[key,decide_eq_true_eq];constructor
 ·intro h;by_cases c:s=t
  ·subst c;omega
  ·rcases lex_tot c with h1 | h1
   ·exact h1
   ·have:=lex_rv ht hs h1;omega
 ·exact lex_rv hs ht
theorem srt_lex {l:List Nat} (hl:∀ x∈l,x<32768) (hn:l.Nodup) (h:SrtL l):l.Pairwise LexB:=by
 rw[List.pairwise_iff_getElem];intro i j hi hj hij;have h1:=h i j _ _ hij (List.getElem?_eq_getElem hi) (List.getElem?_eq_getElem hj);have hne:l[i]≠l[j]:=λe=>by
  have:=(List.nodup_iff_pairwise_ne.1 hn)
  rw[List.pairwise_iff_getElem]at this;exact this i j hi hj hij e
 rcases lex_tot hne with h2 | h2
 ·exact h2
 ·rw[(lt_lex (hl _ (List.getElem_mem hj)) (hl _ (List.getElem_mem hi))).2 h2]at h1;cases h1
end Go.Proofs.YtnffcfhdnjbdbaaGreatDoor
namespace Go.Proofs.YtnffcfhdnjbdbaaGreatDoor
open Go.Lw Go.Gl Go.Bl Go.RowKit
abbrev sle (q:Option Addr×Nat×Nat):List Value:=[.slice q.1 q.2.1 q.2.2]
theorem sle_len (q:Option Addr×Nat×Nat):(sle q).length=1:=rfl
def SL (V:View) (v:Value) (ll:List (List Int)):Prop:=∃ qs:List (Option Addr×Nat×Nat),Sl V sle 1 v qs/\qs.length=ll.length/\∀ (i:Nat) (q:Option Addr×Nat×Nat) (l:List Int),qs[i]? = some q->ll[i]? = some l->SlI V (.slice q.1 q.2.1 q.2.2) l
theorem SL.le {V V':View} {v:Value} {ll:List (List Int)} (h:SL V v ll) (hl:Le V V'):SL V' v ll:=by obtain⟨qs,h1,h2,h3⟩:=h;exact⟨qs,h1.le hl,h2,λi q l a b=>(h3 i q l a b).le hl⟩
theorem SL.nil (V:View):SL V (.slice none 0 0) []:=⟨[],Sl.nil _ _ _,rfl,λi q l h=>by simp at h⟩
end Go.Proofs.YtnffcfhdnjbdbaaGreatDoor
namespace Go.Bl
open Go.Gl Go.Lw
structure AlI (no:Nat) (left:List Int) (k few:Nat) (out:List Nat):Prop where
 f15:few<=15
 nod:out.Nodup
 mem:∀ x,x∈out↔x<k/\(mtB x no=false/\exB left x=true)/\cnt x=few
 low:∀ x,x<k->(mtB x no=false/\exB left x=true)->few<=cnt x
 ne:few=15\/∃ x,x∈out
structure InsI (L:List Nat) (i k:Nat):Prop where
 ord:∀ a b x y,a<b->b<=i->a≠k->b≠k->L[a]? = some x->L[b]? = some y->LexB x y
 les:∀ b x y,k<b->b<=i->L[k]? = some x->L[b]? = some y->LexB x y
end Go.Bl
namespace Go.Proofs.YtnffcfhdnjbdbaaGreatDoor
open Go.Lw Go.Gl Go.Bl Go.RowKit
structure AlS (ts:List Tq) (L:List Nat):Prop where
 nod:L.Nodup
 ord:L.Pairwise LexB
 mem:∀ x,x∈L↔Ex (clA ts) (lsL ts) x/\∀ y,Ex (clA ts) (lsL ts) y->cnt x<=cnt y
end Go.Proofs.YtnffcfhdnjbdbaaGreatDoor
namespace Go.Bl
open Go.Gl Go.Lw
def tN (L:List Nat) (i:Nat):Nat:=(L.filter λx=>x.testBit i).length
def tlL (L:List Nat):List Int:=(List.range 15).map λi=>(tN L i:Int)
theorem tlL_len (L:List Nat):(tlL L).length=15:=by simp[tlL]
theorem tlL_at {L:List Nat} {i:Nat} (h:i<15):(tlL L)[i]? = some (tN L i:Int):=by simp[tlL,h]
theorem tN_le (L:List Nat) (i:Nat):tN L i<=L.length:=List.length_filter_le _ _
theorem tN_take {L:List Nat} {k x:Nat} (h:L[k]? = some x) (i:Nat):tN (L.take (k+1)) i=tN (L.take k) i+(if x.testBit i=true then 1 else 0):=by unfold tN;rw[take_snoc' h,List.filter_append,List.length_append];cases c:x.testBit i<;>simp[c]
theorem tN_zero {L:List Nat} {i:Nat} : tN L i=0↔∀ x∈L,x.testBit i=false:=by unfold tN;rw[List.length_eq_zero_iff,List.filter_eq_nil_iff];simp
def flN (L:List Nat) (p:Pq):Nat:=(L.filter λx=>mtB (cbN p) x).length
theorem flN_le (L:List Nat) (p:Pq):flN L p<=L.length:=List.length_filter_le _ _
theorem flN_take {L:List Nat} {p:Pq} {k x:Nat} (h:L[k]? = some x):flN (L.take (k+1)) p=flN (L.take k) p+(if mtB (cbN p) x=true then 1 else 0):=by unfold flN;rw[take_snoc' h,List.filter_append,List.length_append];cases c:mtB (cbN p) x<;>simp[c]
theorem fl_none {L:List Nat} {p:Pq} (hp:sndB p=true) (h:tlL L=List.replicate 15 0):flN L p=0:=by
 unfold flN;rw[List.length_eq_zero_iff,List.filter_eq_nil_iff];intro x hx hm;obtain⟨i,h1,h2⟩:=(mtB_iff _ _).1 hm;have hi:=lt15_bit (cbN_lt hp) h1;have e:=tlL_at (L:=L) hi;rw[h,List.getElem?_replicate,if_pos hi]at e;have e0:tN L i=0:=by simp only[Option.some.injEq]at e;omega
 rw[tN_zero.1 e0 x hx]at h2;cases h2
structure TlI (L:List Nat) (k x j:Nat) (g:List Int):Prop where
 len:g.length=15
 at_:∀ i:Nat,i<15->g[i]? = some ((tN (L.take k) i:Int)+(if (i:Int)∈(qy x 15).take j then 1 else 0))
theorem tlI_start {L:List Nat} {k x:Nat} : TlI L k x 0 (tlL (L.take k)):=⟨tlL_len _,λi hi=>by rw[tlL_at hi];simp⟩
theorem tlI_end {L:List Nat} {k x:Nat} {g:List Int} (hx:L[k]? = some x) (h:TlI L k x (qy x 15).length g):g=tlL (L.take (k+1)):=by
 apply List.ext_getElem?;intro i;by_cases hi:i<15
 ·rw[h.at_ i hi,tlL_at hi,tN_take hx,List.take_length];have hb:(i:Int)∈qy x 15↔x.testBit i=true:=by
   rw[bitL_mem];constructor
   ·rintro⟨m,h1,h2,h3⟩;obtain rfl:i=m:=by omega
    exact h3
   ·intro h;exact⟨i,hi,rfl,h⟩
  by_cases c:x.testBit i=true
  ·rw[if_pos (hb.2 c),if_pos c];push_cast;rfl
  ·rw[if_neg (λh=>c (hb.1 h)),if_neg c];simp
 ·rw[List.getElem?_eq_none (by rw[h.len];omega),List.getElem?_eq_none (by rw[tlL_len];omega)]
theorem tlI_step {L:List Nat} {k x j i:Nat} {g:List Int} {y:Int} (h:TlI L k x j g) (hj:(qy x 15)[j]? = some (i:Int)) (hi:i<15) (hy:g[i]? = some y):TlI L k x (j+1) (g.set i (y+1)):=by
 refine⟨by rw[List.length_set,h.len],λm hm=>?_⟩;have hni:(i:Int)∉(qy x 15).take j:=λhc=>by
  obtain⟨n,hn⟩:=List.mem_iff_getElem?.1 hc;have hnj:n<j:=by have:=(List.getElem?_eq_some_iff.1 hn).1;rw[List.length_take]at this;omega
  rw[List.getElem?_take,if_pos hnj]at hn;have hp:=bitL_lt x 15;rw[List.pairwise_iff_getElem]at hp;obtain⟨p1,e1⟩:=List.getElem?_eq_some_iff.1 hn;obtain⟨p2,e2⟩:=List.getElem?_eq_some_iff.1 hj;have:=hp n j p1 p2 hnj;omega
 rw[take_snoc' hj,List.getElem?_set];by_cases e:i=m
 ·subst e;rw[if_pos rfl,if_pos (by rw[h.len];exact hi)];have:=h.at_ i hi;rw[hy,if_neg hni]at this;simp only[Option.some.injEq]at this;rw[if_pos (by simp),this];simp
 ·rw[if_neg e,h.at_ m hm];have:((m:Int)∈(qy x 15).take j++[(i:Int)])↔(m:Int)∈(qy x 15).take j:=by
   rw[List.mem_append,List.mem_singleton];constructor
   ·rintro(h | h)
    ·exact h
    ·omega
   ·exact .inl
  simp only[this]
theorem tlI_bd {L:List Nat} {k x j:Nat} {g:List Int} (h:TlI L k x j g) {i:Nat} {y:Int} (hy:g[i]? = some y):0<=y/\y<=(L.length:Int)+1:=by
 have hi:i<15:=by have:=(List.getElem?_eq_some_iff.1 hy).1;rw[h.len]at this;exact this
 have:=h.at_ i hi
 rw[hy]at this;simp only[Option.some.injEq]at this;have hle:=tN_le (L.take k) i;rw[List.length_take]at hle;rw[this];split<;>omega
end Go.Bl
namespace Go.Proofs.YtnffcfhdnjbdbaaGreatDoor
open Go.Lw Go.Gl Go.Bl Go.RowKit
theorem arr_at {l:List Int} {i:Nat} {x:Int} (h:l[i]? = some x):(flat ei l)[i]? = some (iv x):=by rw[qU,List.getElem?_map,h];rfl
theorem plain3:Tryz.prog.plainKey 3=true:=by kernel_rfl
theorem cells3:Tryz.prog.cellsOf 3=1:=by kernel_rfl
theorem eqItems3 (w:World) (l m:List Int):∀ is:List Nat,(∀ i∈is,i<l.length/\i<m.length)->(Op.eqItems 9999 3 1 (flat ei l).toArray (flat ei m).toArray is).run Tryz.prog w=.ok (is.all λi=>decide (l.getD i 0=m.getD i 0)) w
 | [],_=>by simp[Op.eqItems]
 | i::is,h=>by
  obtain⟨h1,h2⟩:=h i (by simp);obtain⟨x,hx⟩:∃ x,l[i]? = some x:=⟨_,List.getElem?_eq_getElem h1⟩;obtain⟨y,hy⟩:∃ y,m[i]? = some y:=⟨_,List.getElem?_eq_getElem h2⟩;have ih:=eqItems3 w l m is λj hj=>h j (by simp[hj]);have p1:(part 3 (flat ei l).toArray (i*1)).run Tryz.prog w=.ok (iv x) w:=run_part_plain w plain3 (by rw[Nat.mul_one];simpa using arr_at hx);have p2:(part 3 (flat ei m).toArray (i*1)).run Tryz.prog w=.ok (iv y) w:=run_part_plain w plain3 (by rw[Nat.mul_one];simpa using arr_at hy);have e1:l.getD i 0=x:=by simp[List.getD,hx]
  have e2:m.getD i 0=y:=by simp[List.getD,hy]
  have p3:(Op.equalIn 9999 3 (iv x) (iv y)).run Tryz.prog w=.ok (x == y) w:=run_equalIn_int w 9998 3 .i64 .i64 x y Tryz.underlying3
  simp only[Op.eqItems,Sem.run_bind,p1,p2,p3,Result.andThen_ok,List.all_cons,e1,e2];by_cases c:x=y
  ·subst c;simp[ih]
  ·simp[c]
theorem eqS219 (l m:List Int) (h1:l.length=15) (h2:m.length=15):EqS Tryz.prog 219 (flat ei l) (flat ei m) (decide (l=m)):=by
 refine⟨by first | exact Tryz.eqGuardType219 | kernel_rfl,λw=>?_⟩;obtain⟨i3,hi3,_⟩:∃ i,Tryz.prog.info? 3=some i/\True:=by obtain⟨i,hi,_⟩:=jk rw3;exact⟨i,hi,trivial⟩
 have hb:((List.range 15).all λi=>decide (l.getD i 0=m.getD i 0))=decide (l=m):=by
  rw[Bool.eq_iff_iff,List.all_eq_true,decide_eq_true_eq];constructor
  ·intro h;apply List.ext_getElem?;intro i;by_cases hi:i<15
   ·have:=of_decide_eq_true (h i (List.mem_range.2 hi))
    obtain⟨x,hx⟩:∃ x,l[i]? = some x:=⟨_,List.getElem?_eq_getElem (by omega)⟩;obtain⟨y,hy⟩:∃ y,m[i]? = some y:=⟨_,List.getElem?_eq_getElem (by omega)⟩;simp only[List.getD,hx,hy,Option.getD_some]at this;rw[hx,hy,this]
   ·rw[List.getElem?_eq_none (by omega),List.getElem?_eq_none (by omega)]
  ·rintro rfl i _;simp
 rw[show(10000:Nat)=9999+1 from rfl,run_equalIn_array w 9999 _ _ Tryz.underlying219 hi3,cells3,eqItems3 w l m _ (λi hi=>by rw[List.mem_range]at hi;omega),hb]
theorem slice101 (b:Nat) (w:World):(Instr.sliceAt 219 (.pointer (some ⟨b,0,none⟩)) none none none).run Tryz.prog w=.ok (.slice (some ⟨b,0,none⟩) 15 15) w:=by kernel_rfl
theorem tally_f (L:List Nat) (hlt:∀ x∈L,x<32768) (hlen:L.length<=32768) (V:View) (v:Value) (hs:Sl V ste 1 v L):Fnc Tryz.prog 166 [v] V λr _=>r=.agg (flat ei (tlL L)).toArray:=by
 obtain⟨al,cl,rfl,hx1,hx2,_⟩:=id hs;clear hx1 hx2;refine zG Tryz.func166 rfl Tryz.ntmps166 (Nat.le_of_ble_eq_true rfl) ?_;intro w0 hw0;refine zb (tT 0 [1]) ?_;refine zW z219 ?_;intro b2;refine xq (tT 0 [1]) ?_;refine zW z219 ?_;intro b3;refine xq (tT 0 [0,2]) ?_;refine xE rfl trivial rfl (slice101 b3) (by decide) ?_;refine clearO rfl trivial Tryz.underlying34 z3 rfl (by kernel_rfl) rfl rfl (by repeat first|exact Upd.here|apply Upd.there) ?_ (us:=flat ei (tlL (L.take 0)));refine xq (tT 0 [0,0,0]) ?_;refine ze ?_;refine zZ Tryz.underlying207 ?_;refine ze ?_;refine AtT.dn ?_;refine xc (ι:=Nat) (KS:=λk=>[(2,.pointer (some ⟨b2,0,none⟩)),(3,.pointer (some ⟨b3,0,none⟩)),(9,.slice al L.length cl),(10,iv L.length),(11,iv k)])
  (OS:=λk=>[.blk b2 (LC (flat ei (List.replicate 15 0)) 219),.blk b3 (LC (flat ei (tlL (L.take k))) 219)])
  (VS:=λk V'=>Le V V'/\k<=L.length) (μ:=λk=>L.length-k) 0 ?_ ?_ ?_ ?_
 ·exact⟨rfl,rfl,rfl,rfl,rfl,trivial⟩
 ·exact Pt.zg
 ·exact⟨Le.refl _,Nat.zero_le _⟩
 rintro k V' ks' O' ⟨hVV,hkl⟩ hk hO hl2;subst hk hO;have hsv:=hs.le hVV;refine zb (tT 0 [0]) ?_;refine qc ?_;refine AtT.dn ?_;refine zI rfl (λhp=>?_) (λhp=>?_);rotate_left
 ·obtain rfl:k=L.length:=by omega
  rw[List.take_length];have hfl:(flat ei (tlL L)).length=15:=by rw[zU Lw.jP,tlL_len]
  have hall:(flat ei (tlL L)).all Value.oneCell'=true:=by rw[qU,List.all_map,List.all_eq_true];intro x _;rfl
  refine zb (tT 0 [0,2]) ?_;refine loadOA rfl trivial rfl tk219 zo.zg hfl (by decide) ?_;refine storeA rfl trivial rfl rfl tk219 hfl rfl hall (by repeat first|exact Upd.here|apply Upd.there) ?_;refine AtT.dn ?_;exact zL rfl (.agg rfl tk219 zo.zg hfl) rfl
 obtain⟨x,hx⟩:∃ x,L[k]? = some x:=⟨_,List.getElem?_eq_getElem (by omega)⟩;have hxb:=hlt x (List.mem_of_getElem? hx);have hbl:=cntK_le x 15;unfold cntK at hbl;refine nrm ?_;refine cutG (ι:=Nat) (λb5=>[(2,.pointer (some ⟨b2,0,none⟩)),(3,.pointer (some ⟨b3,0,none⟩)),(9,.slice al L.length cl),(10,iv L.length),(11,iv k),(5,.pointer (some ⟨b5,0,none⟩))]) (λb5=>[.blk b5 (LC (ste x) 200),.blk b2 (LC (flat ei (List.replicate 15 0)) 219),.blk b3 (LC (flat ei (tlL (L.take k))) 219)]) (λ_ V''=>V''=V') ?_ ?_
 ·refine zP (tT 0 [0,0,1,2]) ?_;refine kZ Tryz.underlying207 qG ?_;intro p13 e13 he13 hc13;obtain rfl:=qx hx he13;refine qo qG ?_;refine zW z200 ?_;intro b5;refine zH qG ?_;refine AtT.dn ?_;all_goals (exact qH b5 rfl ⟨rfl,rfl,rfl,rfl,rfl,rfl,trivial⟩ Pt.zg)
 rintro b5 V4 ks' O' rfl hk hO hl4;subst hk hO;refine zb (tT 0 [0,1,0,0]) ?_;refine qo qG ?_;refine kK rfl rfl ok153 (list_f x (by omega) _) ?_;rintro v16 V16 hV16 hs16;obtain⟨a16,c16,rfl,_⟩:=id hs16;refine zZ Tryz.underlying34 ?_;refine ze ?_;refine AtT.dn ?_;refine xc (ι:=Nat×List Int) (KS:=λg=>[(2,.pointer (some ⟨b2,0,none⟩)),(3,.pointer (some ⟨b3,0,none⟩)),(9,.slice al L.length cl),(10,iv L.length),(11,iv k),(16,.slice a16 (qy x 15).length c16),(17,iv (qy x 15).length),(18,iv g.1)])
  (OS:=λg=>[.blk b2 (LC (flat ei (List.replicate 15 0)) 219),.blk b3 (LC (flat ei g.2) 219)])
  (VS:=λg V''=>Le V16 V''/\g.1<=(qy x 15).length/\TlI L k x g.1 g.2) (μ:=λg=>(qy x 15).length-g.1) (0,tlL (L.take k)) ?_ ?_ ?_ ?_
 ·exact⟨rfl,rfl,rfl,rfl,rfl,rfl,rfl,rfl,trivial⟩
 ·exact Pt.zg
 ·exact⟨Le.refl _,Nat.zero_le _,tlI_start⟩
 rintro⟨j,g⟩ V5 ks' O' ⟨hV5,hjl,hti⟩ hk hO hl5;dsimp only at hjl hti hk hO;subst hk hO;have hs5:=hs16.le hV5;refine zb (tT 0 [0]) ?_;refine qc ?_;refine AtT.dn ?_;refine zI rfl (λhp3=>?_) (λhp3=>?_);rotate_left
 ·obtain rfl:j=(qy x 15).length:=by omega
  have hge:=tlI_end hx hti
  subst hge;refine zb (tT 0 [0,0]) ?_;refine zM ?_;refine ze ?_;refine AtT.dn ?_;refine At.round (k+1) ?_ ?_ ?_ ?_
  ·show L.length-(k+1)<L.length-k;omega
  ·exact⟨(hVV.trans hV16).trans hV5,by omega⟩
  ·exact⟨rfl,rfl,rfl,rfl,ivs (by omega),trivial⟩
  ·exact Pt.zg
 obtain⟨z,hz⟩:∃ z,(qy x 15)[j]? = some z:=⟨_,List.getElem?_eq_getElem (by omega)⟩;obtain⟨i,hi15,rfl,hib⟩:=bitL_mem.1 (List.mem_of_getElem? hz);have hgl:=hti.len;obtain⟨y,hy⟩:∃ y,g[i]? = some y:=⟨_,List.getElem?_eq_getElem (by omega)⟩;have hyb:=tlI_bd hti hy;have hoff:0+(i:Int).toNat*1=i:=by simp
 have hat:(flat ei g)[0+(i:Int).toNat*1]? = some (iv y):=by rw[hoff];exact arr_at hy
 have hgf:(flat ei g).length=15:=by rw[zU Lw.jP,hgl]
 have hset:(flat ei g).set (0+(i:Int).toNat*1) (iv (y+1))=flat ei (g.set i (y+1)):=by rw[hoff,qU,qU,List.map_set]
 refine zb (tT 0 [0,0,0]) ?_;refine kZ Tryz.underlying34 tk3 ?_;intro p20 e20 he20 hc20;obtain rfl:=qx hz he20;refine kV tk3 ?_;refine ax (tT 0 [0,0,0,0,0,2]) ?_;refine ze ?_;refine kidxA Tryz.underlying219 tk3 ?_;refine jM rfl trivial rfl tk3 zo.zg hat (by decide) ?_;refine zM ?_;refine kidxA Tryz.underlying219 tk3 ?_;refine store1 rfl trivial rfl rfl tk3 rfl rfl (by repeat first|exact Upd.here|apply Upd.there) (setAt_of (by rw[hoff,hgf];exact hi15) hset) ?_;refine xq (tT 0 [0,0]) ?_;refine zM ?_;refine ze ?_;refine AtT.dn ?_;refine At.round (j+1,g.set i (y+1)) ?_ ?_ ?_ ?_
 ·show(qy x 15).length-(j+1)<(qy x 15).length-j;omega
 ·exact⟨hV5,by dsimp only;omega,tlI_step hti hz hi15 hy⟩
 ·exact⟨rfl,rfl,rfl,rfl,rfl,rfl,rfl,ivs (by dsimp only;omega),trivial⟩
 ·exact Pt.zg
theorem fails_f (L:List Nat) (hlt:∀ x∈L,x<32768) (hlen:L.length<=32768) (p:Pq) (hp:sndB p=true) (V:View) (v:Value) (hs:Sl V ste 1 v L):Fnc Tryz.prog 167 [v,pqv p] V λr _=>r=iv (flN L p):=by
 obtain⟨al,cl,rfl,hx1,hx2,_⟩:=id hs;clear hx1 hx2;have hcb:=cbN_lt hp;refine zG Tryz.func167 rfl Tryz.ntmps167 (Nat.le_of_ble_eq_true rfl) ?_;intro w0 hw0;refine zb (tT 0 [1,0]) ?_;refine qQ ?_;intro b3;refine ax (tT 0 [0]) ?_;refine zh ?_;by_cases hz:tlL L=List.replicate 15 0
 ·refine zP (tT 0 [0,1,0,0]) ?_;refine ze ?_;refine zm rfl rfl ok166 (tally_f L hlt hlen _ _ hs) ?_;rintro _ rfl;refine qD (bd219) ?_;refine keqS (eqS219 (tlL L) (List.replicate 15 0) (tlL_len L) rfl) ?_;refine AtT.dn ?_;refine ql rfl (decide_eq_true hz) ?_;refine zb (tT 0 [0,0]) ?_;refine ze ?_;refine zh ?_;exact zL rfl (.tmp rfl) (by rw[fl_none hp hz];rfl)
 refine zP (tT 0 [0,1,0,0]) ?_;refine ze ?_;refine zm rfl rfl ok166 (tally_f L hlt hlen _ _ hs) ?_;rintro _ rfl;refine qD (bd219) ?_;refine keqS (eqS219 (tlL L) (List.replicate 15 0) (tlL_len L) rfl) ?_;refine AtT.dn ?_;refine zS rfl (decide_eq_false hz) ?_;refine zb (tT 0 [0,1,0,0]) ?_;refine qo tk123 ?_;refine zm rfl rfl ok152 (causes_f p hp _) ?_;rintro _ rfl;refine kfn ?_;refine ax (tT 0 [0,0,0]) ?_;refine ze ?_;refine zZ Tryz.underlying207 ?_;refine ze ?_;refine AtT.dn ?_;refine xc (ι:=Nat) (KS:=λk=>[(5,iv (flN (L.take k) p)),(6,.func (.func 157) #[stv (cbN p)] #[]),(17,.slice al L.length cl),(18,iv L.length),(19,iv k)])
  (OS:=λk=>[])
  (VS:=λk V'=>V'=V/\k<=L.length) (μ:=λk=>L.length-k) 0 ?_ ?_ ?_ ?_
 ·exact⟨rfl,rfl,rfl,rfl,rfl,trivial⟩
 ·exact Pt.zg
 ·exact⟨rfl,Nat.zero_le _⟩
 rintro k V' ks' O' ⟨rfl,hkl⟩ hk hO hl2;subst hk hO;refine zb (tT 0 [0]) ?_;refine qc ?_;refine AtT.dn ?_;refine zI rfl (λhp2=>?_) (λhp2=>?_);rotate_left
 ·obtain rfl:k=L.length:=by omega
  rw[List.take_length];refine zb (tT 0 [0,0]) ?_;refine ze ?_;refine zh ?_;exact zL rfl (.tmp rfl) rfl
 obtain⟨x,hx⟩:∃ x,L[k]? = some x:=⟨_,List.getElem?_eq_getElem (by omega)⟩;have hxb:=hlt x (List.mem_of_getElem? hx);have hst:=flN_take (p:=p) hx;have hfl:=flN_le (L.take k) p;rw[List.length_take]at hfl;have hmeet:Fnc Tryz.prog 157 ([stv (cbN p)]++[stv x]++[]) V' λr _=>r=.bool (mtB (cbN p) x):=meets_f (cbN p) x (by omega) (by omega) V';refine nrmB ?_;refine cutG (ι:=Unit) (λ_=>[(5,iv (flN (L.take (k+1)) p)),(6,.func (.func 157) #[stv (cbN p)] #[]),(17,.slice al L.length cl),(18,iv L.length),(19,iv k)]) (λ_=>[]) (λ_ V''=>V''=V') ?_ ?_
 ·refine zb (tT 0 [0,0,1,2]) ?_;refine kZ Tryz.underlying207 qG ?_;intro p21 e21 he21 hc21;obtain rfl:=qx hx he21;refine qo qG ?_;refine zW z200 ?_;intro b8;refine zH qG ?_;refine xq (tT 0 [0,0,1]) ?_;refine ze ?_;refine qo qG ?_;refine jD rfl rfl rfl ok157 (hmeet) ?_;rintro _ rfl;refine AtT.dn ?_;cases hm:mtB (cbN p) x with
  | true=>
   rw[hm,if_pos rfl]at hst;refine ql rfl rfl ?_;refine zb (tT 0 [0,0,0]) ?_;refine ze ?_;refine zM ?_;refine zh ?_;refine qH () rfl ⟨?_,rfl,rfl,rfl,rfl,trivial⟩ Pt.zg;exact ivs (by omega)
  | false=>rw[hm,if_neg (by decide)]at hst;refine zS rfl rfl ?_;refine nrm ?_;refine qH () rfl ⟨?_,rfl,rfl,rfl,rfl,trivial⟩ Pt.zg;exact ivs (by omega)
 rintro _ V3 ks' O' rfl hk hO hl3;subst hk hO;refine zb (tT 0 [0,0]) ?_;refine zM ?_;refine ze ?_;refine AtT.dn ?_;refine At.round (k+1) ?_ ?_ ?_ ?_
 ·show L.length-(k+1)<L.length-k;omega
 ·exact⟨rfl,by omega⟩
 ·exact⟨rfl,rfl,rfl,rfl,ivs (by omega),trivial⟩
 ·exact Pt.zg
end Go.Proofs.YtnffcfhdnjbdbaaGreatDoor
namespace Go.Bl
open Go.Gl Go.Lw
def stL (t s:Nat):List Nat:=if mtB t s=true then [s]else ((List.range 15).filter λi=>t.testBit i).map λi=>s ||| 2 ^ i
def gsL (ls:List Nat):Nat->List Nat
 | 0=>[0]
 | k+1=>(gsL ls k).flatMap (stL (ls.getD k 0))
theorem mem_stL {t s x:Nat} : x∈stL t s↔Stp t s x:=by
 unfold stL Stp;by_cases c:mtB t s=true
 ·rw[if_pos c];simp[c]
 ·rw[if_neg c];have c':mtB t s=false:=by simpa using c
  simp only[c',List.mem_map,List.mem_filter,List.mem_range];constructor
  ·rintro⟨i,⟨h1,h2⟩,h3⟩;exact .inr ⟨trivial,i,h1,h2,h3.symm⟩
  ·rintro(⟨h,_⟩ | ⟨_,i,h1,h2,h3⟩)
   ·cases h
   ·exact⟨i,⟨h1,h2⟩,h3.symm⟩
theorem mem_gsL {ls:List Nat} : ∀ {k x:Nat},x∈gsL ls k↔GsK ls k x
 | 0,x=>by simp[gsL,GsK]
 | k+1,x=>by simp only[gsL,GsK,List.mem_flatMap,mem_stL,mem_gsL]
def lexT (A B:Nat):Bool:=(List.range 15).any λi=>A.testBit i && !B.testBit i && (List.range i).all λj=>A.testBit j == B.testBit j
theorem lexT_law {A B:Nat} (h:lexT A B=true):LexB A B:=by obtain⟨i,_,h2⟩:=List.any_eq_true.1 h;simp only[Bool.and_eq_true,Bool.not_eq_true',List.all_eq_true,List.mem_range,beq_iff_eq]at h2;exact⟨i,h2.1.1,h2.1.2,h2.2⟩
def pwB:List Nat->Bool
 | []=>true
 | x::l=>l.all (lexT x) && pwB l
theorem pwB_law:∀ {l:List Nat},pwB l=true->l.Pairwise LexB
 | [],_=>List.Pairwise.nil
 | x::l,h=>by simp only[pwB,Bool.and_eq_true,List.all_eq_true]at h;exact List.Pairwise.cons (λy hy=>lexT_law (h.1 y hy)) (pwB_law h.2)
def insT (x:Nat):List Nat->List Nat
 | []=>[x]
 | y::l=>if x=y then y::l else if lexT x y=true then x::y::l else y::insT x l
def mnL (G:List Nat):Nat:=G.foldl (λm x=>min m (cnt x)) 99
def smR (G:List Nat) (mn:Nat):List Nat:=(G.filter λx=>Nat.ble (cnt x) mn).foldl (λl x=>insT x l) []
def smC (G lc:List Nat) (mn:Nat):Bool:=!lc.isEmpty && pwB lc && lc.all (λx=>G.contains x && Nat.ble (cnt x) mn) && G.all λx=>Nat.ble mn (cnt x) && (lc.contains x || !Nat.ble (cnt x) mn)
theorem smC_law {ls lc l:List Nat} {mn:Nat} (h:smC (gsL ls ls.length) lc mn=true) (ho:l.Pairwise LexB) (hm:∀ x,x∈l↔GsK ls ls.length x/\∀ y,GsK ls ls.length y->cnt x<=cnt y):l=lc:=by
 unfold smC at h;simp only[Bool.and_eq_true,List.all_eq_true,List.contains_iff_mem,Nat.ble_eq,Bool.or_eq_true,Bool.not_eq_true']at h;obtain⟨⟨⟨h0,h1⟩,h2⟩,h3⟩:=h;refine lex_ext ho (pwB_law h1) λx=>?_;rw[hm];constructor
 ·rintro⟨a,b⟩;rcases(h3 x (mem_gsL.2 a)).2 with c | c
  ·exact c
  ·cases lc with
   | nil=>cases h0
   | cons y lc=>obtain⟨k1,k2⟩:=h2 y (by simp);have:=b y (mem_gsL.1 k1);rw[Nat.ble_eq_true_of_le (by omega)]at c;cases c
 ·intro hx;obtain⟨a,b⟩:=h2 x hx;exact⟨mem_gsL.1 a,λy hy=>Nat.le_trans b (h3 y (mem_gsL.2 hy)).1⟩
end Go.Bl
namespace Go.Ev
open Go.Lw Go.RowKit Go.Proofs
def args3 {Z:Type} (l:List AV) (K:AV->AV->AV->Option Z):Option Z:=List.rec (motive:=λ_=>(AV->AV->AV->Option Z)->Option Z) (λ_=>none) (λx l _ K=>jW l (K x)) l K
theorem args3_law {Z:Type} {z:Z} {l:List AV} {K:AV->AV->AV->Option Z} (h:args3 l K=some z):∃ x y w,l=[x,y,w]/\K x y w=some z:=by
 cases l with
 | nil=>cases h
 | cons x l=>obtain⟨y,w,e,h'⟩:=jL (l:=l) (K:=K x) h;exact⟨x,y,w,by rw[e],h'⟩
abbrev toM (s:Sm):Go.Mt.Ms:=⟨s.p,s.m⟩
theorem flat_toM (S:List Sm):flat Go.Mt.mse (S.map toM)=flat Go.Cu.sme S:=by unfold flat;rw[List.flatMap_map]
def ilF (l:List Int) (K:List Int->R):R:=List.rec (motive:=λ_=>(List Int->R)->R) (λK=>K []) (λx _ ih K=>nI x λx=>ih λr=>K (x::r)) l K
theorem ilF_eq:∀ (l:List Int) (K:List Int->Ev.R),ilF l K=K l
 | [],K=>rfl
 | x::l,K=>by
  have e:ilF (x::l) K=nI x λx=>ilF l λr=>K (x::r):=rfl
  rw[e,nI_eq,ilF_eq l]
def okMb (F to:Int) (S:List Sm):Bool:=qO 1 F && qO F 6 && qO 0 to && qO (to+1) F && Nat.ble S.length 10 && S.all λs=>qO 0 s.p && qO (s.p+1) F && qO 0 s.m && qO (s.m+1) F
def rd2 {Z:Type} (l:List Sc) (K:Int->So->Option Z):Option Z:=match l with | [.i .i64 F,.o so]=>K F so | _=>none
def orFar:Orc:=.mk λargs h K=>args3 args λbp tv wv=>asP bp λid off=>gd (Nat.beq off 0) (asI tv λk1 to=>gd (Nat.beq (kNo k1) (kNo .i64)) (asI wv λk2 wo=>gd (Nat.beq (kNo k2) (kNo .i64)) (jd h id λE n t=>gd (Nat.ble 2 n) (getL t 0 2 λr=>rd2 r λF so=>
 sliceS h so λi o m=>csE i o m 2 h λ_ cs=>obn (prs cs) λS=>gd (okMb F to S) (ilF (Go.Mt.farL (S.map toM) to wo) λl=>K (.a (l.map λx=>.i .i64 x)) h)))))
theorem il_dn {e:Env} : ∀ l:List Int,zB (DnC e) (l.map λx=>.i .i64 x) (Go.Mt.ivl l)
 | []=>trivial
 | _::l=>⟨⟨rfl,rfl⟩,il_dn l⟩
theorem far_ok (w0:World):FOk w0 orFar.g 23:=by
 intro e h K z args us w hh ha R;refine⟨by rw[jf];exact zf Tryz.func23 (by kernel_rfl) (by kernel_rfl),?_⟩;have hh':args3 args _=some z:=hh;obtain⟨bp,tv,wv,rfl,hq⟩:=args3_law hh';obtain⟨id,off,rfl,hq⟩:=qW hq;obtain⟨g1,hq⟩:=zk hq;have:=Nat.eq_of_beq_eq_true g1;subst this;obtain⟨k1,to,rfl,hq⟩:=qB hq;obtain⟨g2,hq⟩:=zk hq;have hk1:k1=.i64:=by
  have:=Nat.eq_of_beq_eq_true g2
  cases k1<;>first | rfl | cases this
 subst hk1;obtain⟨k2,wo,rfl,hq⟩:=qB hq;obtain⟨g3,hq⟩:=zk hq;have hk2:k2=.i64:=by
  have:=Nat.eq_of_beq_eq_true g3
  cases k2<;>first | rfl | cases this
 subst hk2;obtain⟨E,n,t,hb,hq⟩:=qI hq;obtain⟨g4,hq⟩:=zk hq;obtain⟨r,r1,r2,hq⟩:=kQ hq;unfold rd2 at hq;split at hq;rotate_left
 ·cases hq
 rename_i F so
 match us,ha with
 | [u,v,v2],ha=>
  obtain⟨hd,rfl⟩:e.dom id/\u=.pointer (some (adr e id 0)):=ha.1;obtain rfl:v=.int .i64 to:=ha.2.1;obtain rfl:v2=.int .i64 wo:=ha.2.2.1;obtain⟨us3,u1,u2,u3⟩:=R.row hd hb r2 (by have:=Nat.le_of_ble_eq_true g4;simpa using this)
  match us3,u2 with
  | [v0,v1],u2=>
   obtain rfl:v0=.int .i64 F:=u2.1.1;have hv1:DnO e so v1:=u2.2.1.1;obtain⟨i,o,m,c,rfl,hdi,hmc,hcm,hq⟩:=sliceS_law R hq hv1;obtain⟨cs,us,hq,hcl,hcu,hcc⟩:=csE_cells R hdi hq;obtain⟨S,hS,hq⟩:=zA hq;obtain⟨g5,hfin⟩:=zk hq;rw[ilF_eq]at hfin;unfold okMb at g5;simp only[Bool.and_eq_true,jr,decide_eq_true_eq]at g5;obtain⟨⟨⟨⟨⟨a1,a2⟩,a3⟩,a4⟩,a5⟩,a6⟩:=g5;have a5:=Nat.le_of_ble_eq_true a5;obtain⟨rfl,hlen⟩:=prs_law hS hcu;have hm:m=S.length:=by omega
   subst hm;have hsl:Sl (hp w) Go.Mt.mse 2 (.slice (some (adr e i o)) (S.map toM).length c) (S.map toM):=Sl.of_cells (λ_=>rfl) (λj u hj=>by rw[jy];exact hcc j u (by rw[<-flat_toM];exact hj)) (by rw[List.length_map];exact hmc) hcm;have hE:Go.Mt.MbOk F (S.map toM):=⟨⟨a1,a2⟩,by rw[List.length_map];exact a5,λs hs=>by
    obtain⟨x,hx,rfl⟩:=List.mem_map.1 hs;have:=List.all_eq_true.1 a6 x hx;simp only[Bool.and_eq_true,jr,decide_eq_true_eq]at this;dsimp only;omega⟩;have hsh:jb (hp w) ⟨e.blk id,1,none⟩=some (.slice (some (adr e i o)) (S.map toM).length c):=by
    rw[List.length_map,jy];have:=u3 1 _ rfl;rwa[je,Nat.zero_add]at this
   have F':=YtnffcfhdnjbdbaaGreatDoor.M.far_f (b:=e.blk id) ⟨hsh,hsl⟩ hE to wo ⟨by omega,by omega⟩
   refine FOk.val (x:=.a ((Go.Mt.farL (S.map toM) to wo).map λx=>.i .i64 x)) R hfin ⟨_,rfl,il_dn _⟩ ?_;rw[jf];refine(F' w (Le.refl _)).mono λen w' ⟨q,V',h1,h2,h3,h4,h5,h6⟩=>⟨?_,h2⟩;rw[h1,h6]
  | [],u2=>exact u2.elim
  | [_],u2=>exact u2.2.elim
  | _::_::_::_,u2=>exact u2.2.2.elim
 | [],ha=>exact ha.elim
 | [_],ha=>exact ha.2.elim
 | [_,_],ha=>exact ha.2.2.elim
 | _::_::_::_::_,ha=>exact ha.2.2.2.elim
def O6 (f:FuncId):Option Orc:=bif Nat.beq f 23 then some orFar else O1 f
theorem oc6 (w0:World):OcOk w0 O6:=by
 intro f o h;unfold O6 at h;cases c:Nat.beq f 23 with
 | true=>
  rw[c]at h;obtain rfl:=Nat.eq_of_beq_eq_true c;cases h;exact @far_ok w0
 | false=>rw[c]at h;exact oc1 w0 f o h
end Go.Ev
namespace Go.Proofs.YtnffcfhdnjbdbaaGreatDoor.P
open Go.Lw Go.Gl Go.Pm Go.RowKit
theorem share2_f (s:Sh) (hok:ShOk s) (z x:Int) (hz:0<=z/\z<((knL s).length:Int)) (hx:0<=x/\x<((knL s).length:Int)) (V:View) (b:Nat) (p3 p8:Addr) (hb:BnV V b s) (q3:Cells V p3 [.func (.func 15) #[.pointer (some ⟨b,0,none⟩)] #[]]) (q8:Cells V p8 [iv x]) :
  Fnc Tryz.prog 17 ([]++[iv z]++[.pointer (some p3),.pointer (some p8)]) V λr _=>r=.bool (shI (gdS s) (knL s) z x):=by
 obtain⟨i,rfl⟩:∃ i:Nat,z=(i:Int):=⟨z.toNat,by omega⟩;obtain⟨k,rfl⟩:∃ k:Nat,x=(k:Int):=⟨x.toNat,by omega⟩;have hf:=λV' (hV:Le V V')=>share_f s hok i k (by omega) (by omega) V' b (hb.le hV);refine zG Tryz.func17 rfl Tryz.ntmps17 (Nat.le_of_ble_eq_true rfl) ?_;intro w0 hw0;refine zb (tT 0 [0]) ?_;refine ax (tT 0 [0,0,0,1,0]) ?_;refine kV tk56 ?_;refine ze ?_;refine kV tk3 ?_;refine jD rfl rfl rfl ok15 (hf _ (Le.refl _)) ?_;rintro _ rfl;refine zh ?_;exact zL rfl (.tmp rfl) (by unfold shI;rw[Int.toNat_natCast,Int.toNat_natCast])
theorem checkAlone_f (s:Sh) (l:List Int) (V:View) (v u:Value) (hv:ShV V v s) (hl:SlI V u l):Fnc Tryz.prog 7 [v,u] V λr _=>r=iv (cAe s l):=by
 obtain⟨a,c,rfl,hs⟩:=id hv;obtain⟨a1,c1,rfl,k1,k2,_⟩:=id hl;clear k1 k2;have hlen:=hl.jC;refine zG Tryz.func7 rfl Tryz.ntmps7 (Nat.le_of_ble_eq_true rfl) ?_;intro w0 hw0;refine zb (tT 0 [1,0]) ?_;refine qQ ?_;intro b2;refine zh ?_;by_cases h0:chE s=0;rotate_left
 ·refine zP (tT 0 [0,1,0,0,0,0,0]) ?_;refine qo tk24 ?_;refine kK rfl rfl ok13 (open_bad s h0 _ _ hv) ?_;rintro v15 V15 hV15 rfl;refine ze ?_;refine zx ?_;refine zx ?_;refine zu ?_;refine zh ?_;refine zb (tT 0 [0,0]) ?_;refine ze ?_;refine kJ ?_;refine AtT.dn ?_;refine ql rfl (decide_eq_true h0) ?_;refine zb (tT 0 [0,0]) ?_;refine ze ?_;refine zh ?_;exact zL rfl (.tmp rfl) (by unfold cAe;rw[if_pos h0])
 have hok:=chE_ok h0
 have hkn:=hok.kn
 have e0:¬ chE s≠0:=by simpa using h0
 refine zP (tT 0 [0,1,0,0,0,0,0]) ?_;refine qo tk24 ?_;refine kK rfl rfl ok13 (open_ok s h0 _ _ hv) ?_;rintro v15 V15 hV15 ⟨b,rfl,hb⟩;refine ze ?_;refine zx ?_;refine zx ?_;refine zu ?_;refine zh ?_;obtain⟨ab,cb,ak,ck,hc0,hc1,hc2,hc3,hsb,hsk⟩:=bn_get hb;have hl2:=hl.le hV15;refine zb (tT 0 [0,0]) ?_;refine ze ?_;refine kJ ?_;refine AtT.dn ?_;refine zS rfl rfl ?_;refine zb (tT 0 [0]) ?_;refine ax (tT 0 [0,0,0]) ?_;refine ze ?_;refine zZ Tryz.underlying34 ?_;refine ze ?_;refine AtT.dn ?_;refine xc (ι:=Nat) (KS:=λk=>[(1,.slice a1 l.length c1),(5,.pointer (some ⟨b,0,none⟩)),(7,iv (prevN l k)),(21,.slice a1 l.length c1),(22,iv l.length),(23,iv k)]) (OS:=λ_=>[])
  (VS:=λk V'=>Le V15 V'/\k<=l.length/\∀ j,j<k->okAt l (knL s).length j=true) (μ:=λk=>l.length-k) 0 ?_ ?_ ?_ ?_
 ·exact⟨rfl,rfl,rfl,rfl,rfl,rfl,trivial⟩
 ·exact Pt.zg
 ·exact⟨Le.refl _,Nat.zero_le _,λj hj=>absurd hj (Nat.not_lt_zero j)⟩
 rintro k V' ks' O' ⟨hVV,hkl,hokk⟩ hk hO hl3;subst hk hO;have hp0:=prevN_pos hokk;have hl3:=hl2.le hVV;have hc2':=hc2.le hVV;have hsk':=hsk.le hVV;refine zb (tT 0 [0]) ?_;refine qc ?_;refine AtT.dn ?_;refine zI rfl (λhp=>?_) (λhp=>?_)
 ·obtain⟨x,hx⟩:∃ x,l[k]? = some x:=⟨_,List.getElem?_eq_getElem (by omega)⟩;have hgx:l.getD k 0=x:=by simp[List.getD,hx]
  refine zb (tT 0 [0,0,0]) ?_;refine kZ Tryz.underlying34 tk3 ?_;intro p25 e25 he25 hc25;refine kV tk3 ?_;obtain rfl:=qx hx he25;refine zh ?_;by_cases c1':prevN l k<=x/\x<=((knL s).length:Int)-1
  ·refine zb (tT 0 [0,0,0,0,0,0,0,0,1,1,0]) ?_;refine ze ?_;refine ze ?_;refine jh ?_;refine zw fo55_1 ?_;refine kV tk51 ?_;refine zZ Tryz.underlying51 ?_;refine k_sb ?_;refine ze ?_;refine zy (zR _) ?_;intro q35 V35 hV35 hq35;have g35:Le V V35:=by first | exact hV35 | exact Le.trans (by assumption) hV35
   refine zm rfl rfl ok14 (qd (prevN l k) (((knL s).length:Int)-1) [x] _ _ (Sl.lit hq35 rfl (by simp))) ?_;rintro _ rfl;rw[wi_1,decide_eq_true c1'];refine xn ?_;refine AtT.dn ?_;refine zS rfl rfl ?_;refine zb (tT 0 [0,0,0]) ?_;refine ze ?_;refine zM ?_;refine ax (tT 0 [0,0]) ?_;refine zM ?_;refine ze ?_;refine AtT.dn ?_;refine At.round (k+1) ?_ ?_ ?_ ?_
   ·show l.length-(k+1)<l.length-k;omega
   ·refine⟨hVV.trans (by assumption),by omega,λj hj=>?_⟩;by_cases hjk:j=k
    ·subst hjk;unfold okAt;rw[hgx];exact decide_eq_true (by omega)
    ·exact hokk j (by omega)
   ·exact⟨rfl,rfl,ivs (by simp only[prevN];rw[hgx]),rfl,rfl,ivs (by omega),trivial⟩
   ·exact Pt.zg
  ·refine zb (tT 0 [0,0,0,0,0,0,0,0,1,1,0]) ?_;refine ze ?_;refine ze ?_;refine jh ?_;refine zw fo55_1 ?_;refine kV tk51 ?_;refine zZ Tryz.underlying51 ?_;refine k_sb ?_;refine ze ?_;refine zy (zR _) ?_;intro q35 V35 hV35 hq35;have g35:Le V V35:=by first | exact hV35 | exact Le.trans (by assumption) hV35
   refine zm rfl rfl ok14 (qd (prevN l k) (((knL s).length:Int)-1) [x] _ _ (Sl.lit hq35 rfl (by simp))) ?_;rintro _ rfl;rw[wi_1,decide_eq_false c1'];refine xn ?_;refine AtT.dn ?_;refine ql rfl rfl ?_;have hno:lstB l (knL s).length=false:=lstB_false (k:=k) (by omega) (by unfold okAt;rw[hgx];exact decide_eq_false (by omega));refine zb (tT 0 [0]) ?_;refine zh ?_;exact zL rfl (.tmp rfl) (by unfold cAe;rw[if_neg e0,if_pos hno])
 obtain rfl:k=l.length:=by omega
 have hlst:=lstB_true hokk
 have hin:=lstB_in hlst
 have e1:¬ lstB l (knL s).length=false:=by rw[hlst];simp
 have hb2:=hb.le hVV
 refine zb (tT 0 [0,0,1,2]) ?_;refine ze ?_;refine kfn ?_;refine zW z56 ?_;intro b10;first | refine qK tk56 ?_ | refine zH tk56 ?_
 refine AtT.dn ?_;refine jN (b:=b10) zo.zg (λV2 hV2 hb10=>?_);have q10:=zQ hb10;have hb3:=hb2.le hV2;have hl4:=hl3.le hV2;refine zP (tT 0 [0,0,0]) ?_;refine ze ?_;refine zZ Tryz.underlying34 ?_;refine ze ?_;refine AtT.dn ?_;refine xc (ι:=Nat) (KS:=λk=>[(1,.slice a1 l.length c1),(10,.pointer (some ⟨b10,0,none⟩)),(43,.slice a1 l.length c1),(44,iv l.length),(45,iv k)]) (OS:=λ_=>[])
  (VS:=λk V'=>Le V2 V'/\k<=l.length/\∀ j x,j<k->l[j]? = some x->shS (shI (gdS s) (knL s)) (l.take j) x=false) (μ:=λk=>l.length-k) 0 ?_ ?_ ?_ ?_
 ·exact⟨rfl,rfl,rfl,rfl,rfl,trivial⟩
 ·exact Pt.zg
 ·exact⟨Le.refl _,Nat.zero_le _,λj x hj=>absurd hj (Nat.not_lt_zero j)⟩
 rintro k V3 ks' O' ⟨hV3,hkl,hall⟩ hk hO hl5;subst hk hO;have hl5:=hl4.le hV3;refine zb (tT 0 [0]) ?_;refine qc ?_;refine AtT.dn ?_;refine zI rfl (λhp2=>?_) (λhp2=>?_);rotate_left
 ·obtain rfl:k=l.length:=by omega
  have hyes:=okS_yes (S:=shI (gdS s) (knL s)) (l:=l) λj x hj=>hall j x (List.getElem?_eq_some_iff.1 hj).1 hj
  refine zb (tT 0 [0]) ?_;refine zh ?_;exact zL rfl (.tmp rfl) (by unfold cAe;rw[if_neg e0,if_neg e1,if_neg (by rw[hyes];simp)])
 obtain⟨x,hx⟩:∃ x,l[k]? = some x:=⟨_,List.getElem?_eq_getElem (by omega)⟩;have hxin:=hin x (List.mem_of_getElem? hx);refine zb (tT 0 [0,0,0,1,0,2]) ?_;refine ze ?_;refine kZ Tryz.underlying34 tk3 ?_;intro p48 e48 he48 hc48;refine kV tk3 ?_;obtain rfl:=qx hx he48;refine zW z3 ?_;intro b12;refine zu ?_;first | refine qK tk3 ?_ | refine zH tk3 ?_
 refine AtT.dn ?_;refine jN (b:=b12) zo.zg (λV4 hV4 hb12=>?_);have q12:=zQ hb12;have hb5:=(hb3.le hV3).le hV4;have q10':=(q10.le hV3).le hV4;have hl6:=hl5.le hV4;refine zb (tT 0 [0,0,0,0,1]) ?_;refine ze ?_;refine ze ?_;refine khead Tryz.underlying34 tk3 ?_;intro a52 c52 hs52;refine kfn ?_;refine zm rfl rfl ok16 (jF 17 [.pointer (some ⟨b10,0,none⟩),.pointer (some ⟨b12,0,none⟩)] (λz=>shI (gdS s) (knL s) z x) _ _ _ hs52 ok17 (λz hz=>share2_f s hok z x (hin z (List.mem_of_mem_take hz)) hxin _ b _ _ hb5 q10' q12)) ?_;rintro _ rfl;refine AtT.dn ?_;refine At.cond rfl (λhc=>?_) (λhc=>?_)
 ·have hno:okS (shI (gdS s) (knL s)) l=false:=okS_no hx (by rw[Int.toNat_natCast]at hc;exact hc)
  refine zb (tT 0 [0]) ?_;refine zh ?_;exact zL rfl (.tmp rfl) (by unfold cAe;rw[if_neg e0,if_neg e1,if_pos hno])
 ·refine zb (tT 0 [0,0]) ?_;refine zM ?_;refine ze ?_;refine AtT.dn ?_;refine At.round (k+1) ?_ ?_ ?_ ?_
  ·show l.length-(k+1)<l.length-k;omega
  ·refine⟨hV3.trans hV4,by omega,λj y hj hy=>?_⟩;by_cases e:j=k
   ·subst e;rw[hx]at hy;cases hy;rw[Int.toNat_natCast]at hc;exact hc
   ·exact hall j y (by omega) hy
  ·exact⟨rfl,rfl,rfl,rfl,ivs (by omega),trivial⟩
  ·exact Pt.zg
end Go.Proofs.YtnffcfhdnjbdbaaGreatDoor.P
namespace Go.Pm
open Go.Gl Go.Lw
structure Gat (N:Nat) (S:Nat->Nat->Bool) (i:Nat) (P:List Int):Prop where
 fst:(i:Int)∈P
 nd:P.Nodup
 rch:∀ x∈P,∃ k:Nat,x=(k:Int)/\k<N/\Rch N S i k
theorem gat_start {N:Nat} {S:Nat->Nat->Bool} {i:Nat} (hi:i<N):Gat N S i [(i:Int)]:=⟨by simp,by simp,λx hx=>by rw[List.mem_singleton]at hx;exact⟨i,hx,hi,.refl⟩⟩
theorem gat_len {N:Nat} {S:Nat->Nat->Bool} {i:Nat} {P:List Int} (h:Gat N S i P):P.length<=N:=by
 have h1:(P.map Int.toNat).Nodup:=by refine List.pairwise_map.2 (h.nd.imp_of_mem λ {a b} ha hb hne e=>?_);obtain⟨k,rfl,_,_⟩:=h.rch a ha;obtain⟨m,rfl,_,_⟩:=h.rch b hb;rw[Int.toNat_natCast,Int.toNat_natCast]at e;exact hne (by rw[e])
 have:=nodup_lt h1 (n:=N) λx hx=>by obtain⟨y,hy,rfl⟩:=List.mem_map.1 hx;obtain⟨k,rfl,hk,_⟩:=h.rch y hy;rwa[Int.toNat_natCast]
 rwa[List.length_map]at this
theorem gat_add {N:Nat} {S:Nat->Nat->Bool} {i j k:Nat} {P:List Int} (h:Gat N S i P) (hj:(j:Int)∈P) (hk:k<N) (hS:S j k=true) (hn:(k:Int)∉P):Gat N S i (P++[(k:Int)]):=by
 refine⟨List.mem_append_left _ h.fst,List.nodup_append.2 ⟨h.nd,by simp,λa ha b hb e=>?_⟩,λx hx=>?_⟩
 ·rw[List.mem_singleton]at hb;subst hb;subst e;exact hn ha
 ·rcases List.mem_append.1 hx with hx | hx
  ·exact h.rch x hx
  ·rw[List.mem_singleton]at hx;obtain⟨j',e,hj',hr⟩:=h.rch _ hj;have:j'=j:=by omega
   subst this;exact⟨k,hx,hk,.step hr hk hS⟩
def Cls (N:Nat) (S:Nat->Nat->Bool) (P:List Int) (j:Nat):Prop:=∀ (u:Nat) (a:Nat),u<j->P[u]? = some (a:Int)->∀ k,k<N->S a k=true->(k:Int)∈P
theorem cls_add {N:Nat} {S:Nat->Nat->Bool} {P:List Int} {j:Nat} {x:Int} (h:Cls N S P j) (hj:j<=P.length):Cls N S (P++[x]) j:=λu a hu ha k hk hs=>by rw[List.getElem?_append_left (by omega)]at ha;exact List.mem_append_left _ (h u a hu ha k hk hs)
theorem gat_end {N:Nat} {S:Nat->Nat->Bool} {i:Nat} {P:List Int} (hi:i<N) (h:Gat N S i P) (hc:Cls N S P P.length) {l:List Int} (hp:l.Perm P) (hs:l.Pairwise (· < ·)):IsPart N S i l:=by
 refine⟨hs,λx=>⟨λhx=>?_,?_⟩⟩
 ·obtain⟨k,e,_,hr⟩:=h.rch x (hp.mem_iff.1 hx);exact⟨k,e,hr⟩
 ·rintro⟨k,rfl,hr⟩;rw[hp.mem_iff];induction hr with
  | refl=>exact h.fst
  | step h1 hk hS ih=>obtain⟨u,hu⟩:=List.getElem?_of_mem ih;exact hc u _ (List.getElem?_eq_some_iff.1 hu).1 hu _ hk hS
end Go.Pm
