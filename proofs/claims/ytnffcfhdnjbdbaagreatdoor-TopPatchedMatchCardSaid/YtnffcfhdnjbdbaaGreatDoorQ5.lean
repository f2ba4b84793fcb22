/- A part. -/
import Derived.Great.BuildSlice
import Derived.Laws.MakeOwn
import Derived.RangeFuncNested
import Derived.Test.YtnffcfhdnjbdbaaGreatDoorQ4
set_option linter.unusedVariables false
set_option linter.unusedSimpArgs false
set_option linter.unusedSectionVars false
set_option linter.constructorNameAsVariable false
noncomputable section
namespace Go.Ev
open Go.Lw Go.RowKit
theorem pa_law {Z:Type} {z:Z} {X:TypeId} {K:Nat×Nat×Nat×Bool->Option Z} (h:pa X K=some z):∃ n E s ag,(Pr.underlying X=some (.array n E)\/∃ A,Pr.underlying X=some (.pointer A)/\Pr.underlying A=some (.array n E))/\tkB Pr E=some (ag,s)/\K (n,E,s,ag)=some z:=by
 have key:∀ Y,Option.rec (motive:=λ_=>(Nat×Nat×Nat×Bool->Option Z)->Option Z) (λ_=>none) (λz K=>K z) (arB Y) K=some z->∃ n E s ag,Pr.underlying Y=some (.array n E)/\tkB Pr E=some (ag,s)/\K (n,E,s,ag)=some z:=λY h=>ar_law (X:=Y) h
 unfold pa paB at h;split at h
 ·rename_i A hA;obtain⟨n,E,s,ag,h1,h2,h3⟩:=key A h;exact⟨n,E,s,ag,.inr ⟨A,hA,h1⟩,h2,h3⟩
 ·obtain⟨n,E,s,ag,h1,h2,h3⟩:=key X h;exact⟨n,E,s,ag,.inl h1,h2,h3⟩
theorem slice_law {e:Env} {τ:L3} {a:Act} {x r:AV} {X:TypeId} {lo hi mx:Option Operand} {u:Value} (h:sliceE x X lo hi mx τ=some r) (hx:Dn e x u) (h1:∀ o,lo=some o->Dn e ((evO o).v τ) (a.eval o)) (h2:∀ o,hi=some o->Dn e ((evO o).v τ) (a.eval o))
  (h3:∀ o,mx=some o->Dn e ((evO o).v τ) (a.eval o)):∃ q,Dn e r q/\Gives (Instr.sliceAt X u (optV a lo) (optV a hi) (optV a mx)) q:=by
 obtain⟨hM,h⟩:=zk h;have hM':hi=none->mx=none:=λk=>by
  subst k;cases mx with
  | none=>rfl
  | some _=>cases hM
 have ov:∀ {o:Option Operand},o=none->optV a o=none:=λk=>by rw[k];rfl
 -- the bounds that were read are those of the model
 have bnd:∀ {isS:Bool} {len cap l n m:Nat},(lo=none/\l=0\/∃ k,optV a lo=some (.int k (l:Int)))->(hi=none/\n=len\/∃ k,optV a hi=some (.int k (n:Int)))->(mx=none/\m=cap\/∃ k,optV a mx=some (.int k (m:Int)))->l<=n->n<=m->m<=cap->
   (mx=none->hi=none->l<=len)->Gives (Instr.sliceBounds isS len cap (optV a lo) (optV a hi) (optV a mx)) (l,n,m):=λ {isS len cap l n m} b1 b2 b3 c1 c2 c3 c4=>by
  refine bounds_law (b1.imp (λk=>⟨ov k.1,k.2⟩) id) (b2.imp (λk=>⟨ov k.1,k.2,ov (hM' k.1)⟩) id) (b3.imp (λk=>⟨ov k.1,k.2⟩) id) c1 c2 c3 λk1 k2=>c4 ?_ ?_
  ·cases mx with | none=>rfl | some _=>cases k1
  ·cases hi with | none=>rfl | some _=>cases k2
 have rd:∀ {o:Option Operand} {d:Nat} {K:Nat->Option AV},(∀ y,o=some y->Dn e ((evO y).v τ) (a.eval y))->qf o τ d K=some r->∃ m,(o=none/\m=d\/∃ k,optV a o=some (.int k (m:Int)))/\K m=some r:=λ {o d K} ho hk=>by
  rcases optI_law hk ho with ⟨k1,k2⟩ | ⟨k,m,k1,k2⟩
  ·exact⟨d,.inl ⟨k1,rfl⟩,k2⟩
  ·exact⟨m,.inr ⟨k,k1⟩,k2⟩
 have run:∀ {E s len cap l n m:Nat} {ag:Bool} {p:Option Addr},Pr.underlying X=some (.slice E)->tkB Pr E=some (ag,s)->Gives (Instr.sliceBounds true len cap (optV a lo) (optV a hi) (optV a mx)) (l,n,m)->Gives (Instr.sliceAt X (.slice p len cap) (optV a lo) (optV a hi) (optV a mx)) (sliced p l n m s):=λ {E s len cap l n m ag p} hX hE hb w=>by
  have hX':Pr.underlying X=some (.slice (Pr.elem X)):=by simp[Program.elem,hX]
  have hEl:Pr.elem X=E:=by simp[Program.elem,hX]
  rw[run_sliceAt_slice w X _ _ _ _ hX',run_slice_any w X p len cap hX',hb w];simp only[Result.andThen_ok,hEl,Go.Lw.run_sizeOf hE]
 cases x with
 | x s=>
  cases s with
  | p id off=>
   obtain⟨hd,rfl⟩:=hx;have h':(pa X λq=>qf lo τ 0 λl=>qf hi τ q.1 λu=>qf mx τ q.1 λm=>gd (Nat.ble l u && Nat.ble u m && Nat.ble m q.1) (cut id off q.2.2.1 l u m))=some r:=h;obtain⟨n,E,s,ag,hX,hE,h'⟩:=pa_law h';obtain⟨l,b1,h'⟩:=rd h1 h';obtain⟨u,b2,h'⟩:=rd h2 h';obtain⟨m,b3,h'⟩:=rd h3 h';obtain⟨c,h'⟩:=zk h';simp only[Bool.and_eq_true,Nat.ble_eq]at c;refine⟨_,cut_law h' hd (by omega),λw=>?_⟩;have hb:=bnd (isS:=false) b1 b2 b3 c.1.1 c.1.2 c.2 (λk1 k2=>by rcases b2 with hk | ⟨k,hk⟩<;>first | (obtain⟨_,hk⟩:=hk;omega) | (rw[ov k2]at hk;cases hk)) w;rcases hX with hX | ⟨A,hX,hA⟩
   ·simp only[Instr.sliceAt,Sem.run_bind,run_underlying hX,Result.andThen_ok,Instr.sureAddr,Sem.run_pure,hb,Go.Lw.run_sizeOf hE];simp only[sliced,Option.map_some];congr 3;split<;>rfl
   ·simp only[Instr.sliceAt,Instr.slice,asAddr,Sem.run_bind,run_underlying hX,run_underlying hA,Result.andThen_ok,Sem.run_pure,hb,Go.Lw.run_sizeOf hE];simp only[sliced,Option.map_some];congr 3;split<;>rfl
  | o x=>
   cases x with
   | s id off len cap=>
    obtain⟨hd,rfl⟩:=hx;have h':(el X λ_ s=>qf lo τ 0 λl=>qf hi τ len λu=>qf mx τ cap λm=>gd (Nat.ble l u && Nat.ble u m && Nat.ble m cap) (cut id off s l u m))=some r:=h;obtain⟨E,s,ag,hX,hE,h'⟩:=el_law h';obtain⟨l,b1,h'⟩:=rd h1 h';obtain⟨u,b2,h'⟩:=rd h2 h';obtain⟨m,b3,h'⟩:=rd h3 h';obtain⟨c,h'⟩:=zk h';simp only[Bool.and_eq_true,Nat.ble_eq]at c;exact⟨_,cut_law h' hd (by omega),run hX hE (bnd b1 b2 b3 c.1.1 c.1.2 c.2 (λk1 k2=>by rcases b2 with hk | ⟨k,hk⟩<;>first | (obtain⟨_,hk⟩:=hk;omega) | (rw[ov k2]at hk;cases hk)))⟩
   | w id off len ct=>
    obtain⟨hd,rfl,hle⟩:=hx;have h':(el X λ_ s=>qf lo τ 0 λl=>qf hi τ len λu=>Option.rec (motive:=λ_=>Option AV) (gd (Nat.ble l u && Nat.ble u len) (jV (Nat.blt l len || Nat.beq l 0) (nat (off+l*s) λo=>nat (u-l) λn=>nat (ct+l) λc=>some (.x (.o (.w id o n c)))) (some (.x (.o .e))))) (λmo=>qf (some mo) τ 0 λm=>gd (Nat.ble l u && Nat.ble u m && Nat.ble m len) (cut id off s l u m)) mx)=some r:=h;obtain⟨E,s,ag,hX,hE,h'⟩:=el_law h';obtain⟨l,b1,h'⟩:=rd h1 h';obtain⟨u,b2,h'⟩:=rd h2 h';cases mx with
    | some mo=>
     have h'':(qf (some mo) τ 0 λm=>gd (Nat.ble l u && Nat.ble u m && Nat.ble m len) (cut id off s l u m))=some r:=h'
     obtain⟨m,b3,h''⟩:=rd h3 h'';obtain⟨c,h''⟩:=zk h'';simp only[Bool.and_eq_true,Nat.ble_eq]at c;have b3':∃ k,optV a (some mo)=some (.int k (m:Int)):=b3.resolve_left λk=>by cases k.1
     exact⟨_,cut_law h'' hd (by omega),run hX hE (bnd b1 b2 (.inr b3') c.1.1 c.1.2 (by omega) (λk1 k2=>by cases k1))⟩
    | none=>
     obtain⟨c,h''⟩:=zk h';simp only[Bool.and_eq_true,Nat.ble_eq]at c;have hb:=bnd (isS:=true) (cap:=e.cap id-ct) (m:=e.cap id-ct) b1 b2 (.inl ⟨rfl,rfl⟩) c.1 (by omega) (Nat.le_refl _) (λk1 k2=>by rcases b2 with hk | ⟨k,hk⟩<;>first | (obtain⟨_,hk⟩:=hk;omega) | (rw[ov k2]at hk;cases hk));refine⟨sliced (some (adr e id off)) l u (e.cap id-ct) s,?_,run hX hE hb⟩;cases hc:(Nat.blt l len || Nat.beq l 0)with
     | true=>
      rw[hc]at h'';have h4:(nat (off+l*s) λo=>nat (u-l) λn=>nat (ct+l) λc=>some (AV.x (.o (.w id o n c))))=some r:=h'';rw[nat_eq,nat_eq,nat_eq]at h4;cases h4;refine⟨hd,?_,by omega⟩;unfold sliced;have e2:e.cap id-ct-l=e.cap id-(ct+l):=by omega
      rw[e2];congr 1;split
      ·rename_i hm;simp only[Bool.or_eq_true,zT,decide_eq_true_eq,Nat.blt_eq]at hc;have:l=0:=by omega
       subst this;simp
      ·simp[je]
     | false=>
      rw[hc]at h'';cases h'';simp only[Bool.or_eq_false_iff,zT,decide_eq_false_iff_not]at hc;have hl:¬ l<len:=λk=>by have:=hc.1;rw[show Nat.blt l len=true from by simpa [Nat.blt_eq]using k]at this;cases this
      have:u-l=0:=by omega
      obtain⟨p,c',hp⟩:∃ p c',sliced (some (adr e id off)) l u (e.cap id-ct) s=.slice p (u-l) c':=⟨_,_,rfl⟩;rw[this]at hp;exact⟨p,c',hp⟩
   | e=>
    obtain⟨p,cap,rfl⟩:=hx;have h':(el X λ_ _=>qf lo τ 0 λl=>qf hi τ 0 λu=>Option.rec (motive:=λ_=>Option AV) (gd (Nat.beq (l+u) 0) (some (.x (.o .e)))) (λ_=>none) mx)=some r:=h;obtain⟨E,s,ag,hX,hE,h'⟩:=el_law h';obtain⟨l,b1,h'⟩:=rd h1 h';obtain⟨u,b2,h'⟩:=rd h2 h';cases mx with
    | some mo=>cases h'
    | none=>
     obtain⟨c,h''⟩:=zk h';cases h'';simp only[zT,decide_eq_true_eq]at c;obtain⟨rfl,rfl⟩:l=0/\u=0:=by omega
     exact⟨_,⟨_,_,rfl⟩,run hX hE (bnd (m:=cap) b1 b2 (.inl ⟨rfl,rfl⟩) (Nat.le_refl _) (Nat.zero_le _) (Nat.le_refl _) (λ_ _=>Nat.le_refl _))⟩
   | c v=>
    obtain rfl:=hx.1;clear hx;have h':slV u X lo hi mx τ=some r:=h;unfold slV at h';split at h'
    ·obtain⟨E,s,ag,hX,hE,h'⟩:=el_law h';obtain⟨l,b1,h'⟩:=rd h1 h';obtain⟨u,b2,h'⟩:=rd h2 h';obtain⟨m,b3,h'⟩:=rd h3 h';obtain⟨c,h'⟩:=zk h';cases h';simp only[zT,decide_eq_true_eq]at c;obtain⟨⟨rfl,rfl⟩,rfl⟩:(l=0/\u=0)/\m=0:=by omega
     exact⟨_,⟨rfl,rfl⟩,run hX hE (bnd b1 b2 b3 (Nat.le_refl _) (Nat.le_refl _) (Nat.le_refl _) (λ_ _=>Nat.le_refl _))⟩
    ·rename_i s _;obtain⟨hS,h'⟩:=zk h';have hX:=isSt_law hS;split at h'
     ·obtain⟨l,b1,h'⟩:=rd h1 h';obtain⟨u,b2,h'⟩:=rd h2 h';obtain⟨c,h'⟩:=zk h';cases h';simp only[Bool.and_eq_true,Nat.ble_eq]at c;have hb:=bnd (isS:=false) (cap:=s.size) (m:=s.size) b1 b2 (.inl ⟨rfl,rfl⟩) c.1 c.2 (Nat.le_refl _) (λk1 k2=>by rcases b2 with hk | ⟨k,hk⟩<;>first | (obtain⟨_,hk⟩:=hk;omega) | (rw[ov k2]at hk;cases hk));refine⟨_,⟨rfl,rfl⟩,λw=>?_⟩;rw[run_sliceAt_string w X _ _ _ _ hX];have hb':=hb w;have hn:optV a (none:Option Operand)=none:=rfl;rw[hn]at hb';simp only[Instr.slice,Sem.run_bind,run_underlying hX,Result.andThen_ok,hn,Option.isSome_none,Bool.false_eq_true,if_false,Sem.run_pure,hb']
     ·cases h'
    ·cases h'
   | _=>cases h
  | _=>cases h
 | _=>cases h
theorem len_p {e:Env} {T:TypeId} {l:List Operand} {g:L3->Option AV} (hk:lenK T l=.p g) {τ:L3} {r:AV} (h:g τ=some r) {us:List Value} (hl:zB (Dn e) (l.map λo=>(evO o).v τ) us) (ts:List TypeId) (ty:TypeId):∃ q,Dn e r q/\Gives (Builtin.len_ ⟨T::ts⟩ ty ⟨us⟩) q:=by
 unfold lenK at hk;split at hk
 ·cases hk
 ·rename_i E hT;cases hk;have h':=qV h;obtain⟨x,hx,h'⟩:=jm h';rw[hx]at hl;cases us with
  | nil=>exact hl.elim
  | cons u us=>
   cases us with
   | cons=>exact hl.2.elim
   | nil=>
    obtain⟨o,rfl,Hn⟩:=qj h';clear h';have h':=Hn;clear Hn;have fin:∀ p n c,u=.slice p n c->Gives (Builtin.len_ ⟨T::ts⟩ ty ⟨[u]⟩) (.int .i64 n):=λp n c hu w=>by subst hu;simp[Builtin.len_,run_underlying hT,goInt]
    split at h'
    ·obtain rfl:=kN h';exact⟨_,rfl,fin _ _ _ hl.1.2⟩
    ·obtain rfl:=kN h';exact⟨_,rfl,fin _ _ _ hl.1.2.1⟩
    ·obtain rfl:=kN h';obtain⟨p,c,hu⟩:=hl.1;exact⟨_,rfl,fin _ _ _ hu⟩
    ·obtain rfl:=kN h';exact⟨_,rfl,fin _ _ _ hl.1.1⟩
    ·cases h'
 ·rename_i hT;cases hk;have h':=qV h;obtain⟨x,hx,h'⟩:=jm h';rw[hx]at hl;cases us with
  | nil=>exact hl.elim
  | cons u us=>
   cases us with
   | cons=>exact hl.2.elim
   | nil=>
    obtain⟨o,rfl,Hn⟩:=qj h';clear h';have h':=Hn;clear Hn;split at h'
    ·rename_i s;have h2:(nat s.size λn=>gd (Nat.blt n 9223372036854775808) (some (AV.i .i64 (.ofNat n))))=some r:=h';rw[nat_eq]at h2;obtain⟨_,h2⟩:=zk h2;cases h2;obtain⟨rfl,_⟩:=hl.1;exact⟨_,rfl,λw=>by simp[Builtin.len_,run_underlying hT,goInt]⟩
    ·cases h'
 ·cases hk
theorem cap_law {e:Env} {T:TypeId} {x r:AV} {u:Value} (hT:sliceT T=true) (h:(asO x λx=>cpO x)=some r) (hx:Dn e x u) (ts:List TypeId) (ty:TypeId):∃ q,Dn e r q/\Gives (Builtin.cap_ ⟨T::ts⟩ ty ⟨[u]⟩) q:=by
 unfold sliceT at hT;split at hT
 ·rename_i E hu;obtain⟨o,rfl,h'⟩:=qj h;have fin:∀ p n c,u=.slice p n c->Gives (Builtin.cap_ ⟨T::ts⟩ ty ⟨[u]⟩) (.int .i64 c):=λp n c hu' w=>by subst hu';simp[Builtin.cap_,run_underlying hu,goInt]
  cases o with
  | s id off l c=>
   have h2:iLn c=some r:=h'
   obtain rfl:=kN h2;exact⟨_,rfl,fin _ _ _ hx.2⟩
  | c v=>
   have h2:nlV v (iLn 0)=some r:=h'
   unfold nlV at h2;split at h2
   ·obtain rfl:=kN h2;exact⟨_,rfl,fin _ _ _ hx.1⟩
   ·cases h2
  | _=>cases h'
 ·cases hT
theorem spl_law {Z:Type} {z:Z} {off:Nat} {cs l:List Sc} {K:List Sc->Option Z} (h:spl off cs l K=some z):off+cs.length<=l.length/\K (l.take off++cs++l.drop (off+cs.length))=some z:=by unfold spl at h;obtain⟨_,h⟩:=tke_law h;obtain⟨h1,h2⟩:=zk h;simp only[Nat.ble_eq,qz]at h1;rw[jJ,jJ,drp_eq,qz,<-List.append_assoc]at h2;exact⟨h1,h2⟩
theorem foldSet:∀ (cu us:List Value) (off k:Nat),off+k+cu.length<=us.length->(cu.zipIdx k).foldl (λ(cs:Array Value) (p:Value×Nat)=>cs.setIfInBounds (off+p.2) p.1) ⟨us⟩=⟨us.take (off+k)++cu++us.drop (off+k+cu.length)⟩
 | [],us,off,k,h=>by simp
 | c::cu,us,off,k,h=>by
  simp only[List.length_cons]at h;rw[List.zipIdx_cons,List.foldl_cons];have e1:(Array.mk us).setIfInBounds (off+k) c=⟨us.set (off+k) c⟩:=by simp
  rw[e1,foldSet cu (us.set (off+k) c) off (k+1) (by simp;omega)];congr 1;have e2:off+(k+1)=off+k+1:=by omega
  have e3:off+k+1+cu.length=off+k+(cu.length+1):=by omega
  rw[e2,e3,List.take_succ_eq_append_getElem (by simp;omega),List.take_set_of_le (by omega),List.drop_set_of_lt (by omega)];simp
theorem fill_law {Z:Type} {z:Z} {e:Env} {X:TypeId} {τ:L3} {a:Act} {place:Nat->Option (Nat×Nat)} (hpl:∀ i q,plB X i=some q->place i=some q):∀ {ps:List (Nat×Operand)} {l:List Sc} {us:List Value} {K:List Sc->Option Z},fillE X τ ps l K=some z->
  (∀ p∈ps,Dn e ((evO p.2).v τ) (a.eval p.2))->zB (DnC e) l us->∃ l' us',K l'=some z/\zB (DnC e) l' us'/\l'.length=l.length/\Instr.fill place ⟨us⟩ (ps.map λp=>(p.1,a.eval p.2))=some ⟨us'⟩
 | [],l,us,K,h,_,hu=>⟨l,us,h,hu,rfl,rfl⟩
 | p::ps,l,us,K,h,hp,hu=>by
  have h':Option.rec (motive:=λ_=>Option Z) none (λq=>cellsOf ((evO p.2).v τ) λcs=>gd (Nat.beq (len cs) q.2) (spl q.1 cs l λl=>fillE X τ ps l K)) (plB X p.1)=some z:=h
  cases hq:plB X p.1 with
  | none=>rw[hq]at h';cases h'
  | some q=>
   rw[hq]at h';obtain⟨cs,cu,h',hcu,hc⟩:=cellsOf_law (K:=λcs=>gd (Nat.beq (len cs) q.2) (spl q.1 cs l λl=>fillE X τ ps l K)) h' (hp p (by simp));obtain⟨h1,h'⟩:=zk h';simp only[zT,decide_eq_true_eq,qz]at h1;obtain⟨h2,h'⟩:=spl_law h';have hcl:=hc.length;have hul:=hu.length;have hu':zB (DnC e) (l.take q.1++cs++l.drop (q.1+cs.length)) (us.take q.1++cu++us.drop (q.1+cu.length)):=by rw[<-hcl];exact((hu.take _).append hc).append (hu.drop _)
   obtain⟨l',us',k1,k2,k3,k4⟩:=fill_law hpl h' (λp hp'=>hp p (List.mem_cons_of_mem _ hp')) hu';refine⟨l',us',k1,k2,by rw[k3];simp;omega,?_⟩;obtain⟨q1,q2⟩:=q;rw[List.map_cons];simp only[Instr.fill,hpl _ _ hq,hcu];have hs:¬ ((Array.mk cu).size≠q2 || q1+(Array.mk cu).size > (Array.mk us).size)=true:=by simp only[List.size_toArray,ne_eq,decide_not,Bool.or_eq_true,Bool.not_eq_true',decide_eq_false_iff_not,decide_eq_true_eq,not_or,Decidable.not_not];exact⟨by rw[<-hcl];exact h1,by omega⟩
   rw[if_neg hs];have e1:(Array.mk cu).zipIdx.foldl (λ(cs:Array Value) (p:Value×Nat)=>cs.setIfInBounds (q1+p.2) p.1) ⟨us⟩=⟨us.take q1++cu++us.drop (q1+cu.length)⟩:=by rw[<-Array.foldl_toList,Array.toList_zipIdx];have:=foldSet cu us q1 0 (by omega);simpa using this
   rw[<-k4];congr 1
theorem zero_law (e:Env) {T:TypeId} {l:List Sc} (h:(zeroE T).g=some l):∃ zv us,zK Pr T=some zv/\zv.cells=⟨us⟩/\zB (DnC e) l us:=by
 unfold zeroE at h;cases hz:zK Pr T with
 | none=>rw[hz]at h;cases h
 | some v=>rw[hz]at h;have h':cellsOf (ofV v) some=some l:=h;obtain⟨m,us,h1,h2,h3⟩:=cellsOf_law h' (ofV_law e v);cases h1;exact⟨v,us,rfl,h2,h3⟩
theorem zeroB_info {T:TypeId} {z:Value} (h:zK Pr T=some z):∃ i,Pr.info? T=some i/\i.zero=some z:=by
 unfold zK at h;cases hi:Pr.info? T with
 | none=>rw[hi]at h;cases h
 | some i=>rw[hi]at h;exact⟨i,rfl,h⟩
theorem places_some:∀ {fs:List Field},(fs.all λf=>(tkB Pr f.type).isSome)=true->∃ places:List (Nat×Nat),fs.mapM (λf=>(Pr.info? f.type).map λi=>(f.offset,i.size))=some places/\places.length=fs.length/\∀ (i:Nat) (f:Field) (q:Bool×Nat),fs[i]? = some f->tkB Pr f.type=some q->places[i]? = some (f.offset,q.2)
 | [],_=>⟨[],by simp,rfl,λi f q h=>by simp at h⟩
 | f::fs,h=>by
  simp only[List.all_cons,Bool.and_eq_true]at h;obtain⟨q,hq⟩:=Option.isSome_iff_exists.1 h.1;obtain⟨ti,hi,hs⟩:=tk_info (t:=f.type) (ag:=q.1) (s:=q.2) hq;obtain⟨pl,h1,h2,h3⟩:=places_some h.2;refine⟨(f.offset,ti.size)::pl,by simp[List.mapM_cons,hi,h1],by simp[h2],λi g r hg hr=>?_⟩;cases i with
  | zero=>simp at hg;subst hg;rw[hq]at hr;cases hr;simp[hs]
  | succ i=>simp at hg⊢;exact h3 i g r hg hr
theorem build_law {e:Env} {X:TypeId} {τ:L3} {a:Act} {ps:List (Nat×Operand)} {r:AV} (h:buildE X ps τ=some r) (hp:∀ p∈ps,Dn e ((evO p.2).v τ) (a.eval p.2)):∃ q,Dn e r q/\Gives (Instr.build X (ps.map λp=>(p.1,a.eval p.2)).toArray) q:=by
 obtain⟨hA,h⟩:=zk h;obtain⟨l,hl,h⟩:=zA h;obtain⟨zv,us,hz,hzc,hzu⟩:=zero_law e hl;obtain⟨it,hit,hiz⟩:=zeroB_info hz;have fin:∀ place:Nat->Option (Nat×Nat),(∀ i q,plB X i=some q->place i=some q)->(∀ cells,Instr.fill place zv.cells (ps.map λp=>(p.1,a.eval p.2))=some cells->Pr.built X (ps.map λp=>(p.1,a.eval p.2))=some cells)->∃ q,Dn e r q/\Gives (Instr.build X (ps.map λp=>(p.1,a.eval p.2)).toArray) q:=λplace h1 h2=>by obtain⟨l',us',k1,k2,_,k4⟩:=fill_law (place:=place) h1 h hp hzu;cases k1;refine⟨.agg ⟨us'⟩,⟨us',rfl,k2⟩,λw=>run_build w X _ ⟨us'⟩ ?_⟩;exact h2 _ (by rw[hzc];exact k4)
 unfold aggT at hA;split at hA
 ·rename_i fs hu;obtain⟨pl,p1,p2,p3⟩:=places_some hA;refine fin (pl.toArray[·]?) (λi q hq=>?_) (λcells hc=>?_)
  ·unfold plB at hq;simp only[hu]at hq;obtain⟨_,hq⟩:=zk hq;split at hq
   ·rename_i fd hfd;cases ht:tkB Pr fd.type with
    | none=>rw[ht]at hq;cases hq
    | some t=>rw[ht]at hq;cases hq;have:=p3 i fd t (by simpa using hfd) ht;simpa using this
   ·cases hq
  ·unfold Program.built;simp only[hit,hu,hiz,p1];exact hc
 ·rename_i n E hu;obtain⟨t,ht⟩:=Option.isSome_iff_exists.1 hA;obtain⟨ie,hie,hse⟩:=tk_info (t:=E) (ag:=t.1) (s:=t.2) ht;refine fin (λi=>some (i*ie.size,ie.size)) (λi q hq=>?_) (λcells hc=>?_)
  ·unfold plB at hq;simp only[hu,ht,Option.map_some,Option.some.injEq]at hq;rw[<-hq,hse]
  ·unfold Program.built;simp only[hit,hu,hiz,hie];exact hc
 ·cases hA
/-! ### New blocks -/
theorem repL_get {l:List Sc} : ∀ {m j:Nat},j<m*l.length->(repL l m)[j]? = l[j % l.length]?
 | 0,j,h=>by simp at h
 | m+1,j,h=>by
  have e:repL l (m+1)=l++repL l m:=jJ l (repL l m)
  rw[e];by_cases c:j<l.length
  ·rw[List.getElem?_append_left c,Nat.mod_eq_of_lt c]
  ·have c':l.length<=j:=by omega
   rw[List.getElem?_append_right c',repL_get (by rw[Nat.add_mul]at h;omega),<-Nat.mod_eq_sub_mod c']
theorem rep_law {e:Env} {l:List Sc} {us:List Value} (h:zB (DnC e) l us) (m:Nat):zB (DnC e) (repL l m) ((List.range (m*l.length)).map λi=>(Array.mk us)[i % us.length]!):=by
 refine zB.of_at (by rw[repL_len];simp) λj x y hx hy=>?_;have hj:j<m*l.length:=by
  have:=(List.getElem?_eq_some_iff.1 hx).1
  rwa[repL_len]at this
 have h0:0<l.length:=by
  rcases Nat.eq_zero_or_pos l.length with c | c
  ·rw[c]at hj;omega
  ·exact c
 rw[repL_get hj]at hx;have hlt:j % l.length<us.length:=by rw[<-h.length];exact Nat.mod_lt _ h0
 simp[hj]at hy;refine h.at hx ?_;rw[<-h.length]at hy;rw[<-hy,List.getElem?_eq_getElem hlt];simp[getElem!_def,List.getElem?_eq_getElem hlt]
theorem cellsN_law {E:TypeId} {l:List Sc} {b:B} (h:cellsN E l=some b):∃ t,b=.c E l.length t/\l.length<=kU t/\∀ j s,l[j]? = some s->t.get (0+j)=.x s:=by unfold cellsN at h;rw[nat_eq]at h;obtain⟨t,h1,h⟩:=TV.emp_law h;rw[qz]at h1;obtain⟨t',c1,h,g1,_⟩:=setL_law h (by omega);cases h;rw[qz];exact⟨t',rfl,by omega,g1⟩
theorem rowN_law {E:TypeId} {l:List Sc} {b:B} (h:rowN E l=some b):∃ t,b=.r E l.length t/\l.length<=kU t/\∀ j s,l[j]? = some s->t.get (0+j)=.x s:=by unfold rowN at h;rw[nat_eq]at h;obtain⟨t,h1,h⟩:=TV.emp_law h;rw[qz]at h1;obtain⟨t',c1,h,g1,_⟩:=setL_law h (by omega);cases h;rw[qz];exact⟨t',rfl,by omega,g1⟩
def AllocOk (e:Env) (w:World) (al:Al) (q:Value) (w':World):Prop:=Below w.heap.size w w'/\refM al.b=none/\∀ id,¬ e.dom id->∃ bk c f,(inB al.b->w.heap.size<=bk/\bk<w'.heap.size)/\(∀ h,BOk (e.add id bk c f) h w' id al.b)/\Dn (e.add id bk c f) (al.v id) q
theorem jI (w:World) (o:Obj):Below w.heap.size w (w.alloc o):=(Below.refl w.heap.size w).alloc (Nat.le_refl _) o
theorem alloc_cells {e:Env} {w:World} {E:TypeId} {l:List Sc} {us:List Value} {b:B} (h:cellsN E l=some b) (hu:zB (DnC e) l us) {v:Nat->AV} {q:Value} (hv:∀ id e',Ext e e'->e'.dom id->e'.blk id=w.heap.size->Dn e' (v id) q):AllocOk e w ⟨b,v⟩ q (w.alloc (LC us E)):=by
 obtain⟨t,rfl,h1,h2⟩:=cellsN_law h;refine⟨jI w _,rfl,λid hid=>⟨w.heap.size,0,.nilFunc,λ_=>⟨Nat.le_refl _,by simp⟩,λh=>?_,?_⟩⟩
 ·have x:=kT (e:=e) (bk:=w.heap.size) (c:=0) (f:=.nilFunc) hid
  refine⟨us,?_,hu.length.symm,TOk.fresh (hu.mono λ_ _=>DnC.ext x) rfl h1 h2⟩;rw[qh];exact heap_alloc_new w _
 ·exact hv id _ (kT hid) (.inl rfl) qh
theorem allocE_law {e:Env} {E:TypeId} {al:Al} (h:(allocE E).g=some al) (w:World):∃ q w',(Instr.alloc E true (.tuple #[])).run Pr w=.ok q w'/\AllocOk e w al q w':=by
 unfold allocE at h;cases hz:(zeroE E).g with
 | none=>rw[hz]at h;cases h
 | some l=>
  rw[hz]at h;cases hb:cellsN E l with
  | none=>
   have h':(Option.rec (motive:=λ_=>Az) (.mk none) (λb=>.mk (some (.mk b λid=>.x (.p id 0)))) (cellsN E l):Az).g=some al:=h
   rw[hb]at h';cases h'
  | some b=>
   have h':(Option.rec (motive:=λ_=>Az) (.mk none) (λb=>.mk (some (.mk b λid=>.x (.p id 0)))) (cellsN E l):Az).g=some al:=h
   rw[hb]at h';cases h';obtain⟨zv,us,h1,h2,h3⟩:=zero_law e hz;refine⟨.pointer (some ⟨w.heap.size,0,none⟩),_,?_,alloc_cells hb h3 λid e' x hd hbk=>⟨hd,by rw[adr,hbk]⟩⟩;simp only[Instr.alloc,Sem.run_bind,run_zero h1,Result.andThen_ok,newVar,newRow,run_newObj,Sem.run_pure,h2];rfl
theorem boxE_law {e:Env} {E:TypeId} {x:AV} {v:Value} {al:Al} (h:boxE E x=some al) (hx:Dn e x v) (w:World):∃ q w',(Instr.box E v).run Pr w=.ok q w'/\AllocOk e w al q w':=by obtain⟨l,us,h,h1,h2⟩:=cellsOf_law h hx;obtain⟨b,hb,h⟩:=zA h;cases h;refine⟨.pointer (some ⟨w.heap.size,0,none⟩),_,?_,alloc_cells hb h2 λid e' x hd hbk=>⟨hd,by rw[adr,hbk]⟩⟩;simp only[Instr.box,newVar,newRow,Sem.run_bind,Result.andThen_ok,run_newObj,Sem.run_pure,h1];rfl
theorem buildSlice_law {e:Env} {X:TypeId} {m:Nat} {τ:L3} {a:Act} {ps:List (Nat×Operand)} {al:Al} (h:jH X m ps τ=some al) (hp:∀ p∈ps,Dn e ((evO p.2).v τ) (a.eval p.2)) (w:World) :
  ∃ q w',(Instr.buildSlice X m (ps.map λp=>(p.1,a.eval p.2)).toArray).run Pr w=.ok q w'/\AllocOk e w al q w':=by
 obtain⟨E,s,ag,hX,hE,h⟩:=el_law h;obtain⟨h0,h⟩:=zk h;obtain⟨l,hl,h⟩:=zA h;obtain⟨h1,h⟩:=zk h;simp only[Nat.ble_eq,zT,decide_eq_true_eq,qz]at h0 h1;obtain⟨zv,us,hz,hzc,hzu⟩:=zero_law e hl;obtain⟨ie,hie,hiz⟩:=zeroB_info hz;obtain⟨ie',hie',hse⟩:=tk_info hE;rw[hie]at hie';cases hie';have hul:us.length=s:=by rw[<-hzu.length];exact h1
 obtain⟨l',us',k1,k2,k3,k4⟩:=fill_law (place:=λi=>some (i*ie.size,ie.size)) (λi q hq=>by
  unfold plB at hq;simp only[hX,hE,Option.map_some,Option.some.injEq]at hq;rw[<-hq,hse]) h hp (rep_law hzu m);obtain⟨b,hb,k1⟩:=zA k1;cases k1;refine⟨.slice (some ⟨w.heap.size,0,none⟩) m m,w.alloc (LC us' E),?_,alloc_cells hb k2 λid e' x hd hbk=>⟨hd,by rw[adr,hbk]⟩⟩;rw[h1]at k4;have e1:(Array.range (m*ie.size)).map (zv.cells[· % zv.cells.size]!)=⟨(List.range (m*s)).map λi=>(Array.mk us)[i % us.length]!⟩:=by
  rw[hzc,hse];apply Array.ext';simp
 by_cases hpos:m*ie.size=0
 ·have e2:(List.range (m*s)).map (λi=>(Array.mk us)[i % us.length]!)=[]:=by rw[<-hse,hpos];rfl
  rw[e2]at k4;have hsm:¬ m*s > 2 ^ 24:=by omega
  rw[hse]at hpos k4;simp[Instr.buildSlice,run_underlying hX,Go.Lw.run_sizeOf hE,hpos,k4,newRow,LC];rw[show Array.map (λ_=>(default:Value)) (Array.range 0)=(⟨[]⟩:Array Value)from by simp,k4];simp[run_newObj]
 ·refine run_buildSlice w X E m _ ⟨us'⟩ ie zv hX hie hiz (by rw[hse];omega) hpos ?_;rw[e1];exact k4
theorem makeSlice_law {e:Env} {X:TypeId} {x y:AV} {u v:Value} {al:Al} (h:makeSliceE X x y=some al) (hx:Dn e x u) (hy:Dn e y v) (w:World):∃ q w',(Instr.makeSlice X u v).run Pr w=.ok q w'/\AllocOk e w al q w':=by
 obtain⟨E,s,ag,hX,hE,h⟩:=el_law h;obtain⟨k,a,rfl,Hn⟩:=qB h;clear h;have h:=Hn;clear Hn;obtain⟨k',b,rfl,Hn⟩:=qB h;clear h;have h:=Hn;clear Hn;obtain⟨p,rfl,Hn⟩:=nn_law h;clear h;have h:=Hn;clear Hn;obtain⟨q,rfl,Hn⟩:=nn_law h;clear h;have h:=Hn;clear Hn;obtain⟨h0,h⟩:=zk h;obtain⟨l,hl,h⟩:=zA h;obtain⟨h1,h⟩:=zk h;obtain⟨bk,hb,h⟩:=zA h;cases h;obtain rfl:u=_:=hx;obtain rfl:v=_:=hy;simp only[Bool.and_eq_true,Nat.ble_eq,zT,decide_eq_true_eq,qz]at h0 h1;obtain⟨zv,us,hz,hzc,hzu⟩:=zero_law e hl;obtain⟨ie,hie,hiz⟩:=zeroB_info hz;obtain⟨ie',hie',hse⟩:=tk_info hE;rw[hie]at hie';cases hie';have hby:ie.bytes<=1073741824:=by
  have h2:=h0.2
  unfold szB at h2;split at h2
  ·rename_i t ht;simp only[Bool.and_eq_true,Nat.ble_eq]at h2;obtain⟨i2,j1,_,_,j4⟩:=jk (z:=t.1) (s:=t.2.1) (by_:=t.2.2) ht;rw[hie]at j1;cases j1;rw[j4];exact h2.1.1
  ·cases h2
 have hq:q<=100000:=h0.1.2
 have hbb:ie.bytes*q<=1073741824*100000:=Nat.mul_le_mul hby hq
 have hbi:(ie.bytes:Int)*(q:Int)<=281474976710656:=by
  have:((ie.bytes*q:Nat):Int)<=281474976710656:=by omega
  push_cast at this
  exact this
 have hr:=run_make w X E ie zv hX hie hiz k k' (p:Int) (q:Int) (by omega) (by have:=h0.1.1;omega) hbi (by omega)
 simp only[Int.toNat_natCast]at hr;refine⟨_,_,hr,?_⟩;have hc:madeCells zv.cells (q*ie.size)=⟨(List.range (q*l.length)).map λi=>(Array.mk us)[i % us.length]!⟩:=by rw[hzc,hse,<-h1];apply Array.ext';simp[madeCells]
 rw[hc];exact alloc_cells hb (rep_law hzu q) λid e' x hd hbk=>⟨hd,by rw[adr,hbk]⟩
theorem evL_all {e:Env} {τ:L3} {a:Act} : ∀ {l:List Operand},(∀ o∈l,Dn e ((evO o).v τ) (a.eval o))->zB (Dn e) (l.map λo=>(evO o).v τ) (l.map a.eval)
 | [],_=>trivial
 | o::l,h=>⟨h o (by simp),evL_all λp hp=>h p (by simp[hp])⟩
theorem makeFunc_law {e:Env} {fn:Fn} {fs cs:List Operand} {g:L3->Option Al} (hk:mkfE fn fs cs=.a g) {τ:L3} {al:Al} (h:g τ=some al) {a:Act} (h1:∀ o∈fs,Dn e ((evO o).v τ) (a.eval o)) (h2:∀ o∈cs,Dn e ((evO o).v τ) (a.eval o)) (w:World) :
  ∃ q w',(Instr.makeFunc fn (fs.map a.eval).toArray (cs.map a.eval).toArray).run Pr w=.ok q w'/\AllocOk e w al q w':=by
 unfold mkfE at hk;split at hk
 ·rename_i f;cases hk;have h':=qV (qV h);cases h';refine⟨.func (.func f) (fs.map a.eval).toArray (cs.map a.eval).toArray,w,rfl,Below.refl _ _,rfl,λid hid=>⟨0,0,.func (.func f) (fs.map a.eval).toArray (cs.map a.eval).toArray,λk=>k.elim,λh=>?_,?_⟩⟩
  ·have x:=kT (e:=e) (bk:=0) (c:=0) (f:=.func (.func f) (fs.map a.eval).toArray (cs.map a.eval).toArray) hid
   exact⟨_,_,add_clo,(evL_all h1).mono λ_ _=>Dn.ext x,(evL_all h2).mono λ_ _=>Dn.ext x⟩
  ·exact⟨.inl rfl,add_clo.symm,_,_,_,rfl⟩
 ·cases hk
theorem makeMap_law (e:Env) (t:TypeId) (w:World):∃ q w',(Instr.makeMap t none).run Pr w=.ok q w'/\AllocOk e w (.mk (.o (.m [])) λid=>.x (.o (.m id))) q w':=by refine⟨.map (some w.heap.size),w.alloc (.map #[] 0),by simp[Instr.makeMap,run_newObj],jI w _,rfl,λid hid=>⟨w.heap.size,0,.nilFunc,λ_=>⟨Nat.le_refl _,by simp⟩,λh=>⟨[],0,?_,trivial,List.nodup_nil,λ_ h=>by cases h⟩,.inl rfl,by rw[qh]⟩⟩;rw[qh];exact heap_alloc_new w _
section
variable {w0:World} {e:Env} {h:H} {w:World}
theorem load_law (R:zq w0 e h w) {T:TypeId} {x r:AV} {u:Value} (hh:(loadE T).g x h=some r) (hx:Dn e x u):∃ q,Dn e r q/\(Instr.loadAt T u).run Pr w=.ok q w:=by
 cases hT:tkB Pr T with
 | none=>unfold loadE at hh;rw[hT]at hh;cases hh
 | some z=>
  obtain⟨ag,s⟩:=z;unfold loadE at hh;rw[hT]at hh;cases ag with
  | false=>
   have h':(asP x λid off=>jd h id λE n t=>gd (Nat.blt off n) (scal (t.get off) λv=>some (AV.x v)))=some r:=hh
   obtain⟨id,off,rfl,Hn⟩:=qW h';clear h';have h':=Hn;clear Hn;obtain⟨E,n,t,hb,h'⟩:=qI h';obtain⟨h1,h'⟩:=zk h';obtain⟨sc,h2,h'⟩:=scal_law h';cases h';obtain⟨hd,rfl⟩:=hx;obtain⟨cs,h3,h4⟩:=R.cells hd hb;obtain⟨s',v,h5,h6,h7⟩:=h4.2.2 off (qR h1);rw[h2]at h6;cases h6;exact⟨v,h7.1,run_load_cell hT (cell_at h3 h5)⟩
  | true=>
   have h':(asP x λid off=>jd h id λE n t=>gd (Nat.ble (off+s) n) (getL t off s λl=>some (AV.a l)))=some r:=hh
   obtain⟨id,off,rfl,Hn⟩:=qW h';clear h';have h':=Hn;clear Hn;obtain⟨E,n,t,hb,h'⟩:=qI h';obtain⟨h1,h'⟩:=zk h';obtain⟨l,h2,h3,h'⟩:=kQ h';cases h';obtain⟨hd,rfl⟩:=hx;obtain⟨us,k1,k2,k3⟩:=R.row hd hb h3 (by rw[h2];exact Nat.le_of_ble_eq_true h1);exact⟨_,⟨us,rfl,k2⟩,kC hT (by rw[k1,h2]) k3⟩
theorem load_more {h':H} (hk:∀ j,hget h j≠.x->hget h' j=hget h j) {T:TypeId} {x r:AV} (hh:(loadE T).g x h=some r):(loadE T).g x h'=some r:=by
 have key:∀ {id:Nat} {K:Nat->Nat->TV->Option AV},jd h id K=some r->jd h' id K=some r:=λ {id K} hc=>by obtain⟨E,n,t,hb,_⟩:=qI hc;have:hget h' id=hget h id:=hk id (by rcases hb with k | k<;>rw[k]<;>exact λc=>by cases c);unfold jd at hc⊢;rw[this];exact hc
 cases hT:tkB Pr T with
 | none=>unfold loadE at hh;rw[hT]at hh;cases hh
 | some z=>
  obtain⟨ag,s⟩:=z;unfold loadE at hh⊢;rw[hT]at hh⊢;cases ag with
  | false=>
   have h':(asP x λid off=>jd h id λE n t=>gd (Nat.blt off n) (scal (t.get off) λv=>some (AV.x v)))=some r:=hh
   obtain⟨id,off,rfl,Hn⟩:=qW h';clear h';have h':=Hn;clear Hn;exact key h'
  | true=>
   have h':(asP x λid off=>jd h id λE n t=>gd (Nat.ble (off+s) n) (getL t off s λl=>some (AV.a l)))=some r:=hh
   obtain⟨id,off,rfl,Hn⟩:=qW h';clear h';have h':=Hn;clear Hn;exact key h'
theorem blkO_more {h':H} (hk:∀ j,hget h j≠.x->hget h' j=hget h j) {Z:Type} {z:Z} {id:Nat} {K:BO->Option Z} (hc:blkO h id K=some z):blkO h' id K=some z:=by obtain⟨b,hb,_⟩:=qJ hc;have:hget h' id=hget h id:=hk id (by rw[hb];exact λc=>by cases c);unfold blkO at hc⊢;rw[this];exact hc
theorem leftJ_sub {seen:Array Nat} {es:List MapEntry} {ks:List Bool} (h:es.length<=ks.length):(qY seen (es.zip ks)).Sublist es:=by
 have:=(List.filter_sublist (p:=λz:MapEntry×Bool=>z.2 || !seen.contains z.1.born) (l:=es.zip ks)).map Prod.fst
 rwa[List.map_fst_zip h]at this
theorem leftJ_mem {seen:Array Nat} {es:List MapEntry} {ks:List Bool} {j:Nat} {en:MapEntry} (h1:es[j]? = some en) (h2:ks[j]? = some true):en∈qY seen (es.zip ks):=by
 have h3:(es.zip ks)[j]? = some (en,true):=List.getElem?_zip_eq_some.2 ⟨h1,h2⟩
 exact List.mem_map.2 ⟨(en,true),List.mem_filter.2 ⟨List.mem_of_getElem? h3,by simp⟩,rfl⟩
theorem entry_law (R:zq w0 e h w) {x r:AV} {u:Value} (hh:entryE x h=some r) (hx:Dn e x u):∃ q,Dn e r q/\(Instr.entry u).run Pr w=.ok q w:=by
 obtain⟨id,off,rfl,h'⟩:=qW hh;obtain⟨h1,h'⟩:=zk h';simp only[zT,decide_eq_true_eq]at h1;subst h1;obtain⟨b,hb,h'⟩:=qJ h';obtain⟨hd,rfl⟩:=hx;have ok:=R.ok id hd;rw[hb]at ok;have fin:∀ k v en,DnE e (k,v) en->toSum k (λk=>toSum v λv=>some (AV.t [k,v]))=some r->Dn e r (.tuple #[en.key,en.val]):=λk v en hE hk=>by rcases toSum_law hk with ⟨s,rfl,hk1⟩ | ⟨s,rfl,hk1⟩<;>rcases toSum_law hk1 with ⟨t,rfl,hk2⟩ | ⟨t,rfl,hk2⟩<;>cases hk2<;>exact⟨_,rfl,hE.1,hE.2,trivial⟩
 cases b with
 | c m k v l rem=>
  obtain⟨h1,h2,es,c,since,seen,en,⟨h3,h4,h5⟩,h6,h7,h8,h9,h10⟩:=ok;exact⟨_,fin k v en h10 h',run_entry_at (P:=Pr) w (e.blk id) (e.blk m) since seen ⟨es⟩ c en h4 h3 h9 h6.2.1⟩
 | k m key v l keep z cur=>
  obtain⟨h1,gone,L,h2,es,c,since,seen,j,en,g1,g2,⟨h3,h4,h5⟩,h6,h7⟩:=ok;obtain⟨bm,hbm,h'⟩:=qJ h';rw[h2]at hbm;cases hbm;cases gone with
  | true=>cases h'
  | false=>
   have hlen:=h6.1.length
   simp only[List.length_map]at hlen;have hj:j<l.length:=(List.getElem?_eq_some_iff.1 g2).1;have hE:DnE e (key,v) en:=h6.1.at (by rw[List.getElem?_map,g2];rfl) g1;have hs:((l.map (·.2)).set j (!false))[j]? = some true:=by rw[List.getElem?_set_self (by simpa using hj)];rfl
   exact⟨_,fin key v en hE h',run_entry_at (P:=Pr) w (e.blk id) (e.blk m) since seen ⟨_⟩ c en h4 h3 (leftJ_mem g1 hs) ((List.Sublist.map _ (leftJ_sub (by simp;omega))).nodup h6.2.1)⟩
 | _=>cases h'
theorem entry_more {h':H} (hk:∀ j,hget h j≠.x->hget h' j=hget h j) {x r:AV} (hh:entryE x h=some r):entryE x h'=some r:=by
 obtain⟨id,off,rfl,hs⟩:=qW hh;obtain⟨h1,hs⟩:=zk hs;show gd (Nat.beq off 0) _=_;rw[h1];obtain⟨b,hb,hs2⟩:=qJ hs;have hb':hget h' id=.o b:=by rw[hk id (by rw[hb];exact λc=>by cases c)];exact hb
 show blkO h' id _=_
 unfold blkO;rw[hb'];cases b with
 | c m k v l rem=>exact hs2
 | k m key v l keep z cur=>exact blkO_more hk hs2
 | _=>cases hs2
/-! ### What a step that writes leaves -/
def Out (w0:World) (e:Env) (h:H) (K:AV->H->R) (v:Value) (w':World):Prop:=∃ x h' e' z',K x h'=some z'/\Dn e' x v/\zq w0 e' h' w'/\Fr e h e' h'
def OutU (w0:World) (e:Env) (h:H) (K:H->R) (w':World):Prop:=∃ h' e' z',K h'=some z'/\zq w0 e' h' w'/\Fr e h e' h'
theorem Out.trans {e':Env} {h':H} {K:AV->H->R} {v:Value} {w':World} (F:Fr e h e' h') (O:Out w0 e' h' K v w'):Out w0 e h K v w':=by obtain⟨x,h2,e2,z2,k1,k2,k3,k4⟩:=O;exact⟨x,h2,e2,z2,k1,k2,k3,F.trans k4⟩
theorem editB_law {id:Nat} {K:Nat->TV->(TV->B)->R} {z:List (AV×H)} (hh:editB h id K=some z):∃ E n t,(hget h id=.c E n t/\K n t (.c E n)=some z)\/(hget h id=.r E n t/\K n t (.r E n)=some z):=by
 unfold editB at hh;cases hb:hget h id with
 | x=>rw[hb]at hh;cases hh
 | c E n t=>rw[hb]at hh;exact⟨E,n,t,.inl ⟨rfl,hh⟩⟩
 | r E n t=>rw[hb]at hh;exact⟨E,n,t,.inr ⟨rfl,hh⟩⟩
 | o b=>rw[hb]at hh;cases hh
theorem edit_law (R:zq w0 e h w) {id off:Nat} (hd:e.dom id) {l:List Sc} {us:List Value} (hu:zB (DnC e) l us) {K:H->Ev.R} {z:List (AV×H)} {q:Nat} (hq:off+l.length<=q)
  (hh:editB h id (λn t mk=>gd (Nat.ble q n) (setL l t off λt=>kF h id (mk t) K))=some z) :
  ∃ E cs,w.heap[e.blk id]? = some (LC cs E)/\q<=cs.length/\∀ w',w.grownBy w' (some (e.blk id))->w'.heap[e.blk id]? = some (LC (cs.take off++us++cs.drop (off+us.length)) E)->OutU w0 e h K w':=by
 obtain⟨E,n,t,hb⟩:=editB_law hh;have hul:=hu.length;have key:∀ mk:TV->B,(∀ t,mk t=.c E n t)/\hget h id=.c E n t\/(∀ t,mk t=.r E n t)/\hget h id=.r E n t->gd (Nat.ble q n) (setL l t off λt=>kF h id (mk t) K)=some z->∃ E cs,w.heap[e.blk id]? = some (LC cs E)/\q<=cs.length/\∀ w',w.grownBy w' (some (e.blk id))->w'.heap[e.blk id]? = some (LC (cs.take off++us++cs.drop (off+us.length)) E)->OutU w0 e h K w':=λmk hmk hk=>by
  obtain⟨h1,hk⟩:=zk hk;have h1:=Nat.le_of_ble_eq_true h1;have hk':hget h id=.c E n t\/hget h id=.r E n t:=hmk.imp And.right And.right;obtain⟨cs,h2,h3⟩:=R.cells hd hk';have hnc:=h3.2.1;obtain⟨t',c1,hk,g1,g2⟩:=setL_law hk (by omega);obtain⟨hlo,h',P,hk⟩:=jS hk (R.zN hd);have RL:=R.low' id;refine⟨E,cs,h2,by have:=h3.1;omega,λw' hg hw=>⟨h',e,z,hk,?_,?_⟩⟩
  ·have ht:=h3.write hu c1 g1 g2 (by omega)
   have ok:=R.ok id hd
   rcases hmk with ⟨m1,m2⟩ | ⟨m1,m2⟩
   ·rw[m2]at ok;obtain⟨cs',k1,k2,k3⟩:=ok;rw[h2]at k1;have:cs'=cs:=by unfold LC at k1;simpa using k1.symm
    subst this;refine RL.put P hd (by show inB (hget h id);rw[m2];trivial) (by show ¬ hidK (hget h id);rw[m2];exact λc=>c) hg ?_ (λm k=>by rw[m1]at k;cases k);rw[m1];exact⟨_,hw,by simp;omega,ht⟩
   ·rw[m2]at ok;obtain⟨cs',zz,k1,k2,k3,k4,k5⟩:=ok;rw[h2]at k1;have:cs'=cs:=by unfold LC at k1;simpa using k1.symm
    subst this;refine RL.put P hd (by show inB (hget h id);rw[m2];trivial) (by show ¬ hidK (hget h id);rw[m2];exact λc=>c) hg ?_ (λm k=>by rw[m1]at k;cases k);rw[m1];exact⟨_,zz,hw,ht,k3,by rw[<-k4];simp;have:=h3.1;omega,k5⟩
  ·exact(fr_low e h id).trans <| RL.frPut P hd (.inl hlo) (by show jU (hget h id) _;rcases hk' with k | k<;>rw[k]<;>trivial)
 rcases hb with ⟨hb,hk⟩ | ⟨hb,hk⟩
 ·exact key _ (.inl ⟨λ_=>rfl,hb⟩) hk
 ·exact key _ (.inr ⟨λ_=>rfl,hb⟩) hk
theorem store_law (R:zq w0 e h w) {T:TypeId} {x y:AV} {u v:Value} {K:H->Ev.R} {z:List (AV×H)} (hh:(storeE T).g x y h K=some z) (hx:Dn e x u) (hy:Dn e y v):∃ w',(Instr.storeAt T u v).run Pr w=.ok () w'/\OutU w0 e h K w':=by
 cases hT:tkB Pr T with
 | none=>unfold storeE at hh;rw[hT]at hh;cases hh
 | some zt=>
  unfold storeE at hh;rw[hT]at hh;have h':(asP x λid off=>editB h id λn t mk=>cellsOf y λl=>gd (Nat.beq (len l) zt.2 && Nat.ble (off+zt.2) n) (setL l t off λt=>kF h id (mk t) K))=some z:=hh;obtain⟨id,off,rfl,Hn⟩:=qW h';clear h';have h':=Hn;clear Hn;obtain⟨hd,rfl⟩:=hx;obtain⟨E,n,t,hb⟩:=editB_law h';have hk:∃ mk,(cellsOf y λl=>gd (Nat.beq (len l) zt.2 && Nat.ble (off+zt.2) n) (setL l t off λt=>kF h id (mk t) K))=some z/\((mk=B.c E n/\hget h id=.c E n t)\/(mk=B.r E n/\hget h id=.r E n t)):=by
   rcases hb with ⟨hb,hk⟩ | ⟨hb,hk⟩
   ·exact⟨_,hk,.inl ⟨rfl,hb⟩⟩
   ·exact⟨_,hk,.inr ⟨rfl,hb⟩⟩
  obtain⟨mk,hk,hmk⟩:=hk;obtain⟨l,us,hk,hc,hu⟩:=cellsOf_law hk hy;obtain⟨h1,hk⟩:=zk hk;simp only[Bool.and_eq_true,zT,decide_eq_true_eq,qz]at h1;have hul:=hu.length;have hk2:editB h id (λn t mk=>gd (Nat.ble (off+zt.2) n) (setL l t off λt=>kF h id (mk t) K))=some z:=by unfold editB;rcases hmk with ⟨rfl,hb⟩ | ⟨rfl,hb⟩<;>rw[hb]<;>show gd (Nat.ble (off+zt.2) n) _=_<;>rw[h1.2]<;>exact hk
  obtain⟨E',cs,k1,k2,k3⟩:=edit_law R hd hu (q:=off+zt.2) (by omega) hk2;have hT':tkB Pr T=some (zt.1,us.length):=by rw[hT,<-hul,h1.1]
  have hle:off+us.length<=cs.length:=by have:=h1.1;omega
  obtain⟨w',r1,r2,r3⟩:=run_storeAt_blk (P:=Pr) hT' hc k1 hle hu.one;exact⟨w',r1,k3 w' r2 r3⟩
theorem storeL_law (R:zq w0 e h w) {id off:Nat} (hd:e.dom id) {l:List Sc} {us:List Value} (hu:zB (DnC e) l us) {K:H->Ev.R} {z:List (AV×H)} (hh:storeL id off l h K=some z):∃ w',(storeCells (adr e id off) us).run Pr w=.ok () w'/\OutU w0 e h K w':=by unfold storeL at hh;have hul:=hu.length;rw[qz]at hh;obtain⟨E',cs,k1,k2,k3⟩:=edit_law R hd hu (q:=off+l.length) (Nat.le_refl _) hh;obtain⟨w',r1,r2,r3⟩:=zX (P:=Pr) us 0 off cs w k1 (by omega) hu.one;exact⟨w',r1,k3 w' r2 (by simpa using r3)⟩
structure Src (e:Env) (w:World) (v:Value) (s m:Nat) (l:List Sc):Prop where
 len:∀ w',(Builtin.lenOf v).run Pr w'=.ok m w'
 cells:∀ n,n<=m->∃ us,us.length=n*s/\zB (DnC e) (l.take (n*s)) us/\∀ w',w'.heap=w.heap->(Builtin.firstCells s n v).run Pr w'=.ok ⟨us⟩ w'
 size:l.length=m*s
theorem csE_law (R:zq w0 e h w) {id off n s:Nat} (hd:e.dom id) {Z:Type} {z:Z} {K:Nat->List Sc->Option Z} (hh:csE id off n s h K=some z) (c:Nat):∃ l,K n l=some z/\Src e w (.slice (some (adr e id off)) n c) s n l:=by
 have lenS:∀ w',(Builtin.lenOf (.slice (some (adr e id off)) n c)).run Pr w'=.ok n w':=λw'=>by simp[Builtin.lenOf]
 cases n with
 | zero=>
  refine⟨[],hh,lenS,λk hk=>?_,by simp⟩;obtain rfl:k=0:=by omega
  exact⟨[],by simp,by simp[zB],λw' _=>by simp[Builtin.firstCells,loadCells,loadCellsFrom]⟩
 | succ n=>
  have h':(jd h id λE q t=>gd (Nat.ble (off+(n+1)*s) q) (getL t off ((n+1)*s) λr=>K (n+1) r))=some z:=hh
  obtain⟨E,q,t,hb,h'⟩:=qI h';obtain⟨h1,h'⟩:=zk h';have h1:=Nat.le_of_ble_eq_true h1;obtain⟨l,h2,h3,h'⟩:=kQ h';refine⟨l,h',lenS,λk hk=>?_,h2⟩;have hks:k*s<=(n+1)*s:=Nat.mul_le_mul_right s hk;obtain⟨us,k1,k2,k3⟩:=R.row hd hb (l:=l.take (k*s)) (λj x hj=>h3 j x (by
   rw[List.getElem?_take]at hj;split at hj
   ·exact hj
   ·cases hj)) (by rw[List.length_take];omega);have hlen:us.length=k*s:=by rw[k1,List.length_take];omega
  refine⟨us,hlen,k2,λw' hw=>run_firstCells_some (P:=Pr) w' s k _ (n+1) c us hlen λj u hj=>?_⟩;have:=k3 j u hj;rw[<-this];unfold World.cell?;rw[hw]
theorem cellsS_law (R:zq w0 e h w) {x:So} {v:Value} {s:Nat} (hx:DnO e x v) {Z:Type} {z:Z} {K:Nat->List Sc->Option Z} (hh:cellsS x s h K=some z):∃ m l,K m l=some z/\Src e w v s m l:=by
 cases x with
 | s id off n c=>
  obtain⟨hd,rfl⟩:=hx;obtain⟨l,k1,k2⟩:=csE_law R hd (K:=K) hh c;exact⟨n,l,k1,k2⟩
 | w id off n c=>
  obtain⟨hd,rfl,_⟩:=hx;obtain⟨l,k1,k2⟩:=csE_law R hd (K:=K) hh (e.cap id-c);exact⟨n,l,k1,k2⟩
 | e=>
  obtain⟨a,c,rfl⟩:=hx;refine⟨0,[],hh,λw'=>by simp[Builtin.lenOf],λn hn=>?_,by simp⟩;obtain rfl:n=0:=by omega
  refine⟨[],by simp,by simp[zB],λw' _=>?_⟩;cases a<;>simp[Builtin.firstCells,loadCells,loadCellsFrom]
 | c u=>
  obtain⟨rfl,_⟩:=hx;have h':nlV v (K 0 [])=some z:=hh;unfold nlV at h';split at h'
  ·refine⟨0,[],h',λw'=>by simp[Builtin.lenOf],λn hn=>?_,by simp⟩;obtain rfl:n=0:=by omega
   exact⟨[],by simp,by simp[zB],λw' _=>by simp[Builtin.firstCells]⟩
  ·cases h'
 | _=>cases hh
end
structure App (w:World) (X Y:TypeId) (E s:Nat) (z:Value) (by_:Nat) (v:Value) (m:Nat) (news:List Value):Prop where
 hX:Pr.underlying X=some (.slice E)
 i:∃ i,Pr.info? E=some i/\i.zero=some z/\i.size=s/\i.bytes=by_
 y:∃ d,Pr.underlying Y=some d/\∀ k,d≠.int k
 len:∀ w',(Builtin.lenOf v).run Pr w'=.ok m w'
 cells:∀ w',w'.heap=w.heap->(Builtin.firstCells s m v).run Pr w'=.ok ⟨news⟩ w'
 size:news.length=m*s
theorem app_room {w:World} {X Y E s:Nat} {z:Value} {by_ m:Nat} {v:Value} {news:List Value} (A:App w X Y E s z by_ v m news) (ts:List TypeId) (ty:TypeId) (p:Addr) (l c:Nat) (hr:l+m<=c) {w':World} (hs:(storeCells (p.add (l*s)) news).run Pr w=.ok () w') :
  (Builtin.append_ ⟨X::Y::ts⟩ ty ⟨[.slice (some p) l c,v]⟩).run Pr w=.ok (.slice (some p) (l+m) c) w':=by
 obtain⟨i,hi,hz,hsz,hb⟩:=A.i;obtain⟨d,hd,hni⟩:=A.y;have hY:(match d with | .int _=>true | _=>false)=false:=by cases d<;>first | rfl | exact absurd rfl (hni _)
 have hl:=A.len w
 have hc:=A.cells w rfl
 simp[Builtin.append_,run_underlying A.hX,run_underlying hd,sizeOf,typeInfo,hi,hl,hr,hsz,hc,hs]
theorem app_grow {w:World} {X Y E s:Nat} {z:Value} {by_ m:Nat} {v:Value} {news olds:List Value} (A:App w X Y E s z by_ v m news) (ts:List TypeId) (ty:TypeId) (p:Option Addr) (l c:Nat) (hr:c<l+m)
  (ho:∀ w',w'.heap=w.heap->(Builtin.firstCells s l (.slice p l c)).run Pr w'=.ok ⟨olds⟩ w') (h63:l+m<=9223372036854775807) (hfit:Builtin.nextslicecap (l+m) c*by_<=281474976710656) :
  (Builtin.append_ ⟨X::Y::ts⟩ ty ⟨[.slice p l c,v]⟩).run Pr w=.ok (.slice (some ⟨w.heap.size,0,none⟩) (l+m) (grownCap w (l+m) c E)) (w.drew.alloc (LC (olds++news++(Builtin.zeroCells z.cells (grownCap w (l+m) c E-(l+m))).toList) E)):=by
 obtain⟨i,hi,hz,hsz,hb⟩:=A.i;obtain⟨d,hd,hni⟩:=A.y;have hl:=A.len w;have hn:¬ (l+m<=c):=by omega
 have h63':¬ (9223372036854775807<((l:Int)+(m:Int))):=by omega
 have h48':¬ (281474976710656<Builtin.nextslicecap (l+m) c*by_):=by omega
 have hc:=A.cells w.drew rfl
 have ho':=ho w.drew rfl
 have hd':∀ k,d≠.int k:=hni
 simp[Builtin.append_,run_underlying A.hX,run_underlying hd,sizeOf,typeInfo,zeroValue,hi,hz,hsz,hb];cases d<;>first
  | exact absurd rfl (hni _)
  | (simp[hl,hn,h63',h48',Question.forced,hc,ho',newRow,grownCap,LC];congr 2;apply Array.ext';simp[List.append_assoc])
theorem szB_law {E:TypeId} (h:szB E=true):∃ i z,Pr.info? E=some i/\i.zero=some z/\i.bytes<=1073741824/\0<i.size/\z.cells.size=i.size:=by
 unfold szB at h;split at h
 ·rename_i t ht;simp only[Bool.and_eq_true,Nat.ble_eq]at h;obtain⟨i,j1,j2,j3,j4⟩:=jk (z:=t.1) (s:=t.2.1) (by_:=t.2.2) ht;refine⟨i,t.1,j1,j2,by rw[j4];exact h.1.1,by rw[j3];exact qR h.1.2,?_⟩;rw[j3];simpa [zT]using h.2
 ·cases h
theorem capV_le (t:TV):kU t<=4096:=by
 cases t with
 | s=>show 8<=4096;omega
 | t=>show 64<=4096;omega
 | m=>show 512<=4096;omega
 | l=>show 4096<=4096;omega
section
variable {w0:World} {e:Env} {h:H} {w:World}
theorem zq.alloc (R:zq w0 e h w) {al:Al} {q:Value} {w':World} (A:AllocOk e w al q w') {K:AV->H->Ev.R} {z:List (AV×H)} (hh:newB h al.b (λid h=>K (al.v id) h)=some z):Out w0 e h K q w':=by
 obtain⟨h',N,hk⟩:=newB_law hh;obtain⟨hb,hrf,A⟩:=A;have R':=R.push N;have hid:¬ e.dom h.nxt:=λk=>by have:=R.lt _ k;omega
 obtain⟨bk,c,f,a1,a2,a3⟩:=A h.nxt hid;have hg:hget h' h.nxt=al.b:=by rw[N.get _ N.lt,if_pos rfl]
 have hs:=R.below.size
 refine⟨_,h',_,z,hk,a3,R'.add hid (by rw[N.nxt];omega) hb (λk=>?_) (by rw[hg];exact a2 h') (λm hm=>by rw[hg,hrf]at hm;cases hm),(R.frNew N).add hid (Nat.le_refl _)⟩;rw[hg]at k;have:=a1 k;refine⟨by omega,this.2,λj hj hi he=>?_⟩;have:=(R'.low j hj hi).2;omega
theorem TOk.fresh' {e:Env} {n:Nat} {t':TV} {us rest:List Value} {l:List Sc} (hu:zB (DnC e) l us) (hn:n=l.length) (hc:n<=kU t') (h1:∀ j s,l[j]? = some s->t'.get (0+j)=.x s):TOk e n t' (us++rest):=by
 have hT:=TOk.fresh hu hn hc h1
 refine⟨by have:=hT.1;simp;omega,hT.2.1,λj hj=>?_⟩;obtain⟨sc,vv,a1,a2,a3⟩:=hT.2.2 j hj;exact⟨sc,vv,by rw[List.getElem?_append_left (List.getElem?_eq_some_iff.1 a1).1];exact a1,a2,a3⟩
theorem TOk.list {e:Env} {n:Nat} {t:TV} {cs:List Value} (h:TOk e n t cs):∀ k,k<=n->∃ l:List Sc,l.length=k/\∀ j s,l[j]? = some s->t.get (0+j)=.x s
 | 0,_=>⟨[],rfl,λj s hj=>by simp at hj⟩
 | k+1,hk=>by
  obtain⟨l,h1,h2⟩:=TOk.list h k (by omega);obtain⟨s,v,a1,a2,a3⟩:=h.2.2 k (by omega);refine⟨l++[s],by simp[h1],λj u hj=>?_⟩;by_cases c:j<l.length
  ·rw[List.getElem?_append_left c]at hj;exact h2 j u hj
  ·rw[List.getElem?_append_right (by omega)]at hj;have:j=k:=by
    have:=(List.getElem?_eq_some_iff.1 hj).1
    simp at this;omega
   subst this;rw[h1,Nat.sub_self]at hj;simp at hj;subst hj;rw[Nat.zero_add];exact a2
theorem csE_size (R:zq w0 e h w) {id off n s:Nat} (hd:e.dom id) {Z:Type} {z:Z} {K:Nat->List Sc->Option Z} (hh:csE id off n s h K=some z):n*s<=4096:=by
 cases n with
 | zero=>omega
 | succ n=>
  have h':(jd h id λE q t=>gd (Nat.ble (off+(n+1)*s) q) (getL t off ((n+1)*s) λr=>K (n+1) r))=some z:=hh
  obtain⟨E,q,t,hb,h'⟩:=qI h';obtain⟨h1,h'⟩:=zk h';have h1:=Nat.le_of_ble_eq_true h1;obtain⟨cs,h2,h3⟩:=R.cells hd hb;have:=h3.2.1;have:=capV_le t;omega
theorem fits_law {n m:Nat} {t:TV} (hn:n<=kU t) (h:fits n m=true):m<=kU t:=by
 unfold fits at h;simp only[Bool.or_eq_true,Bool.and_eq_true,Nat.ble_eq,Nat.blt_eq]at h;cases t with
 | s=>have hn:n<=8:=hn;show m<=8;omega
 | t=>have hn:n<=64:=hn;show m<=64;omega
 | m=>have hn:n<=512:=hn;show m<=512;omega
 | l=>have hn:n<=4096:=hn;show m<=4096;omega
theorem rowK_law {id:Nat} {K:Nat->Nat->TV->Ev.R} {z:List (AV×H)} (hh:rowK h id K=some z):∃ E n t,hget h id=.r E n t/\K E n t=some z:=by
 unfold rowK at hh;cases hb:hget h id with
 | r E n t=>rw[hb]at hh;exact⟨E,n,t,rfl,hh⟩
 | _=>rw[hb]at hh;cases hh
theorem apO_law (R:zq w0 e h w) {X Y:TypeId} {E s:Nat} {x:So} {u v:Value} {m:Nat} {new:List Sc} {K:AV->H->Ev.R} {z:List (AV×H)} (hX:Pr.underlying X=some (.slice E)) {ag:Bool} (hE:tkB Pr E=some (ag,s)) (hY:∃ d,Pr.underlying Y=some d/\∀ k,d≠.int k) (hsz:szB E=true) (hm:0<m) (hms:m*s<=4096)
  (hx:DnO e x u) (S:Src e w v s m new) (hh:apO x E s m new h K=some z) (ts:List TypeId) (ty:TypeId):∃ q w',(Builtin.append_ ⟨X::Y::ts⟩ ty ⟨[u,v]⟩).run Pr w=.ok q w'/\Out w0 e h K q w':=by
 obtain⟨i,zv,hi,hz,hby,hpos,zc⟩:=szB_law hsz;obtain⟨i',hi',hse⟩:=tk_info hE;rw[hi]at hi';cases hi';rw[hse]at hpos zc;obtain⟨news,n1,n2,n3⟩:=S.cells m (Nat.le_refl _);have hnl:new.take (m*s)=new:=by rw[<-S.size];exact List.take_length
 rw[hnl]at n2;have A:App w X Y E s zv i.bytes v m news:=⟨hX,⟨i,hi,hz,hse,rfl⟩,hY,S.len,n3,n1⟩;have hnn:=n2.length;have mle:m<=m*s:=Nat.le_mul_of_pos_right m hpos
 -- a new row
 have growA:∀ (p:Option Addr) (l c:Nat) (old:List Sc) (olds:List Value) (t:TV),c<l+m->l*s<=4096->zB (DnC e) old olds->olds.length=l*s->(∀ w',w'.heap=w.heap->(Builtin.firstCells s l (.slice p l c)).run Pr w'=.ok ⟨olds⟩ w')->
   (old++new).length<=kU t->(∀ j s,(old++new)[j]? = some s->t.get (0+j)=.x s)->∃ q w',(Builtin.append_ ⟨X::Y::ts⟩ ty ⟨[.slice p l c,v]⟩).run Pr w=.ok q w'/\AllocOk e w ⟨.r E (old++new).length t,λid=>.x (.o (.w id 0 (l+m) 0))⟩ q w':=λp l c old olds t hr hl ho hol hof t1 t2=>by
  have lle:l<=l*s:=Nat.le_mul_of_pos_right l hpos
  have hfit:Builtin.nextslicecap (l+m) c*i.bytes<=281474976710656:=growslice_fits (by omega) (by
   have:(l+m)*i.bytes<=8192*1073741824:=Nat.mul_le_mul (by omega) hby
   omega)
  have hrun:=app_grow A ts ty p l c hr hof (by omega) hfit
  refine⟨_,_,hrun,?_⟩;have hge:=grownCap_ge w (l+m) c E;have hle:=grownCap_le_maxLen w (l+m) c E (by unfold maxLen;omega);refine⟨(Below.refl w.heap.size w).drew.trans (jI w.drew _),rfl,λid hid=>⟨w.heap.size,grownCap w (l+m) c E,.nilFunc,λ_=>⟨Nat.le_refl _,by simp⟩,λh=>?_,?_⟩⟩
  ·have x:=kT (e:=e) (bk:=w.heap.size) (c:=grownCap w (l+m) c E) (f:=.nilFunc) hid
   refine⟨olds++news++(Builtin.zeroCells zv.cells (grownCap w (l+m) c E-(l+m))).toList,(ag,s),?_,?_,hE,?_,by rw[qC];exact hle⟩
   ·rw[qh];exact heap_alloc_new w.drew _
   ·exact TOk.fresh' ((ho.append n2).mono λ_ _=>DnC.ext x) rfl t1 t2
   ·rw[qC];simp only[List.length_append,Array.length_toList,size_zeroCells,zc];rw[hol,n1,<-Nat.add_mul,<-Nat.add_mul];congr 1;omega
  ·refine⟨.inl rfl,?_,?_⟩
   ·rw[qC,Nat.sub_zero,adr,qh]
   ·rw[qC];omega
 have grow:∀ (p:Option Addr) (l c:Nat) (old:List Sc) (olds:List Value),c<l+m->l*s<=4096->zB (DnC e) old olds->olds.length=l*s->(∀ w',w'.heap=w.heap->(Builtin.firstCells s l (.slice p l c)).run Pr w'=.ok ⟨olds⟩ w')->
   newV h (rowN E (old++new)) (λid=>.x (.o (.w id 0 (l+m) 0))) K=some z->∃ q w',(Builtin.append_ ⟨X::Y::ts⟩ ty ⟨[.slice p l c,v]⟩).run Pr w=.ok q w'/\Out w0 e h K q w':=λp l c old olds hr hl ho hol hof hk=>by
  obtain⟨b,hb,hk⟩:=zA hk;obtain⟨t,rfl,t1,t2⟩:=rowN_law hb;obtain⟨q,w',r1,r2⟩:=growA p l c old olds t hr hl ho hol hof t1 t2;exact⟨q,w',r1,R.alloc r2 hk⟩
 cases x with
 | s id off l c=>
  obtain⟨hd,rfl⟩:=hx;have h':jV (Nat.ble (l+m) c) (editB h id λn t mk=>gd (Nat.ble (off+(l+m)*s) n) (setL new t (off+l*s) λt=>kF h id (mk t) λh=>nat (l+m) λlm=>K (.x (.o (.s id off lm c))) h)) (csE id off l s h λ_ old=>nat (l+m) λlm=>newV h (rowN E (app old new)) (λid=>.x (.o (.w id 0 lm 0))) K)=some z:=hh;cases hr:Nat.ble (l+m) c with
  | true=>
   rw[hr]at h';have hr':=Nat.le_of_ble_eq_true hr;have e1:(l+m)*s=l*s+m*s:=Nat.add_mul l m s;obtain⟨E',cs,k1,k2,k3⟩:=edit_law (K:=λh=>nat (l+m) λlm=>K (.x (.o (.s id off lm c))) h) R hd (off:=off+l*s) n2 (q:=off+(l+m)*s) (by rw[S.size];omega) h';obtain⟨w',r1,r2,r3⟩:=zX (P:=Pr) news 0 (off+l*s) cs w k1 (by rw[n1];omega) n2.one;refine⟨_,w',app_room A ts ty _ l c hr' (by rw[je];exact r1),?_⟩;obtain⟨h2,e2,z2,j1,j2,j3⟩:=k3 w' r2 (by simpa using r3);have j1':(nat (l+m) λlm=>K (.x (.o (.s id off lm c))) h2)=some z2:=j1;rw[nat_eq]at j1';exact⟨_,h2,e2,z2,j1',⟨j3.ext.dom id hd,by rw[adr,adr,j3.ext.blk id hd]⟩,j2,j3⟩
  | false=>
   rw[hr]at h';have hr':c<l+m:=by
    rcases Nat.lt_or_ge c (l+m)with k | k
    ·exact k
    ·rw[Nat.ble_eq_true_of_le k]at hr;cases hr
   have h2:csE id off l s h (λ_ old=>nat (l+m) λlm=>newV h (rowN E (app old new)) (λid=>.x (.o (.w id 0 lm 0))) K)=some z:=h'
   have hl:=csE_size R hd h2
   obtain⟨old,k1,k2⟩:=csE_law R hd h2 c;rw[nat_eq,jJ]at k1;obtain⟨olds,o1,o2,o3⟩:=k2.cells l (Nat.le_refl _);have hol:old.take (l*s)=old:=by rw[<-k2.size];exact List.take_length
   rw[hol]at o2;exact grow _ l c old olds hr' hl o2 o1 o3 k1
 | w id off l ct=>
  obtain⟨hd,rfl,hle⟩:=hx;have h':(rowK h id λE' n t=>gd (Nat.beq E' E && Nat.beq off (ct*s) && Nat.blt 0 s) (jV (Nat.ble (off+(l+m)*s) n) (setL new t (off+l*s) λt=>kF h id (.r E n t) λh=>nat (l+m) λlm=>K (.x (.o (.w id off lm ct))) h) (gd (Nat.beq off 0 && Nat.beq ct 0 && Nat.ble (l*s) n) (kF h id .x λh=>nat ((l+m)*s) λn'=>Bool.rec (motive:=λ_=>Ev.R) (TV.emp n' λt'=>getL t 0 (l*s) λold=>setL old t' 0 λt=>setL new t (l*s) λt=>newB h (.r E n' t) λid h=>nat (l+m) λlm=>K (.x (.o (.w id 0 lm 0))) h) (setL new t n λt=>newB h (.r E n' t) λid h=>nat (l+m) λlm=>K (.x (.o (.w id 0 lm 0))) h) (Nat.beq (l*s) n && fits n n')))))=some z:=hh;obtain⟨E',n,t,hb,h'⟩:=rowK_law h';obtain⟨g1,h'⟩:=zk h';simp only[Bool.and_eq_true,zT,decide_eq_true_eq]at g1;obtain⟨⟨rfl,rfl⟩,_⟩:=g1;have e1:(l+m)*s=l*s+m*s:=Nat.add_mul l m s;have ok:=R.ok id hd;rw[hb]at ok;obtain⟨cs,zz,b1,b2,b3,b4,b5⟩:=ok;rw[hE]at b3;cases b3;have b4:cs.length=e.cap id*s:=b4;have hin:inB (hget h id):=by rw[hb];trivial
  have hnh:¬ hidK (hget h id):=by rw[hb];exact λc=>c
  have hnt:∀ b,jU (hget h id) b:=by rw[hb];exact λ_=>trivial
  cases hr:Nat.ble (ct*s+(l+m)*s) n with
  | true=>
   rw[hr]at h';have hr':=Nat.le_of_ble_eq_true hr;have b2l:=b2.1;have hroom:l+m<=e.cap id-ct:=by
    have:(ct+(l+m))*s<=e.cap id*s:=by rw[Nat.add_mul];omega
    have:=Nat.le_of_mul_le_mul_right this hpos
    omega
   have h2:setL new t (ct*s+l*s) (λt=>kF h id (.r E' n t) λh=>nat (l+m) λlm=>K (.x (.o (.w id (ct*s) lm ct))) h)=some z:=h'
   have hnc:=b2.2.1
   obtain⟨t',c1,hk,q1,q2⟩:=setL_law h2 (by rw[S.size];omega);obtain⟨hlo,h2,P,hk⟩:=jS hk (R.zN hd);have RL:=R.low' id;rw[nat_eq]at hk;obtain⟨w',r1,r2,r3⟩:=zX (P:=Pr) news 0 (ct*s+l*s) cs w b1 (by rw[n1];omega) n2.one;simp only[Nat.add_zero]at r3;refine⟨_,w',app_room A ts ty _ l (e.cap id-ct) hroom (by rw[je];exact r1),_,h2,e,z,hk,⟨hd,rfl,by omega⟩,RL.put P hd hin hnh r2 ⟨_,(ag,s),r3,?_,hE,?_,b5⟩,(fr_low e h id).trans (RL.frPut P hd (.inl hlo) (hnt _))⟩
   ·exact b2.write n2 c1 q1 q2 (by rw[S.size];omega)
   ·simp only[List.length_append,List.length_take,List.length_drop];show _=e.cap id*s;omega
  | false=>
   rw[hr]at h';obtain⟨g2,h2⟩:=zk h';simp only[Bool.and_eq_true,zT,decide_eq_true_eq,Nat.ble_eq]at g2;obtain⟨⟨g2,rfl⟩,g3⟩:=g2;have hr':¬ (0*s+(l+m)*s<=n):=λk=>by rw[Nat.ble_eq_true_of_le k]at hr;cases hr
   obtain⟨hlo,h2,P,hk⟩:=jS h2 (R.zN hd);have RL:=R.low' id;rw[nat_eq]at hk
   -- the tree of the new row
   have hT:∃ old t',old.length=l*s/\(∀ j s,old[j]? = some s->t.get (0+j)=.x s)/\(old++new).length<=kU t'/\(∀ j s,(old++new)[j]? = some s->t'.get (0+j)=.x s)/\newB h2 (.r E' (old++new).length t') (λid h=>K (.x (.o (.w id 0 (l+m) 0))) h)=some z:=by
    have getN:∀ {old:List Sc} {t1 t':TV},old.length=l*s->kU t'=kU t1->l*s+m*s<=kU t1->(∀ j sc,old[j]? = some sc->t1.get (0+j)=.x sc)->(∀ j sc,new[j]? = some sc->t'.get (l*s+j)=.x sc)->(∀ j,j<kU t1->(j<l*s\/l*s+new.length<=j)->t'.get j=t1.get j)->∀ j sc,(old++new)[j]? = some sc->t'.get (0+j)=.x sc:=λ {old t1 t'} a1 a2 a0 a3 a4 a5 j sc hj=>by
     by_cases c:j<old.length
     ·rw[List.getElem?_append_left c]at hj;rw[Nat.zero_add,a5 j (by omega) (.inl (by omega))];have:=a3 j sc hj;rwa[Nat.zero_add]at this
     ·rw[List.getElem?_append_right (by omega)]at hj;have:=a4 _ sc hj;rw[<-this];congr 1;omega
    cases hf:(Nat.beq (l*s) n && fits n ((l+m)*s))with
    | true=>
     rw[hf]at hk;simp only[Bool.and_eq_true,zT,decide_eq_true_eq]at hf;obtain⟨hf1,hf2⟩:=hf;have hcap:=fits_law b2.2.1 hf2;have hk2:setL new t n (λt=>newB h2 (.r E' ((l+m)*s) t) λid h=>nat (l+m) λlm=>K (.x (.o (.w id 0 lm 0))) h)=some z:=hk;rw[<-hf1]at hk2;obtain⟨t',c1,hk3,q1,q2⟩:=setL_law hk2 (by rw[S.size];omega);simp only[nat_eq]at hk3;obtain⟨old,o1,o2⟩:=b2.list (l*s) (by omega);refine⟨old,t',o1,o2,by simp[o1,S.size];omega,getN o1 c1 (by omega) o2 q1 q2,?_⟩;rw[List.length_append,o1,S.size,<-Nat.add_mul];exact hk3
    | false=>rw[hf]at hk;have hk2:(TV.emp ((l+m)*s) λt'=>getL t 0 (l*s) λold=>setL old t' 0 λt=>setL new t (l*s) λt=>newB h2 (.r E' ((l+m)*s) t) λid h=>nat (l+m) λlm=>K (.x (.o (.w id 0 lm 0))) h)=some z:=hk;obtain⟨t0,c0,hk3⟩:=TV.emp_law hk2;obtain⟨old,o1,o2,hk4⟩:=kQ hk3;obtain⟨t1,c1,hk5,q1,q2⟩:=setL_law hk4 (by omega);obtain⟨t',c2,hk6,q3,q4⟩:=setL_law hk5 (by rw[S.size,c1];omega);simp only[nat_eq]at hk6;refine⟨old,t',o1,o2,by simp[o1,S.size];omega,getN o1 c2 (by omega) q1 q3 q4,?_⟩;rw[List.length_append,o1,S.size,<-Nat.add_mul];exact hk6
   obtain⟨old,t',o1,o2,o3,o4,hk⟩:=hT;have hls:l*s<=4096:=by have:=capV_le t';simp at o3;omega
   have ho:=b2.read o2 (by omega)
   rw[o1,List.drop_zero]at ho;have hol:(cs.take (l*s)).length=l*s:=by have:=b2.1;simp;omega
   have F1:Fr e h e h2:=(fr_low e h id).trans (RL.frPut P hd (.inl hlo) (hnt _))
   rcases Nat.lt_or_ge (e.cap id-0) (l+m)with hcap | hcap
   ·obtain⟨q,w',r1,r2⟩:=growA (some (adr e id (0*s))) l (e.cap id-0) old _ t' hcap hls ho hol (λw' hw=>run_firstCells_some (P:=Pr) w' s l _ l _ _ hol λj u hj=>by
     rw[je];unfold World.cell?;rw[hw];refine cell_at b1 ?_;rw[List.getElem?_take]at hj;split at hj
     ·rw[Nat.zero_mul,Nat.zero_add];exact hj
     ·cases hj) o3 o4;have R1:zq w0 e h2 w:=RL.put P hd hin hnh (World.grownBy.refl w _) trivial;exact⟨q,w',r1,Out.trans F1 (R1.alloc r2 hk)⟩
   ·have hln:l*s+m*s<=cs.length:=by rw[b4,<-Nat.add_mul];exact Nat.mul_le_mul_right s hcap
    obtain⟨w',r1,r2,r3⟩:=zX (P:=Pr) news 0 (0*s+l*s) cs w b1 (by rw[n1];omega) n2.one;refine⟨_,w',app_room A ts ty _ l (e.cap id-0) hcap (by rw[je];exact r1),?_⟩;have R1:zq w0 e h2 w':=RL.put P hd hin hnh r2 trivial;obtain⟨h3,N,hk⟩:=newB_law hk;have R2:=R1.push N;have hid:¬ e.dom h2.nxt:=λk=>by have:=R1.lt _ k;omega
    have hg:hget h3 h2.nxt=.r E' (old++new).length t':=by rw[N.get _ N.lt,if_pos rfl]
    have x:=kT (e:=e) (bk:=e.blk id) (c:=e.cap id) (f:=.nilFunc) hid
    refine⟨_,h3,e.add h2.nxt (e.blk id) (e.cap id) .nilFunc,z,hk,⟨.inl rfl,?_,?_⟩,R2.add hid (by rw[N.nxt];omega) (Below.refl _ _) (λ_=>?_) ?_ (λm hm=>by rw[hg]at hm;cases hm),F1.trans ((R1.frNew N).add hid (Nat.le_refl _))⟩
    ·simp only[qC,Nat.sub_zero,Nat.zero_mul,adr,qh]
    ·rw[qC];omega
    ·have:=R.low id hd hin
     refine⟨this.1,Nat.lt_of_lt_of_le this.2 r2.size,λj hj hi he=>?_⟩;have hjl:=R.lt j hj;have htop:=R.top;have hjn:j≠h2.nxt:=λk=>hid (by rw[<-k];exact hj);have hne:j≠id:=λk=>by subst k;rw[N.get j (by omega),if_neg hjn,P.get j (by omega),if_pos rfl]at hi;exact hi
     rw[N.get j (by omega),if_neg hjn,P.get j (by omega),if_neg hne]at hi;exact hne (R.inj j id hj hd hi hin he)
    ·rw[hg];simp only[Nat.zero_mul,Nat.zero_add,Nat.add_zero]at r3;refine⟨_,(ag,s),by rw[qh];exact r3,?_,hE,?_,by rw[qC];exact b5⟩
     ·exact TOk.fresh' ((ho.append n2).mono λ_ _=>DnC.ext x) rfl o3 o4
     ·rw[qC];simp only[List.length_append,List.length_take,List.length_drop];show _=e.cap id*s;omega
 | c q=>
  obtain⟨rfl,_⟩:=hx;have h':nlV u (nat m λm=>newV h (rowN E new) (λid=>.x (.o (.w id 0 m 0))) K)=some z:=hh;unfold nlV at h';split at h'
  ·rw[nat_eq]at h';exact grow none 0 0 [] [] (by omega) (by omega) trivial (by simp) (λw' _=>by simp[Builtin.firstCells]) (by simpa using h')
  ·cases h'
 | _=>cases hh
end
def KeyV (n:Nat) (v:Value):Prop:=match n with
 | 0=>∃ k a,v=.int k a
 | n+1=>∃ us,v=.agg ⟨us⟩/\us.length=n/\∀ u∈us,∃ k a,u=.int k a
theorem nums_law {e:Env} : ∀ {l:List Sc} {us:List Value},nums l=true->zB (DnC e) l us->∀ u∈us,∃ k a,u=.int k a
 | [],[],_,_,u,hu=>by cases hu
 | s::l,v::us,h,hl,u,hu=>by
  cases s with
  | i k a=>
   have h':nums l=true:=h
   rcases List.mem_cons.1 hu with rfl | hu
   ·exact⟨k,a,hl.1.1⟩
   ·exact nums_law h' hl.2 u hu
  | _=>cases h
 | [],_::_,_,hl,_,_=>hl.elim
 | _::_,[],_,hl,_,_=>hl.elim
theorem keyK_law {Z:Type} {z:Z} {e:Env} {n:Nat} {y:AV} {v:Value} {K:AV->Option Z} (h:ko n y K=some z) (hy:Dn e y v):KeyV n v/\K y=some z:=by
 cases n with
 | zero=>
  have h':(asI y λk a=>K (.i k a))=some z:=h
  obtain⟨k,a,rfl,Hn⟩:=qB h';clear h';have h':=Hn;clear Hn;exact⟨⟨k,a,hy⟩,h'⟩
 | succ n=>
  have h':(asA y λl=>gd (Nat.beq (len l) n && nums l) (K (.a l)))=some z:=h
  obtain⟨l,rfl,Hn⟩:=jK h';clear h';have h':=Hn;clear Hn;obtain⟨h1,h'⟩:=zk h';simp only[Bool.and_eq_true,zT,decide_eq_true_eq,qz]at h1;obtain⟨us,rfl,hu⟩:=hy;exact⟨⟨us,rfl,by rw[<-hu.length];exact h1.1,nums_law h1.2 hu⟩,h'⟩
theorem sameI_eq:∀ {us vs:List Value},jo us vs=some true->us=vs
 | [],[],_=>rfl
 | [],_::_,h=>by simp[jo]at h
 | u::us,[],h=>by cases u<;>simp[jo]at h
 | u::us,v::vs,h=>by
  cases u with
  | int k a=>
   cases v with
   | int k' b=>
    simp only[jo]at h;by_cases hk:k=k'
    ·rw[if_pos hk]at h;by_cases ha:a=b
     ·rw[if_pos ha]at h;rw[hk,ha,sameI_eq h]
     ·rw[if_neg ha]at h;cases h
    ·rw[if_neg hk]at h;cases h
   | _=>simp[jo]at h
  | _=>cases v<;>simp[jo]at h
theorem sameI_self:∀ {us:List Value},(∀ u∈us,∃ k a,u=Value.int k a)->jo us us=some true
 | [],_=>rfl
 | u::us,h=>by obtain⟨k,a,rfl⟩:=h u (by simp);simp only[jo,if_true];exact sameI_self λv hv=>h v (by simp[hv])
inductive KeyEq (kt:TypeId) (n:Nat) (u v:Value) (b:Bool):Prop
 | int (k:IntKind) (a c:Int) (hn:n=0) (hu:u=.int k a) (hv:v=.int k c) (hb:b=decide (a=c))
 | agg (m:Nat) (us vs:List Value) (hn:n=m+1) (hu:u=.agg ⟨us⟩) (hv:v=.agg ⟨vs⟩) (hl:us.length=m) (hs:jo us vs=some b)
theorem keyE_law {e:Env} {kt:TypeId} {n:Nat} {x y:AV} {u v:Value} {b:Bool} (h:jT n x y=some b) (hx:Dn e x u) (hy:Dn e y v):KeyEq kt n u v b:=by
 cases n with
 | zero=>
  have h':(xx x y λx y=>eqI x y some)=some b:=h
  obtain⟨s,s',rfl,rfl,Hn⟩:=xx_law h';clear h';have h':=Hn;clear Hn;obtain⟨k,p,q,rfl,rfl,Hn⟩:=eqI_law h' hx hy;clear h';have h':=Hn;clear Hn;cases h';exact .int k p q rfl rfl rfl rfl
 | succ n=>
  have h':(asA x λl=>asA y λm=>gd (Nat.beq (len l) n && Nat.beq (len m) n) (eqL n l m))=some b:=h
  obtain⟨l,rfl,Hn⟩:=jK h';clear h';have h':=Hn;clear Hn;obtain⟨m,rfl,Hn⟩:=jK h';clear h';have h':=Hn;clear Hn;obtain⟨h1,h2⟩:=zk h';simp only[Bool.and_eq_true,zT,decide_eq_true_eq,qz]at h1;obtain⟨us,rfl,hus⟩:=hx;obtain⟨vs,rfl,hvs⟩:=hy;exact .agg n us vs rfl rfl rfl (by rw[<-hus.length];exact h1.1) (eqL_law h2 hus hvs)
theorem KeyEq.eq {kt:TypeId} {n:Nat} {u v:Value} (h:KeyEq kt n u v true):u=v:=by
 cases h with
 | int k a c hn hu hv hb=>rw[hu,hv,of_decide_eq_true hb.symm]
 | agg m us vs hn hu hv hl hs=>rw[hu,hv,sameI_eq hs]
theorem kiB_law {t:TypeId} {n:Nat} (h:kiB t=some n):(n=0/\∃ k,Pr.underlying t=some (.int k))\/∃ m,n=m+1/\agB t=some m/\∀ k,Pr.underlying t≠some (.int k):=by
 unfold kiB at h;split at h
 ·rename_i k hu;cases h;exact .inl ⟨rfl,k,hu⟩
 ·rename_i hne;cases ha:agB t with
  | none=>rw[ha]at h;cases h
  | some m=>rw[ha]at h;cases h;exact .inr ⟨m,rfl,rfl,hne⟩
def hit (eq:AV->AV->Option Bool) (k:AV):List (AV×AV)->Option (Option Nat)
 | []=>some none
 | e::l=>match eq k e.1 with
  | some true=>some (some 0)
  | some false=>(hit eq k l).map (Option.map (· + 1))
  | none=>none
section
variable {eq:AV->AV->Option Bool} {k v:AV}
theorem hit_cons {e:AV×AV} {l:List (AV×AV)} {b:Bool} (hb:eq k e.1=some b):hit eq k (e::l)=if b=true then some (some 0)else (hit eq k l).map (Option.map (· + 1)):=by simp only[hit,hb];cases b<;>rfl
theorem findM_hit:∀ {l:List (AV×AV)} {o:Option AV},findM eq k l=some o->∃ r,hit eq k l=some r/\o=r.bind λj=>(l[j]?).map (·.2)
 | [],o,h=>by cases h;exact⟨none,rfl,rfl⟩
 | e::l,o,h=>by
  have h':(obn (eq k e.1) λb=>jV b (some (some e.2)) (findM eq k l))=some o:=h
  obtain⟨b,hb,h'⟩:=zA h';rw[hit_cons hb];cases b with
  | true=>cases h';exact⟨some 0,rfl,rfl⟩
  | false=>obtain⟨r,h1,h2⟩:=findM_hit (l:=l) h';refine⟨r.map (· + 1),by simp[h1],?_⟩;rw[h2];cases r<;>simp
theorem putM_hit:∀ {l l':List (AV×AV)},putM eq k v l=some l'->∃ r,hit eq k l=some r/\l'=(match r with | none=>l++[(k,v)] | some j=>l.set j (k,v))
 | [],l',h=>by cases h;exact⟨none,rfl,rfl⟩
 | e::l,l',h=>by
  have h':(obn (eq k e.1) λb=>jV b (some ((k,v)::l)) (obn (putM eq k v l) λr=>some (e::r)))=some l':=h
  obtain⟨b,hb,h'⟩:=zA h';rw[hit_cons hb];cases b with
  | true=>cases h';exact⟨some 0,rfl,rfl⟩
  | false=>obtain⟨m,h1,h2⟩:=zA (o:=putM eq k v l) h';cases h2;obtain⟨r,h3,h4⟩:=putM_hit h1;refine⟨r.map (· + 1),by simp[h3],?_⟩;rw[h4];cases r<;>simp
theorem delM_hit:∀ {l l':List (AV×AV)},delM eq k l=some l'->∃ r,hit eq k l=some r/\l'=(match r with | none=>l | some j=>l.eraseIdx j)
 | [],l',h=>by cases h;exact⟨none,rfl,rfl⟩
 | e::l,l',h=>by
  have h':(obn (eq k e.1) λb=>jV b (some l) (obn (delM eq k l) λr=>some (e::r)))=some l':=h
  obtain⟨b,hb,h'⟩:=zA h';rw[hit_cons hb];cases b with
  | true=>cases h';exact⟨some 0,rfl,rfl⟩
  | false=>obtain⟨m,h1,h2⟩:=zA (o:=delM eq k l) h';cases h2;obtain⟨r,h3,h4⟩:=delM_hit h1;refine⟨r.map (· + 1),by simp[h3],?_⟩;rw[h4];cases r<;>simp
end
def found (r:Option Nat) (es:List MapEntry) (i:Nat):Option (Nat×Value):=r.bind λj=>(es[j]?).map λen=>(i+j,en.val)
theorem found_cons (r:Option Nat) (en:MapEntry) (es:List MapEntry) (i:Nat):found (r.map (· + 1)) (en::es) i=found r es (i+1):=by
 unfold found;cases r with
 | none=>rfl
 | some j=>
  show Option.map (λen:MapEntry=>(i+(j+1),en.val)) (es[j]?)=Option.map (λen:MapEntry=>(i+1+j,en.val)) (es[j]?)
  rw[show i+(j+1)=i+1+j from by omega]
theorem hit_now {e:Env} {kt:TypeId} {q:IntKind} {k:AV} {kv:Value} (hk:Dn e k kv):∀ {l:List (AV×AV)} {es:List MapEntry} {r:Option Nat} (i:Nat),hit (jT 0) k l=some r->zB (DnE e) l es->Instr.findNow (.int q) kv es i=some (found r es i)
 | [],[],r,i,h,_=>by cases h;rfl
 | [],_::_,_,_,_,hl=>hl.elim
 | _::_,[],_,_,_,hl=>hl.elim
 | p::l,en::es,r,i,h,hl=>by
  cases hb:jT 0 k p.1 with
  | none=>simp[hit,hb]at h
  | some b=>
   rw[hit_cons hb]at h;have hE:=keyE_law (kt:=kt) hb hk hl.1.1;cases hE with
   | agg m us vs hn=>cases hn
   | int kk a c hn hu hv hb'=>
    have e1:Instr.sameNow (.int q) kv en.key=some b:=by rw[hu,hv,hb'];simp[Instr.sameNow];rfl
    cases b with
    | true=>cases h;simp[Instr.findNow,e1,found]
    | false=>simp only[Bool.false_eq_true,if_false,Option.map_eq_some_iff]at h;obtain⟨r',h1,rfl⟩:=h;have:=hit_now (kt:=kt) (q:=q) hk (i+1) h1 hl.2;simp only[Instr.findNow,e1,this,found_cons]
theorem hit_ask {e:Env} {kt:TypeId} {m:Nat} (ha:agB kt=some m) {k:AV} {kv:Value} (hk:Dn e k kv):∀ {l:List (AV×AV)} {es:List MapEntry} {r:Option Nat} (i:Nat),hit (jT (m+1)) k l=some r->zB (DnE e) l es->Gives (Instr.findAsking kt kv es i) (found r es i)
 | [],[],r,i,h,_=>λw=>by cases h;rfl
 | [],_::_,_,_,_,hl=>hl.elim
 | _::_,[],_,_,_,hl=>hl.elim
 | p::l,en::es,r,i,h,hl=>λw=>by
  cases hb:jT (m+1) k p.1 with
  | none=>simp[hit,hb]at h
  | some b=>
   rw[hit_cons hb]at h;have hE:=keyE_law (kt:=kt) hb hk hl.1.1;cases hE with
   | int kk a c hn=>cases hn
   | agg m' us vs hn hu hv hlen hs=>
    cases hn;have e1:(Op.equal kt kv en.key).run Pr w=.ok b w:=by rw[hu,hv];exact equal_agg ha hlen hs w
    simp only[Instr.findAsking,Sem.run_bind,e1,Result.andThen_ok];cases b with
    | true=>cases h;simp[found]
    | false=>simp only[Bool.false_eq_true,if_false,Option.map_eq_some_iff]at h;obtain⟨r',h1,rfl⟩:=h;have:=hit_ask ha hk (i+1) h1 hl.2 w;simp only[this,found_cons,Bool.false_eq_true,if_false]
theorem find_law {e:Env} {kt:TypeId} {n:Nat} (hk:kiB kt=some n) {k:AV} {kv:Value} (hkv:Dn e k kv) (hV:KeyV n kv) {l:List (AV×AV)} {es:List MapEntry} {r:Option Nat} (h:hit (jT n) k l=some r) (hl:zB (DnE e) l es):Gives (Instr.findKey kt kv es) (found r es 0):=λw=>by
 rcases kiB_law hk with ⟨rfl,q,hu⟩ | ⟨m,rfl,ha,hne⟩
 ·simp only[Instr.findKey,Sem.run_bind,run_underlying hu,Result.andThen_ok,hit_now (kt:=kt) (q:=q) hkv 0 h hl,Sem.run_pure]
 ·obtain⟨us,rfl,hlen,hint⟩:=hV;obtain⟨_,ht,_⟩:=agB_law ha;have hu:∃ d,Pr.underlying kt=some d:=by
   unfold tkB at ht;cases hu:Pr.underlying kt with
   | none=>rw[hu]at ht;cases ht
   | some d=>exact⟨d,rfl⟩
  obtain⟨d,hu⟩:=hu;cases es with
  | nil=>
   cases l with
   | cons=>exact hl.elim
   | nil=>cases h;simp[Instr.findKey,run_underlying hu,Instr.findNow,found]
  | cons en es=>
   have hn:Instr.sameNow d (.agg ⟨us⟩) en.key=none:=by cases d<;>rfl
   simp only[Instr.findKey,Sem.run_bind,run_underlying hu,Result.andThen_ok,Instr.findNow,hn];exact hit_ask ha hkv 0 h hl w
theorem hit_key {e:Env} {kt:TypeId} {n:Nat} {k:AV} {kv:Value} (hk:Dn e k kv):∀ {l:List (AV×AV)} {es:List MapEntry} {j:Nat},hit (jT n) k l=some (some j)->zB (DnE e) l es->∃ p en,l[j]? = some p/\es[j]? = some en/\en.key=kv
 | [],_,j,h,_=>by cases h
 | p::l,[],j,h,hl=>hl.elim
 | p::l,en::es,j,h,hl=>by
  cases hb:jT n k p.1 with
  | none=>simp[hit,hb]at h
  | some b=>
   rw[hit_cons hb]at h;cases b with
   | true=>
    cases h;exact⟨p,en,rfl,rfl,(keyE_law (kt:=kt) hb hk hl.1.1).eq.symm⟩
   | false=>simp only[Bool.false_eq_true,if_false,Option.map_eq_some_iff]at h;obtain⟨r',h1,h2⟩:=h;obtain⟨j',rfl,rfl⟩:=h2;obtain⟨p',en',k1,k2,k3⟩:=hit_key (kt:=kt) hk h1 hl.2;exact⟨p',en',by simpa using k1,by simpa using k2,k3⟩
theorem sameBits_ints:∀ {us:List Value},(∀ u∈us,∃ k a,u=Value.int k a)->∀ n,((us.zip us).all λ(x,y)=>Instr.sameBits n x y)=true
 | [],_,_=>rfl
 | u::us,h,n=>by obtain⟨k,a,rfl⟩:=h u (by simp);simp only[List.zip_cons_cons,List.all_cons,Bool.and_eq_true];exact⟨by cases n<;>simp[Instr.sameBits],sameBits_ints (λv hv=>h v (by simp[hv])) n⟩
theorem KeyV.bits {n:Nat} {v:Value} (h:KeyV n v):Instr.sameBits 10000 v v=true:=by
 cases n with
 | zero=>obtain⟨k,a,rfl⟩:=h;simp[Instr.sameBits]
 | succ n=>obtain⟨us,rfl,_,h2⟩:=h;have:=sameBits_ints h2 9999;simp only[Instr.sameBits,Bool.and_eq_true,beq_self_eq_true,true_and];exact this
theorem check_law (em:Bool) (d:Nat):∀ (D:Nat) (t:TypeId) (L:List Nat) (ag:Bool) (z:Nat) (xs:List Value) (u:Value),lvs D t=some L->tkB Pr t=some (ag,z)->Vt ag xs u->cmp L xs xs=some true->Gives (Instr.checkKey em (d+D) t u) ()
 | 0,_,_,_,_,_,_,h,_,_,_=>by cases h
 | D+1,t,L,false,z,xs,u,h,ht,hu,hc=>λw=>by
  obtain⟨⟨k,hk⟩,rfl⟩:=lvs_int h ht;rw[show d+(D+1)=(d+D)+1 from rfl];simp[Instr.checkKey,run_underlying hk]
 | D+1,t,L,true,z,xs,u,h,ht,hu,hc=>λw=>by
  obtain rfl:u=.agg ⟨xs⟩:=hu;obtain⟨D',hD,hh⟩:=lvs_agg h ht;cases hD;have IH:=check_law em d D;rw[show d+(D+1)=(d+D)+1 from rfl,Instr.checkKey];have step:∀ {t':TypeId} {ag:Bool} {s off:Nat} {l:List Nat},lvs D t'=some l->tkB Pr t'=some (ag,s)->l.all (λi=>Nat.blt i s)=true->cmp (l.map (off + ·)) xs xs=some true->∃ a,(∀ w,(part t' ⟨xs⟩ off).run Pr w=.ok a w)/\∀ w,(Instr.checkKey em (d+D) t' a).run Pr w=.ok () w:=λ {t' ag s off l} h1 h2 h3 h4=>by obtain⟨a,b,p1,p2,v1,v2,c⟩:=part_law h1 h2 h3 h4;exact⟨a,p1,IH t' l ag s _ a h1 h2 v1 c⟩
  rcases hh with ⟨fs,hk,hs,hf⟩ | ⟨n,E,ag,s,l,hk,hE,hl,hb,rfl⟩
  ·simp only[Sem.run_bind,run_underlying hk,Result.andThen_ok];rw[<-Array.forIn_toList];generalize fs.toList=FS at hf;clear hk h;induction FS generalizing L with
   | nil=>simp
   | cons f FS ih=>
    obtain⟨ag,s,l,rr,h1,h2,h3,h4,h5,rfl⟩:=lvF_cons hf;rcases cmp_app hc with ⟨_,hc1⟩ | ⟨hc1,hc2⟩
    ·cases hc1
    ·obtain⟨a,p1,p2⟩:=step h2 h1 h5 hc1;simp only[List.forIn_cons,Sem.run_bind,h4,ne_eq,not_false_eq_true,if_true,Result.andThen_ok,p1,p2,Sem.run_pure];exact ih rr hc2 h3
  ·have hsz:=Go.Lw.run_sizeOf hE
   simp only[Sem.run_bind,run_underlying hk,Result.andThen_ok];simp only[Std.Legacy.Range.forIn_eq_forIn_range',Std.Legacy.Range.size,Nat.sub_zero,Nat.add_one_sub_one,Nat.div_one];rw[List.range_eq_range']at hc;generalize List.range' 0 n=is at hc;clear h;induction is with
   | nil=>simp
   | cons j is ih=>
    simp only[List.flatMap_cons]at hc;rcases cmp_app hc with ⟨_,hc1⟩ | ⟨hc1,hc2⟩
    ·cases hc1
    ·obtain⟨a,p1,p2⟩:=step hl hE hb hc1;simp only[List.forIn_cons,Sem.run_bind,hsz,Result.andThen_ok,p1,p2,Sem.run_pure];exact ih hc2
theorem key_check {kt:TypeId} {n:Nat} (hk:kiB kt=some n) {kv:Value} (hV:KeyV n kv) (em:Bool):Gives (Instr.checkKey em 10000 kt kv) ():=λw=>by
 rcases kiB_law hk with ⟨rfl,q,hu⟩ | ⟨m,rfl,ha,hne⟩
 ·have key:∀ d:Nat,(Instr.checkKey em (d+1) kt kv).run Pr w=.ok () w:=λd=>by simp[Instr.checkKey,run_underlying hu]
  exact key 9999
 ·obtain⟨us,rfl,hlen,hint⟩:=hV;obtain⟨_,ht,hl⟩:=agB_law ha;refine check_law em 9992 8 kt _ true m us _ hl ht rfl ?_ w;have:=cmp_same (pre:=[]) (pre':=[]) rfl (sameI_self hint);rw[hlen]at this;simpa [List.range_eq_range']using this
theorem mapK_law {X:TypeId} {m:My} (h:mapK X=some m):∃ kt et zv,Pr.underlying X=some (.map kt et)/\kiB kt=some m.n/\m.eq=jT m.n/\zK Pr et=some zv/\m.z=ofV zv:=by
 unfold mapK at h;cases hx:kyB X with
 | none=>rw[hx]at h;cases h
 | some q=>
  rw[hx]at h;cases hn:kiB q.1 with
  | none=>
   have h':(Option.rec (motive:=λ_=>Option My) none (λn=>Option.rec (motive:=λ_=>Option My) none (λz=>some (.mk n (jT n) (ofV z))) (zK Pr q.2)) (kiB q.1):Option My)=some m:=h
   rw[hn]at h';cases h'
  | some n=>
   have h':(Option.rec (motive:=λ_=>Option My) none (λn=>Option.rec (motive:=λ_=>Option My) none (λz=>some (.mk n (jT n) (ofV z))) (zK Pr q.2)) (kiB q.1):Option My)=some m:=h
   rw[hn]at h';cases hz:zK Pr q.2 with
   | none=>
    have h2:(Option.rec (motive:=λ_=>Option My) none (λz=>some (.mk n (jT n) (ofV z))) (zK Pr q.2):Option My)=some m:=h'
    rw[hz]at h2;cases h2
   | some zv=>
    have h2:(Option.rec (motive:=λ_=>Option My) none (λz=>some (.mk n (jT n) (ofV z))) (zK Pr q.2):Option My)=some m:=h'
    rw[hz]at h2;cases h2;unfold kyB at hx;split at hx
    ·rename_i K V hu;cases hx;exact⟨K,V,zv,hu,hn,rfl,hz,rfl⟩
    ·cases hx
section
variable {w0:World} {e:Env} {h:H} {w:World}
theorem zq.map (R:zq w0 e h w) {id:Nat} (hd:e.dom id) {l:List (AV×AV)} (hb:hget h id=.o (.m l)):∃ es c,w.heap[e.blk id]? = some (.map ⟨es⟩ c)/\MOk e l es c:=by
 have:=R.ok id hd
 rw[hb]at this;exact this
theorem lkV_law {ok b:Bool} {v r:AV} {u:Value} (h:lkV ok b v=some r) (hv:Dn e v u):Dn e r (if ok then .tuple #[u,.bool b]else u):=by
 cases ok with
 | false=>cases h;exact hv
 | true=>
  have h':(toSum v λv=>some (AV.t [v,.inl (.b b)]))=some r:=h
  rcases toSum_law h' with ⟨s,rfl,h'⟩ | ⟨s,rfl,h'⟩<;>cases h'
  ·exact⟨_,rfl,hv,rfl,trivial⟩
  ·exact⟨_,rfl,hv,rfl,trivial⟩
theorem lookup_law (R:zq w0 e h w) {X:TypeId} {x y r:AV} {ok:Bool} {u v:Value} (hh:lookupE X x y ok h=some r) (hx:Dn e x u) (hy:Dn e y v):∃ q,Dn e r q/\(Instr.lookup X u v ok).run Pr w=.ok q w:=by
 obtain⟨m,hm,hh⟩:=zA hh;obtain⟨kt,et,zv,hX,hn,he,hz,hzz⟩:=mapK_law hm;obtain⟨hV,hh⟩:=keyK_law hh hy;obtain⟨id,rfl,Hn⟩:=asM_law hh;clear hh;have hh:=Hn;clear Hn;obtain⟨l,hb,hh⟩:=mapB_law hh;obtain⟨o,ho,hh⟩:=zA hh;rw[he]at ho;obtain⟨hd,rfl⟩:=hx;obtain⟨es,c,h1,h2⟩:=R.map hd hb;obtain⟨rr,k1,k2⟩:=findM_hit ho;have hf:=find_law hn hy hV k1 h2.1 w;have hc:=key_check hn hV es.isEmpty w;cases rr with
 | none=>
  rw[show o=none from k2]at hh;have hh':lkV ok false m.z=some r:=hh;rw[hzz]at hh';refine⟨_,lkV_law hh' (ofV_law e zv),?_⟩;cases ok<;>simp[Instr.lookup,run_underlying hX,qw h1,hc,hf,found,run_zero hz]
 | some j=>
  obtain⟨p,en,e1,e2,e3⟩:=hit_key (kt:=kt) hy k1 h2.1;have e4:o=some p.2:=by rw[k2];simp[e1]
  rw[e4]at hh;have hh':lkV ok true p.2=some r:=hh;refine⟨_,lkV_law hh' (h2.1.at e1 e2).2,?_⟩;cases ok<;>simp[Instr.lookup,run_underlying hX,qw h1,hc,hf,found,e2]
theorem obn_some {α Z:Type} (m:α) (K:α->Option Z):obn (some m) K=K m:=rfl
theorem keyK_more {Z:Type} {z:Z} {n:Nat} {y:AV} {K K':AV->Option Z} (hh:ko n y K=some z) (hK:∀ a,K a=some z->K' a=some z):ko n y K'=some z:=by
 cases n with
 | zero=>
  have h':(asI y λk a=>K (.i k a))=some z:=hh
  obtain⟨k,a,rfl,h2⟩:=qB h';exact hK _ h2
 | succ n=>
  have h':(asA y λl=>gd (Nat.beq (len l) n && nums l) (K (.a l)))=some z:=hh
  obtain⟨l,rfl,h2⟩:=jK h';obtain⟨h1,h3⟩:=zk h2;show gd _ _=_;rw[h1];exact hK _ h3
theorem lookup_more {h':H} (hk:∀ j,hget h j≠.x->hget h' j=hget h j) {X:TypeId} {x y r:AV} {ok:Bool} (hh:lookupE X x y ok h=some r):lookupE X x y ok h'=some r:=by obtain⟨m,hm,h2⟩:=zA hh;unfold lookupE;rw[hm,obn_some];refine keyK_more h2 λa ha=>?_;obtain⟨id,rfl,h3⟩:=asM_law ha;exact blkO_more hk h3
theorem map_put (R:zq w0 e h w) {id:Nat} (hd:e.dom id) {l l':List (AV×AV)} (hb:hget h id=.o (.m l)) {es:List MapEntry} {c:Nat} (hM:MOk e l' es c) {K:H->Ev.R} {z:List (AV×H)} (hh:kF h id (.o (.m l')) K=some z):OutU w0 e h K (w.putObj (e.blk id) (.map ⟨es⟩ c)):=by
 obtain⟨hlo,h',P,hk⟩:=jS hh (R.zN hd);have RL:=R.low' id;have hin:inB (hget h id):=by rw[hb];trivial
 have hlow:=R.low id hd hin
 refine⟨h',e,z,hk,?_,(fr_low e h id).trans (RL.frPut P hd (.inl hlo) (by show jU (hget h id) _;rw[hb];trivial))⟩;refine RL.put P hd hin (by show ¬ hidK (hget h id);rw[hb];exact λc=>c) ⟨rfl,rfl,rfl,by simp,λk hk hne=>World.putObj_heap_other λc=>hne (by rw[c])⟩ ?_;exact⟨es,c,World.putObj_heap_same hlow.2,hM⟩
theorem upd_law (R:zq w0 e h w) {X:TypeId} {x y v:AV} {mu kv vu:Value} {K:H->Ev.R} {z:List (AV×H)} (hh:updE X x y v h K=some z) (hx:Dn e x mu) (hy:Dn e y kv) (hv:Dn e v vu):∃ w',(Instr.mapUpdate X mu kv vu).run Pr w=.ok () w'/\OutU w0 e h K w':=by
 obtain⟨m,hm,hh⟩:=zA hh;obtain⟨kt,et,zv,hX,hn,he,hz,hzz⟩:=mapK_law hm;obtain⟨hV,hh⟩:=keyK_law hh hy;obtain⟨id,rfl,Hn⟩:=asM_law hh;clear hh;have hh:=Hn;clear Hn;obtain⟨l,hb,hh⟩:=mapB_law hh;obtain⟨l',ho,hh⟩:=zA hh;rw[he]at ho;obtain⟨hd,rfl⟩:=hx;obtain⟨es,c,h1,h2⟩:=R.map hd hb;obtain⟨rr,k1,k2⟩:=putM_hit ho;have hf:=find_law hn hy hV k1 h2.1 w;have hc:=key_check hn hV false w;have hset:∀ o',(setObj (e.blk id) o').run Pr w=.ok () (w.putObj (e.blk id) o'):=λo'=>jZ o' h1;cases rr with
 | none=>
  have k2:l'=l++[(y,v)]:=k2
  refine⟨w.putObj (e.blk id) (.map ⟨es++[{ key:=kv,val:=vu,born:=c }]⟩ (c+1)),by simp[Instr.mapUpdate,run_underlying hX,qw h1,hc,hf,found,hset],?_⟩;have hM:MOk e l' (es++[{ key:=kv,val:=vu,born:=c }]) (c+1):=by
   rw[k2];refine⟨h2.1.append ⟨⟨hy,hv⟩,trivial⟩,?_,λen hen=>?_⟩
   ·rw[List.map_append,List.nodup_append];refine⟨h2.2.1,by simp,λa ha b hb=>?_⟩;obtain⟨en,hen,rfl⟩:=List.mem_map.1 ha;simp at hb;have:=h2.2.2 en hen;omega
   ·rcases List.mem_append.1 hen with k | k
    ·have:=h2.2.2 en k;omega
    ·simp at k;subst k;simp
  have:=map_put R hd hb hM hh
  simpa using this
 | some j=>
  have k2:l'=l.set j (y,v):=k2
  obtain⟨p,en,e1,e2,e3⟩:=hit_key (kt:=kt) hy k1 h2.1;have hstay:(Instr.keyThatStays en.key kv).run Pr w=.ok kv w:=by rw[e3];simp[Instr.keyThatStays,hV.bits]
  refine⟨w.putObj (e.blk id) (.map ⟨es.modify j λen=>{ en with key:=kv,val:=vu }⟩ c),by simp[Instr.mapUpdate,run_underlying hX,qw h1,hc,hf,found,e2,hstay,hset],?_⟩;have hM:MOk e l' (es.modify j λen=>{ en with key:=kv,val:=vu }) c:=by
   rw[k2];have hlen:j<l.length:=(List.getElem?_eq_some_iff.1 e1).1;refine⟨zB.of_at (by simp[h2.1.length]) λi a b ha hb=>?_,?_,λen' hen=>?_⟩
   ·rw[List.getElem?_modify]at hb;by_cases cj:j=i
    ·subst cj;rw[List.getElem?_set_self hlen]at ha;cases ha;simp[e2]at hb;subst hb;exact⟨hy,hv⟩
    ·rw[List.getElem?_set_ne cj]at ha;simp[cj]at hb;exact h2.1.at ha hb
   ·have:(es.modify j λen=>{ en with key:=kv,val:=vu }).map (·.born)=es.map (·.born):=by
     apply List.ext_getElem?;intro i;simp only[List.getElem?_map,List.getElem?_modify];by_cases cj:j=i
     ·subst cj;cases es[j]?<;>simp
     ·simp[cj]
    rw[this];exact h2.2.1
   ·obtain⟨i,hi⟩:=List.mem_iff_getElem?.1 hen;rw[List.getElem?_modify]at hi;by_cases cj:j=i
    ·subst cj;simp[e2]at hi;subst hi;exact h2.2.2 en (List.mem_of_getElem? e2)
    ·simp[cj]at hi;exact h2.2.2 en' (List.mem_of_getElem? hi)
  have:=map_put R hd hb hM hh
  simpa using this
end
def Ops (e:Env) (τ:L3) (a:Act) (o:Op):Prop:=∀ y∈o.operands.toList,Dn e ((evO y).v τ) (a.eval y)
theorem jB {s:Sem Value} {q:Value} {w w':World} (h:s.run Pr w=.ok q w'):(do pure (Next.value (<-s)):Sem Next).run Pr w=.ok (.value q) w':=by simp only[Sem.run_bind,h,Result.andThen_ok,Sem.run_pure]
theorem run_u {s:Sem Unit} {w w':World} (h:s.run Pr w=.ok () w'):(do s;pure Next.skip:Sem Next).run Pr w=.ok .skip w':=by simp only[Sem.run_bind,h,Result.andThen_ok,Sem.run_pure]
theorem blt_p {b:Builtin} {ts:List TypeId} {l:List Operand} {g:L3->Option AV} (hk:bltE b ts l=.p g) {τ:L3} {x:AV} (hg:g τ=some x) {e:Env} {us:List Value} (hl:zB (Dn e) (l.map λo=>(evO o).v τ) us) (ty:TypeId) :
  ∃ v,Dn e x v/\∀ cs w,(builtin b ⟨ts⟩ ty cs ⟨us⟩).run Pr w=.ok (.value v) w:=by
 cases b with
 | len=>
  cases ts with
  | nil=>cases(show OK.z=.p g from hk)
  | cons T ts=>
   obtain⟨q,h1,h2⟩:=len_p (show lenK T l=.p g from hk) hg hl ts ty;exact⟨q,h1,λ_ w=>jB (h2 w)⟩
 | cap=>
  cases ts with
  | nil=>cases(show OK.z=.p g from hk)
  | cons T ts=>
   have hk':(bif sliceT T then OK.p (λτ=>evL l τ λus=>jv us λx=>asO x λx=>cpO x)else .z)=.p g:=hk
   cases hT:sliceT T with
   | false=>rw[hT]at hk';cases hk'
   | true=>
    rw[hT]at hk';cases hk';obtain⟨y,hy,h'⟩:=jm (qV hg);rw[hy]at hl;cases us with
    | nil=>exact hl.elim
    | cons u us=>
     cases us with
     | cons=>exact hl.2.elim
     | nil=>
      obtain⟨q,h1,h2⟩:=cap_law hT h' hl.1 ts ty;exact⟨q,h1,λ_ w=>jB (h2 w)⟩
 | max=>
  cases(show OK.p (λτ=>evL l τ λus=>(match us with | x::r=>mmx true x r | []=>none))=.p g from hk);have h':=qV hg;generalize (l.map λo=>(evO o).v τ)=xs at h' hl;cases xs with
  | nil=>cases h'
  | cons y xs=>
   cases us with
   | nil=>exact hl.elim
   | cons u us=>
    obtain⟨q,h1,h2⟩:=mmx_law (mx:=true) h' hl.1 hl.2;exact⟨q,h1,λ_ w=>jB (s:=Builtin.max_ ⟨ts⟩ ty ⟨u::us⟩) (h2 w)⟩
 | min=>
  cases(show OK.p (λτ=>evL l τ λus=>(match us with | x::r=>mmx false x r | []=>none))=.p g from hk);have h':=qV hg;generalize (l.map λo=>(evO o).v τ)=xs at h' hl;cases xs with
  | nil=>cases h'
  | cons y xs=>
   cases us with
   | nil=>exact hl.elim
   | cons u us=>
    obtain⟨q,h1,h2⟩:=mmx_law (mx:=false) h' hl.1 hl.2;exact⟨q,h1,λ_ w=>jB (s:=Builtin.min_ ⟨ts⟩ ty ⟨u::us⟩) (h2 w)⟩
 | append=>
  cases ts with
  | nil=>cases(show OK.z=.p g from hk)
  | cons X ts=>
   cases ts with
   | nil=>cases(show OK.z=.p g from hk)
   | cons Y ts=>cases(show(OK.w _)=.p g from hk)
 | copy=>cases ts<;>cases(show(_:OK)=.p g from hk)
 | clear=>cases ts<;>cases(show(_:OK)=.p g from hk)
 | delete=>cases ts<;>cases(show(_:OK)=.p g from hk)
 | _=>cases(show OK.z=.p g from hk)
theorem blt_r {b:Builtin} {ts:List TypeId} {l:List Operand} {g:L3->H->Option AV} (hk:bltE b ts l=.r g) {τ:L3} {h:H} {x:AV} (hg:g τ h=some x) {w0:World} {e:Env} {w:World} (R:zq w0 e h w) {us:List Value} (hl:zB (Dn e) (l.map λo=>(evO o).v τ) us) (ty:TypeId) :
  ∃ v,Dn e x v/\∀ cs,(builtin b ⟨ts⟩ ty cs ⟨us⟩).run Pr w=.ok (.value v) w:=by
 cases b with
 | len=>
  cases ts with
  | nil=>cases(show OK.z=.r g from hk)
  | cons T ts=>
   have hk':lenK T l=.r g:=hk
   unfold lenK at hk';split at hk'
   ·rename_i K V hT;cases hk';obtain⟨y,hy,h'⟩:=jm (qV hg);rw[hy]at hl;cases us with
    | nil=>exact hl.elim
    | cons u us=>
     cases us with
     | cons=>exact hl.2.elim
     | nil=>
      obtain⟨o,rfl,h2⟩:=qj h';split at h2
      ·rename_i id;have h3:(blkO h id λb=>(match b with | .m l=>nat (len l) λn=>iLn n | _=>none))=some x:=h2;obtain⟨bb,hb,h4⟩:=qJ h3;cases bb with
       | m lm=>
        have h5:(nat (len lm) λn=>iLn n)=some x:=h4
        rw[nat_eq,qz]at h5;obtain rfl:=kN h5;have hd:e.dom id/\u=.map (some (e.blk id)):=hl.1;obtain⟨hd,rfl⟩:=hd;obtain⟨es,c,k1,k2⟩:=R.map hd hb;refine⟨_,rfl,λ_=>jB (s:=Builtin.len_ ⟨T::ts⟩ ty ⟨[_]⟩) (q:=.int .i64 lm.length) ?_⟩;simp[Builtin.len_,run_underlying hT,qw k1,goInt,k2.1.length]
       | _=>cases h4
      ·obtain rfl:=kN h2;have hu:u=.map none:=hl.1.1;subst hu;refine⟨_,rfl,λ_=>jB (s:=Builtin.len_ ⟨T::ts⟩ ty ⟨[_]⟩) (q:=.int .i64 (0:Nat)) ?_⟩;simp[Builtin.len_,run_underlying hT,goInt]
      ·cases h2
   ·cases hk'
   ·cases hk'
   ·cases hk'
 | cap=>
  cases ts with
  | nil=>cases(show OK.z=.r g from hk)
  | cons T ts=>
   have hk':(bif sliceT T then OK.p (λτ=>evL l τ λus=>jv us λx=>asO x λx=>cpO x)else .z)=.r g:=hk
   cases hT:sliceT T<;>rw[hT]at hk'<;>cases hk'
 | append=>
  cases ts with
  | nil=>cases(show OK.z=.r g from hk)
  | cons X ts=>
   cases ts with
   | nil=>cases(show OK.z=.r g from hk)
   | cons Y ts=>cases(show(OK.w _)=.r g from hk)
 | copy=>cases ts<;>cases(show(_:OK)=.r g from hk)
 | clear=>cases ts<;>cases(show(_:OK)=.r g from hk)
 | delete=>cases ts<;>cases(show(_:OK)=.r g from hk)
 | _=>cases(show(_:OK)=.r g from hk)
theorem blt_a {b:Builtin} {ts:List TypeId} {l:List Operand} {g:L3->Option Al} (hk:bltE b ts l=.a g):False:=by
 cases b with
 | len=>
  cases ts with
  | nil=>cases(show OK.z=.a g from hk)
  | cons T ts=>
   have hk':lenK T l=.a g:=hk
   unfold lenK at hk';split at hk'<;>cases hk'
 | cap=>
  cases ts with
  | nil=>cases(show OK.z=.a g from hk)
  | cons T ts=>
   have hk':(bif sliceT T then OK.p (λτ=>evL l τ λus=>jv us λx=>asO x λx=>cpO x)else .z)=.a g:=hk
   cases hT:sliceT T<;>rw[hT]at hk'<;>cases hk'
 | append=>
  cases ts with
  | nil=>cases(show OK.z=.a g from hk)
  | cons X ts=>
   cases ts with
   | nil=>cases(show OK.z=.a g from hk)
   | cons Y ts=>cases(show(OK.w _)=.a g from hk)
 | copy=>cases ts<;>cases(show(_:OK)=.a g from hk)
 | clear=>cases ts<;>cases(show(_:OK)=.a g from hk)
 | delete=>cases ts<;>cases(show(_:OK)=.a g from hk)
 | _=>cases(show(_:OK)=.a g from hk)
theorem calE_blt {c:Callee} {ts:List TypeId} {l:List Operand} (h:∀ g,calE c ts l≠.w g) (hz:calE c ts l≠.z):∃ b,c=.builtin b/\calE c ts l=bltE b ts l:=by
 cases c with
 | builtin b=>exact⟨b,rfl,rfl⟩
 | invoke r n=>exact absurd rfl hz
 | value f=>
  cases f with
  | tmp t=>exact absurd rfl (h _)
  | const v=>exact absurd rfl (h _)
  | func f=>exact absurd rfl (h _)
  | global g=>exact absurd rfl hz
theorem pure_law {O:Oper} {g:L3->Option AV} (hk:opK O.op=.p g) {τ:L3} {x:AV} (hg:g τ=some x) {e:Env} {a:Act} (ho:Ops e τ a O.op):∃ v,Dn e x v/\∀ w,(execOp a.eval O).run Pr w=.ok (.value v) w:=by
 obtain⟨dst,op,ty,pos,after,guard⟩:=O;have hk:opK op=.p g:=hk;have ho:Ops e τ a op:=ho;have one:∀ y,op.operands=#[y]->Dn e ((evO y).v τ) (a.eval y):=λy h=>ho y (by rw[h];simp);have two:∀ y z,op.operands=#[y,z]->Dn e ((evO y).v τ) (a.eval y)/\Dn e ((evO z).v τ) (a.eval z):=λy z h=>⟨ho y (by rw[h];simp),ho z (by rw[h];simp)⟩;have fin:∀ {s:Sem Value} {q:Value},Dn e x q->Gives s q->∃ v,Dn e x v/\∀ w,(do pure (Next.value (<-s)):Sem Next).run Pr w=.ok (.value v) w:=λh1 h2=>⟨_,h1,λw=>jB (h2 w)⟩;cases op with
 | move y=>
  have hk':OK.p (λτ=>frc ((evO y).v τ) some)=.p g:=hk
  cases hk';have hg':frc ((evO y).v τ) some=some x:=hg;rw[kR]at hg';cases hg';exact⟨_,one y rfl,λw=>rfl⟩
 | pick c p q=>
  have hk':OK.p (λτ=>asB ((evO c).v τ) λz=>Bool.rec (motive:=λ_=>L3->Option AV) (λτ=>frc ((evO q).v τ) some) (λτ=>frc ((evO p).v τ) some) z τ)=.p g:=hk
  cases hk';have hc:Dn e ((evO c).v τ) (a.eval c):=ho c (by simp[Op.operands]);have hp:Dn e ((evO p).v τ) (a.eval p):=ho p (by simp[Op.operands]);have hq:Dn e ((evO q).v τ) (a.eval q):=ho q (by simp[Op.operands]);obtain⟨b,hb,hg⟩:=asB_law hg;rw[hb]at hc;have hc':a.eval c=.bool b:=hc;cases b with
  | true=>
   have hg':frc ((evO p).v τ) some=some x:=hg
   rw[kR]at hg';cases hg';exact⟨_,hp,λw=>by simp[execOp,hc',asBool]⟩
  | false=>
   have hg':frc ((evO q).v τ) some=some x:=hg
   rw[kR]at hg';cases hg';exact⟨_,hq,λw=>by simp[execOp,hc',asBool]⟩
 | build X ps=>
  have hk':OK.p (λτ=>buildE X ps.toList τ)=.p g:=hk
  cases hk';obtain⟨q,h1,h2⟩:=build_law (a:=a) hg λp hp=>ho p.2 (by simp only[Op.operands];exact List.mem_map_of_mem hp);have e1:(ps.map λ(i,x)=>(i,a.eval x))=(ps.toList.map λp=>(p.1,a.eval p.2)).toArray:=by apply Array.ext';simp
  refine⟨q,h1,λw=>?_⟩;show(do pure (Next.value (<-Instr.build X (ps.map λ(i,x)=>(i,a.eval x)))):Sem Next).run Pr w=_;rw[e1];exact jB (h2 w)
 | nilCheck y=>
  have hk':OK.p (λτ=>nilE ((evO y).v τ))=.p g:=hk
  cases hk';obtain⟨h1,h2⟩:=nil_law hg (one y rfl);exact⟨_,h1,λw=>h2 a y rfl _ rfl w⟩
 | binOp op X y z Y=>
  have hk':OK.p (λτ=>(binE op X).g ((evO y).v τ) ((evO z).v τ))=.p g:=hk
  cases hk';obtain⟨h1,h2⟩:=two y z rfl;obtain⟨q,h3,h4⟩:=bin_law hg h1 h2;exact fin h3 (h4 y z)
 | unOp op X y=>
  have hk':OK.p (λτ=>(unE op).g ((evO y).v τ))=.p g:=hk
  cases hk';obtain⟨q,h3,h4⟩:=un_law hg (one y rfl);exact fin h3 h4
 | convert S T y=>
  have hk':OK.p (λτ=>(convE S T).g ((evO y).v τ))=.p g:=hk
  cases hk';obtain⟨q,h3,h4⟩:=conv_law hg (one y rfl);exact fin h3 h4
 | slice X y lo hi mx=>
  have hk':OK.p (λτ=>sliceE ((evO y).v τ) X lo hi mx τ)=.p g:=hk
  cases hk';have hy:Dn e ((evO y).v τ) (a.eval y):=ho y (by simp[Op.operands]);obtain⟨q,h3,h4⟩:=slice_law (a:=a) hg hy (λo h=>ho o (by subst h;simp[Op.operands])) (λo h=>ho o (by subst h;simp[Op.operands])) (λo h=>ho o (by subst h;simp[Op.operands]));exact fin h3 h4
 | fieldAddr S y f=>
  have hk':OK.p (λτ=>(jE S f).g ((evO y).v τ))=.p g:=hk
  cases hk';obtain⟨q,h3,h4⟩:=fieldAddr_law hg (one y rfl);exact fin h3 h4
 | field S y f=>
  have hk':OK.p (λτ=>(fieldE S f).g ((evO y).v τ))=.p g:=hk
  cases hk';obtain⟨q,h3,h4⟩:=field_law hg (one y rfl);exact fin h3 h4
 | indexAddr X y z=>
  have hk':OK.p (λτ=>indexAddrE X ((evO y).v τ) ((evO z).v τ))=.p g:=hk
  cases hk';obtain⟨h1,h2⟩:=two y z rfl;obtain⟨q,h3,h4⟩:=indexAddr_law hg h1 h2;exact fin h3 h4
 | index X y z=>
  have hk':OK.p (λτ=>indexE X ((evO y).v τ) ((evO z).v τ))=.p g:=hk
  cases hk';obtain⟨h1,h2⟩:=two y z rfl;obtain⟨q,h3,h4⟩:=index_law hg h1 h2;exact fin h3 h4
 | extract y j=>
  have hk':OK.p (λτ=>extE ((evO y).v τ) j)=.p g:=hk
  cases hk';obtain⟨q,h3,h4⟩:=ext_law hg (one y rfl);exact fin h3 h4
 | call c=>
  obtain⟨cal,⟨l⟩,⟨ts⟩⟩:=c;have hk':calE cal ts l=.p g:=hk;obtain⟨b,rfl,hb⟩:=calE_blt (λg' h=>by rw[h]at hk';cases hk') (λh=>by rw[h]at hk';cases hk');rw[hb]at hk';have hl:zB (Dn e) (l.map λo=>(evO o).v τ) (l.map a.eval):=evL_all λo h=>ho o (by simp[Op.operands,Call.operands,h]);obtain⟨v,h1,h2⟩:=blt_p hk' hg hl ty;refine⟨v,h1,λw=>?_⟩;simp only[execOp,resolve,invoke,Sem.run_bind,Sem.run_pure,Result.andThen_ok,List.map_toArray];exact h2 _ w
 | makeFunc fn fs cs=>
  have hk':mkfE fn fs.toList cs.toList=.p g:=hk
  unfold mkfE at hk';split at hk'<;>cases hk'
 | makeMap T r=>
  cases r<;>cases(show(_:OK)=.p g from hk)
 | next y s=>cases s<;>cases(show(_:OK)=.p g from hk)
 | _=>cases(show(_:OK)=.p g from hk)
theorem read_law {O:Oper} {g:L3->H->Option AV} (hk:opK O.op=.r g) {τ:L3} {h:H} {x:AV} (hg:g τ h=some x) {e:Env} {a:Act} (ho:Ops e τ a O.op) {w0 w:World} (R:zq w0 e h w):∃ v,Dn e x v/\(execOp a.eval O).run Pr w=.ok (.value v) w:=by
 obtain⟨dst,op,ty,pos,after,guard⟩:=O;have hk:opK op=.r g:=hk;have ho:Ops e τ a op:=ho;cases op with
 | load T y=>
  cases(show OK.r (λτ h=>(loadE T).g ((evO y).v τ) h)=.r g from hk);obtain⟨q,h1,h2⟩:=load_law R hg (ho y (by simp[Op.operands]));exact⟨q,h1,jB h2⟩
 | lookup X y z ok=>
  cases(show OK.r (λτ h=>lookupE X ((evO y).v τ) ((evO z).v τ) ok h)=.r g from hk);obtain⟨q,h1,h2⟩:=lookup_law R hg (ho y (by simp[Op.operands])) (ho z (by simp[Op.operands]));exact⟨q,h1,jB h2⟩
 | entry y=>
  cases(show OK.r (λτ h=>entryE ((evO y).v τ) h)=.r g from hk);obtain⟨q,h1,h2⟩:=entry_law R hg (ho y (by simp[Op.operands]));exact⟨q,h1,jB h2⟩
 | call c=>
  obtain⟨cal,⟨l⟩,⟨ts⟩⟩:=c;have hk':calE cal ts l=.r g:=hk;obtain⟨b,rfl,hb⟩:=calE_blt (λg' h=>by rw[h]at hk';cases hk') (λh=>by rw[h]at hk';cases hk');rw[hb]at hk';have hl:zB (Dn e) (l.map λo=>(evO o).v τ) (l.map a.eval):=evL_all λo h=>ho o (by simp[Op.operands,Call.operands,h]);obtain⟨v,h1,h2⟩:=blt_r hk' hg R hl ty;refine⟨v,h1,?_⟩;simp only[execOp,resolve,invoke,Sem.run_bind,Sem.run_pure,Result.andThen_ok,List.map_toArray];exact h2 _
 | makeFunc fn fs cs=>
  have hk':mkfE fn fs.toList cs.toList=.r g:=hk
  unfold mkfE at hk';split at hk'<;>cases hk'
 | makeMap T r=>cases r<;>cases(show(_:OK)=.r g from hk)
 | next y s=>cases s<;>cases(show(_:OK)=.r g from hk)
 | _=>cases(show(_:OK)=.r g from hk)
theorem al_law {O:Oper} {g:L3->Option Al} (hk:opK O.op=.a g) {τ:L3} {al:Al} (hg:g τ=some al) {e:Env} {a:Act} (ho:Ops e τ a O.op) (w:World):∃ q w',(execOp a.eval O).run Pr w=.ok (.value q) w'/\AllocOk e w al q w':=by
 obtain⟨dst,op,ty,pos,after,guard⟩:=O;have hk:opK op=.a g:=hk;have ho:Ops e τ a op:=ho;cases op with
 | alloc E=>
  cases(show OK.a (λ_=>(allocE E).g)=.a g from hk);obtain⟨q,w',h1,h2⟩:=allocE_law (e:=e) hg w;exact⟨q,w',jB h1,h2⟩
 | box E y=>
  cases(show OK.a (λτ=>boxE E ((evO y).v τ))=.a g from hk);obtain⟨q,w',h1,h2⟩:=boxE_law hg (ho y (by simp[Op.operands])) w;exact⟨q,w',jB h1,h2⟩
 | buildSlice X m ps=>
  cases(show OK.a (λτ=>jH X m ps.toList τ)=.a g from hk);obtain⟨q,w',h1,h2⟩:=buildSlice_law (a:=a) hg (λp hp=>ho p.2 (by simp only[Op.operands];exact List.mem_map_of_mem hp)) w;have e1:(ps.map λ(i,x)=>(i,a.eval x))=(ps.toList.map λp=>(p.1,a.eval p.2)).toArray:=by apply Array.ext';simp
  refine⟨q,w',?_,h2⟩;show(do pure (Next.value (<-Instr.buildSlice X m (ps.map λ(i,x)=>(i,a.eval x)))):Sem Next).run Pr w=_;rw[e1];exact jB h1
 | makeSlice X y z=>
  cases(show OK.a (λτ=>makeSliceE X ((evO y).v τ) ((evO z).v τ))=.a g from hk);obtain⟨q,w',h1,h2⟩:=makeSlice_law hg (ho y (by simp[Op.operands])) (ho z (by simp[Op.operands])) w;exact⟨q,w',jB h1,h2⟩
 | makeFunc fn fs cs=>
  have hk':mkfE fn fs.toList cs.toList=.a g:=hk
  obtain⟨q,w',h1,h2⟩:=makeFunc_law hk' hg (a:=a) (λo h=>ho o (by simp[Op.operands,h])) (λo h=>ho o (by simp[Op.operands,h])) w;have e1:fs.map a.eval=(fs.toList.map a.eval).toArray:=by apply Array.ext';simp
  have e2:cs.map a.eval=(cs.toList.map a.eval).toArray:=by apply Array.ext';simp
  refine⟨q,w',?_,h2⟩;show(do pure (Next.value (<-Instr.makeFunc fn (fs.map a.eval) (cs.map a.eval))):Sem Next).run Pr w=_;rw[e1,e2];exact jB h1
 | makeMap T r=>
  cases r with
  | some r=>cases(show(_:OK)=.a g from hk)
  | none=>
   cases(show OK.a (λ_=>some (.mk (.o (.m [])) λid=>.x (.o (.m id))))=.a g from hk);cases hg;obtain⟨q,w',h1,h2⟩:=makeMap_law e T w;exact⟨q,w',jB h1,h2⟩
 | call c=>
  obtain⟨cal,⟨l⟩,⟨ts⟩⟩:=c;have hk':calE cal ts l=.a g:=hk;obtain⟨b,rfl,hb⟩:=calE_blt (λg' h=>by rw[h]at hk';cases hk') (λh=>by rw[h]at hk';cases hk');rw[hb]at hk';exact(blt_a hk').elim
 | next y s=>cases s<;>cases(show(_:OK)=.a g from hk)
 | _=>cases(show(_:OK)=.a g from hk)
/-! ### What the plan says -/
theorem lor_test (a b i:Nat):(Nat.lor a b).testBit i=(a.testBit i || b.testBit i):=Nat.testBit_or a b i
theorem shl_test (n i:Nat):(Nat.shiftLeft 1 n).testBit i=decide (n=i):=by
 have:Nat.shiftLeft 1 n=2 ^ n:=by rw[show Nat.shiftLeft 1 n=1 <<< n from rfl,Nat.shiftLeft_eq,Nat.one_mul]
 rw[this,Nat.testBit_two_pow]
theorem nth_eq:∀ (l:List Nat) (i:Nat),nth l i=l.getD i 0
 | [],_=>rfl
 | x::l,0=>rfl
 | x::l,i+1=>by simpa [nth]using nth_eq l i
def WtOk (ops:Array Oper) (i m:Nat):Prop:=∀ j,m.testBit j=true->Waits ops i j
theorem wtO_ok {ops:Array Oper} {o:Oper} {i:Nat} (ho:ops[i]? = some o) {done:List Nat} (hd:∀ j m,done[j]? = some m->WtOk ops j m):WtOk ops i (wtO o i done):=by
 unfold wtO;have key:∀ (es:List Edge),(∀ e∈es,e∈o.after)->WtOk ops i (es.foldr (λe m=>bif Region.binds .any e && Nat.blt e.on i then Nat.lor m (Nat.lor (Nat.shiftLeft 1 e.on) (nth done e.on))else m) 0):=by
  intro es;induction es with
  | nil=>intro _ j hj;simp at hj
  | cons e es ih=>
   intro he j hj;simp only[List.foldr_cons]at hj;cases hc:(Region.binds .any e && Nat.blt e.on i)with
   | false=>rw[hc]at hj;exact ih (λe' h'=>he e' (by simp[h'])) j hj
   | true=>
    rw[hc]at hj;simp only[cond_true,lor_test,shl_test,Bool.or_eq_true,decide_eq_true_eq]at hj;simp only[Bool.and_eq_true]at hc;have hmem:=he e (by simp);rcases hj with hj | hj | hj
    ·exact ih (λe' h'=>he e' (by simp[h'])) j hj
    ·exact .one ho hmem hc.1 hj
    ·rw[nth_eq]at hj;cases hn:done[e.on]? with
     | none=>simp[List.getD,hn]at hj
     | some m=>
      have:done.getD e.on 0=m:=by simp[List.getD,hn]
      rw[this]at hj;exact .more ho hmem hc.1 (hd _ _ hn j hj)
 exact key _ λe he=>Array.mem_toList_iff.1 he
structure RwOk (ops:Array Oper) (r:Rw):Prop where
 at_:ops[r.i]? = some r.o
 wt:WtOk ops r.i r.wt
 lk:r.lk=bitsOf (r.o.looksAt ops)
 ds:r.ds=bitsOf r.o.dst.toList
 kd:r.kd=kdO (opK r.o.op)
theorem rows_ok {ops:Array Oper} : ∀ {l:List Oper} {i:Nat} {done:List Nat},(∀ j o,l[j]? = some o->ops[i+j]? = some o)->done.length=i->(∀ j m,done[j]? = some m->WtOk ops j m)->∀ r∈rows ops l i done,RwOk ops r
 | [],_,_,_,_,_,r,hr=>by cases hr
 | o::l,i,done,hl,hlen,hd,r,hr=>by
  have h0:ops[i]? = some o:=by simpa using hl 0 o rfl
  have hw:=wtO_ok h0 hd
  have hr':r∈(nat (wtO o i done) λm=>({ i:=i,o:=o,wt:=m,lk:=bitsOf (o.looksAt ops),ds:=bitsOf o.dst.toList,kd:=kdO (opK o.op) } : Rw)::rows ops l (i+1) (done++[m])):=hr
  rw[nat_eq]at hr';rcases List.mem_cons.1 hr' with rfl | hr'
  ·exact⟨h0,hw,rfl,rfl,rfl⟩
  ·refine rows_ok (λj o' hj=>?_) (by simp[hlen]) (λj m hj=>?_) r hr'
   ·have:=hl (j+1) o' (by simpa using hj)
    rw[<-this];congr 1;omega
   ·by_cases c:j<done.length
    ·rw[List.getElem?_append_left c]at hj;exact hd j m hj
    ·rw[List.getElem?_append_right (by omega)]at hj;have:j=i:=by
      have:=(List.getElem?_eq_some_iff.1 hj).1
      simp at this;omega
     subst this;rw[hlen,Nat.sub_self]at hj;simp at hj;subst hj;exact hw
theorem pick1_mem:∀ {l:List Rw} {m:Nat} {r:Rw},pick1 l m=some r->r∈l
 | [],_,_,h=>by cases h
 | s::l,m,r,h=>by
  have h':(bif !Nat.beq s.kd 3 && rdyB m s then some s else pick1 l m)=some r:=h
  cases hc:(!Nat.beq s.kd 3 && rdyB m s)with
  | true=>rw[hc]at h';cases h';simp
  | false=>rw[hc]at h';exact List.mem_cons_of_mem _ (pick1_mem h')
theorem pick2_mem:∀ {l:List Rw} {m:Nat} {r:Rw},pick2 l m=some r->r∈l
 | [],_,_,h=>by cases h
 | s::l,m,r,h=>by
  have h':(bif rdyB m s then some s else pick2 l m)=some r:=h
  cases hc:rdyB m s with
  | true=>rw[hc]at h';cases h';simp
  | false=>rw[hc]at h';exact List.mem_cons_of_mem _ (pick2_mem h')
theorem ordE_mem {l:List Rw} : ∀ {n m:Nat} {r:Rw},r∈ordE l n m->r∈l
 | 0,_,_,h=>by cases h
 | n+1,m,r,h=>by
  simp only[ordE]at h;split at h
  ·rename_i s hs;rcases List.mem_cons.1 h with rfl | h
   ·exact pick1_mem hs
   ·exact ordE_mem h
  ·split at h
   ·rename_i s hs;rcases List.mem_cons.1 h with rfl | h
    ·exact pick2_mem hs
    ·exact ordE_mem h
   ·cases h
theorem plan_ok (ops:Array Oper):∀ r∈planE ops,RwOk ops r:=λr hr=>
 rows_ok (ops:=ops) (l:=ops.toList) (i:=0) (done:=[]) (λj o hj=>by simpa using hj) rfl (λj m h=>by simp at h) r (ordE_mem hr)
theorem land0 {l k:List Nat} (h:Nat.beq (Nat.land (bitsOf l) (bitsOf k)) 0=true):∀ i∈k,i∉l:=by refine bits_apart l k ?_;rw[zT]at h;rw[beq_iff_eq];exact of_decide_eq_true h
structure PairOk (ops:Array Oper) (r s:Rw):Prop where
 ne:r.i≠s.i
 wr:r.kd=3->Waits ops s.i r.i
 rd:∀ d,r.o.dst=some d->d∈s.o.looksAt ops->Waits ops s.i r.i/\s.wt.testBit r.i=true
 anti:∀ d,s.o.dst=some d->d∈r.o.looksAt ops->s.kd=3/\Waits ops s.i r.i/\s.wt.testBit r.i=true
 ds:∀ d,r.o.dst=some d->s.o.dst≠some d
theorem pair_ok {ops:Array Oper} {r s:Rw} (hr:RwOk ops r) (hs:RwOk ops s) (h:okPair r s=true):PairOk ops r s:=by
 simp only[okPair,Bool.and_eq_true,Bool.or_eq_true,Bool.not_eq_true']at h;obtain⟨⟨⟨⟨h1,h2⟩,h3⟩,h4⟩,h5⟩:=h;rw[zT,decide_eq_false_iff_not]at h1;refine⟨h1,λk=>?_,λd hd hm=>?_,λd hd hm=>?_,λd hd hd'=>?_⟩
 ·rcases h2 with h2 | h2
  ·rw[zT,decide_eq_false_iff_not]at h2;exact absurd k h2
  ·exact hs.wt _ h2
 ·rcases h3 with h3 | h3
  ·rw[hs.lk,hr.ds]at h3;exact absurd hm (land0 h3 d (by simp[hd]))
  ·exact⟨hs.wt _ h3,h3⟩
 ·rcases h4 with h4 | h4
  ·rw[hr.lk,hs.ds]at h4;exact absurd hm (land0 h4 d (by simp[hd]))
  ·rw[zT,decide_eq_true_eq]at h4;exact⟨h4.1,hs.wt _ h4.2,h4.2⟩
 ·rw[hr.ds,hs.ds]at h5;exact land0 h5 d (by simp[hd']) (by simp[hd])
theorem okPlan_law {ops:Array Oper} : ∀ {l:List Rw} {m:Nat},(∀ r∈l,RwOk ops r)->okPlan l m=true->l.Pairwise (PairOk ops)/\(∀ r∈l,r.kd≠3->∀ d,r.o.dst=some d->d∉r.o.looksAt ops)/\
  (∀ r∈l,∀ e∈r.o.after,Region.binds .any e=true->r.wt.testBit e.on=true)/\∀ (pre post:List Rw) (r:Rw),l=pre++r::post->∀ j,r.wt.testBit j=true->m.testBit j=true\/∃ s∈pre,s.i=j
 | [],m,_,_=>⟨.nil,λr hr=>by(cases hr),λr hr=>by(cases hr),λpre post r h=>by(cases pre<;>cases h)⟩
 | r::l,m,hl,h=>by
  simp only[okPlan,Bool.and_eq_true]at h;obtain⟨⟨⟨h1,h2⟩,h3⟩,h4⟩:=h;have hr:=hl r (by simp);obtain⟨i1,i2,i3,i4⟩:=okPlan_law (λs hs=>hl s (by simp[hs])) h4;simp only[okRow,Bool.and_eq_true,Bool.or_eq_true]at h1;have sub:∀ j,r.wt.testBit j=true->m.testBit j=true:=λj hj=>by
   rw[zT,decide_eq_true_eq]at h2;have:(Nat.land r.wt m).testBit j=r.wt.testBit j:=by rw[h2]
   rw[show Nat.land r.wt m=r.wt &&& m from rfl,Nat.testBit_and,hj]at this;simpa using this
  refine⟨.cons (λs hs=>pair_ok hr (hl s (by simp[hs])) (List.all_eq_true.1 h3 s hs)) i1,λs hs hk d hd=>?_,λs hs e he hb=>?_,λpre post s hp j hj=>?_⟩
  ·rcases List.mem_cons.1 hs with rfl | hs
   ·rcases h1.1 with k | k
    ·rw[zT,decide_eq_true_eq]at k;exact absurd k hk
    ·rw[hr.lk,hr.ds]at k;exact land0 k d (by simp[hd])
   ·exact i2 s hs hk d hd
  ·rcases List.mem_cons.1 hs with rfl | hs
   ·have:=List.all_eq_true.1 h1.2 e (Array.mem_toList_iff.2 he)
    rw[hb]at this;simpa using this
   ·exact i3 s hs e he hb
  ·cases pre with
   | nil=>
    simp at hp;obtain⟨rfl,rfl⟩:=hp;exact .inl (sub j hj)
   | cons q pre=>
    simp at hp;obtain⟨rfl,rfl⟩:=hp;rcases i4 pre post s rfl j hj with k | ⟨t,ht,htj⟩
    ·rw[lor_test,shl_test]at k;simp only[Bool.or_eq_true,decide_eq_true_eq]at k;rcases k with k | k
     ·exact .inl k
     ·exact .inr ⟨r,by simp,k⟩
    ·exact .inr ⟨t,by simp[ht],htj⟩
def SameAt (τ τ':L3) (o:Op):Prop:=∀ t,.tmp t∈o.operands.toList->(q3 t).g τ'=(q3 t).g τ
theorem evO_same {τ τ':L3} {o:Op} (h:SameAt τ τ' o) {y:Operand} (hy:y∈o.operands.toList):(evO y).v τ'=(evO y).v τ:=by
 cases y with
 | tmp t=>exact h t hy
 | const v=>rfl
 | global g=>rfl
 | func f=>rfl
theorem evL_same {Z:Type} {τ τ':L3} : ∀ {l:List Operand} {K:List AV->Option Z},(∀ y∈l,(evO y).v τ'=(evO y).v τ)->evL l τ' K=evL l τ K
 | [],K,_=>rfl
 | o::l,K,h=>by
  show(frc ((evO o).v τ') λv=>evL l τ' λr=>K (v::r))=frc ((evO o).v τ) λv=>evL l τ λr=>K (v::r)
  rw[kR,kR,h o (by simp)];exact evL_same λy hy=>h y (by simp[hy])
theorem fillE_same {Z:Type} {X:TypeId} {τ τ':L3} : ∀ {ps:List (Nat×Operand)} {l:List Sc} {K:List Sc->Option Z},(∀ p∈ps,(evO p.2).v τ'=(evO p.2).v τ)->fillE X τ' ps l K=fillE X τ ps l K
 | [],l,K,_=>rfl
 | p::ps,l,K,h=>by
  have key:∀ τ,fillE X τ (p::ps) l K=Option.rec (motive:=λ_=>Option Z) none (λz=>cellsOf ((evO p.2).v τ) λcs=>gd (Nat.beq (len cs) z.2) (spl z.1 cs l λl=>fillE X τ ps l K)) (plB X p.1):=λτ=>rfl
  rw[key,key,h p (by simp)];cases plB X p.1 with
  | none=>rfl
  | some q=>
   have e:∀ l,fillE X τ' ps l K=fillE X τ ps l K:=λl=>fillE_same λy hy=>h y (by simp[hy])
   simp only[e]
theorem optI_same {Z:Type} {τ τ':L3} {o:Option Operand} {d:Nat} {K:Nat->Option Z} (h:∀ y,o=some y->(evO y).v τ'=(evO y).v τ):qf o τ' d K=qf o τ d K:=by
 cases o with
 | none=>rfl
 | some y=>
  show(asI ((evO y).v τ') λ_ n=>nn n λn=>K n)=asI ((evO y).v τ) λ_ n=>nn n λn=>K n
  rw[h y rfl]
theorem sliceE_same {x:AV} {X:TypeId} {lo hi mx:Option Operand} {τ τ':L3} (h1:∀ y,lo=some y->(evO y).v τ'=(evO y).v τ) (h2:∀ y,hi=some y->(evO y).v τ'=(evO y).v τ) (h3:∀ y,mx=some y->(evO y).v τ'=(evO y).v τ):sliceE x X lo hi mx τ'=sliceE x X lo hi mx τ:=by
 unfold sliceE;congr 1;have a1:∀ {d:Nat} {K:Nat->Option AV},qf lo τ' d K=qf lo τ d K:=optI_same h1;have a2:∀ {d:Nat} {K:Nat->Option AV},qf hi τ' d K=qf hi τ d K:=optI_same h2;have a3:∀ {d:Nat} {K:Nat->Option AV},qf mx τ' d K=qf mx τ d K:=optI_same h3;cases x with
 | x s=>
  cases s with
  | p id off=>
   show(pa X λq=>qf lo τ' 0 λl=>qf hi τ' q.1 λu=>qf mx τ' q.1 λm=>gd (Nat.ble l u && Nat.ble u m && Nat.ble m q.1) (cut id off q.2.2.1 l u m))=(pa X λq=>qf lo τ 0 λl=>qf hi τ q.1 λu=>qf mx τ q.1 λm=>gd (Nat.ble l u && Nat.ble u m && Nat.ble m q.1) (cut id off q.2.2.1 l u m))
   simp only[a1,a2,a3]
  | o x=>
   cases x with
   | s id off len cap=>
    show(el X λ_ s=>qf lo τ' 0 λl=>qf hi τ' len λu=>qf mx τ' cap λm=>gd (Nat.ble l u && Nat.ble u m && Nat.ble m cap) (cut id off s l u m))=(el X λ_ s=>qf lo τ 0 λl=>qf hi τ len λu=>qf mx τ cap λm=>gd (Nat.ble l u && Nat.ble u m && Nat.ble m cap) (cut id off s l u m))
    simp only[a1,a2,a3]
   | w id off len ct=>
    cases mx with
    | none=>
     show(el X λ_ s=>qf lo τ' 0 λl=>qf hi τ' len λu=>(gd (Nat.ble l u && Nat.ble u len) (jV (Nat.blt l len || Nat.beq l 0) (nat (off+l*s) λo=>nat (u-l) λn=>nat (ct+l) λc=>some (AV.x (.o (.w id o n c)))) (some (AV.x (.o .e))))))=(el X λ_ s=>qf lo τ 0 λl=>qf hi τ len λu=>(gd (Nat.ble l u && Nat.ble u len) (jV (Nat.blt l len || Nat.beq l 0) (nat (off+l*s) λo=>nat (u-l) λn=>nat (ct+l) λc=>some (AV.x (.o (.w id o n c)))) (some (AV.x (.o .e))))))
     simp only[a1,a2]
    | some mo=>
     show(el X λ_ s=>qf lo τ' 0 λl=>qf hi τ' len λu=>qf (some mo) τ' 0 λm=>gd (Nat.ble l u && Nat.ble u m && Nat.ble m len) (cut id off s l u m))=(el X λ_ s=>qf lo τ 0 λl=>qf hi τ len λu=>qf (some mo) τ 0 λm=>gd (Nat.ble l u && Nat.ble u m && Nat.ble m len) (cut id off s l u m))
     simp only[a1,a2,a3]
   | e=>
    cases mx with
    | none=>
     show(el X λ_ _=>qf lo τ' 0 λl=>qf hi τ' 0 λu=>gd (Nat.beq (l+u) 0) (some (AV.x (.o .e))))=(el X λ_ _=>qf lo τ 0 λl=>qf hi τ 0 λu=>gd (Nat.beq (l+u) 0) (some (AV.x (.o .e))))
     simp only[a1,a2]
    | some mo=>
     show(el X λ_ _=>qf lo τ' 0 λl=>qf hi τ' 0 λu=>(none:Option AV))=(el X λ_ _=>qf lo τ 0 λl=>qf hi τ 0 λu=>(none:Option AV))
     simp only[a1,a2]
   | c v=>
    show slV v X lo hi mx τ'=slV v X lo hi mx τ
    unfold slV;split
    ·simp only[a1,a2,a3]
    ·cases mx<;>simp only[a1,a2]
    ·rfl
   | _=>rfl
  | _=>rfl
 | _=>rfl
theorem evL_eq {Z:Type} {τ:L3} : ∀ {l:List Operand} {K:List AV->Option Z},evL l τ K=K (l.map λo=>(evO o).v τ)
 | [],K=>rfl
 | o::l,K=>by
  have h':evL (o::l) τ K=(frc ((evO o).v τ) λv=>evL l τ λr=>K (v::r)):=rfl
  rw[h',kR,evL_eq];rfl
theorem blt_same_p {b:Builtin} {ts:List TypeId} {l:List Operand} {g:L3->Option AV} (hk:bltE b ts l=.p g) {τ τ':L3} (h:∀ K:List AV->Option AV,evL l τ' K=evL l τ K):g τ'=g τ:=by
 cases b with
 | len=>
  cases ts with
  | nil=>cases(show OK.z=.p g from hk)
  | cons T ts=>
   have hk':lenK T l=.p g:=hk
   unfold lenK at hk';split at hk'
   ·cases hk'
   ·cases hk';exact h _
   ·cases hk';exact h _
   ·cases hk'
 | cap=>
  cases ts with
  | nil=>cases(show OK.z=.p g from hk)
  | cons T ts=>
   have hk':(bif sliceT T then OK.p (λτ=>evL l τ λus=>jv us λx=>asO x λx=>cpO x)else .z)=.p g:=hk
   cases hT:sliceT T<;>rw[hT]at hk'<;>cases hk';exact h _
 | max=>cases(show OK.p (λτ=>evL l τ λus=>(match us with | x::r=>mmx true x r | []=>none))=.p g from hk);exact h _
 | min=>cases(show OK.p (λτ=>evL l τ λus=>(match us with | x::r=>mmx false x r | []=>none))=.p g from hk);exact h _
 | append=>
  cases ts with
  | nil=>cases(show OK.z=.p g from hk)
  | cons X ts=>
   cases ts with
   | nil=>cases(show OK.z=.p g from hk)
   | cons Y ts=>cases(show(OK.w _)=.p g from hk)
 | copy=>cases ts<;>cases(show(_:OK)=.p g from hk)
 | clear=>cases ts<;>cases(show(_:OK)=.p g from hk)
 | delete=>cases ts<;>cases(show(_:OK)=.p g from hk)
 | _=>cases(show OK.z=.p g from hk)
theorem blt_r_form {b:Builtin} {ts:List TypeId} {l:List Operand} {g:L3->H->Option AV} (hk:bltE b ts l=.r g):g=λτ h=>evL l τ λus=>jv us λx=>asO x λx=>(match x with | .m id=>lnO x h | .c (.map none)=>iLn 0 | _=>none):=by
 cases b with
 | len=>
  cases ts with
  | nil=>cases(show OK.z=.r g from hk)
  | cons T ts=>
   have hk':lenK T l=.r g:=hk
   unfold lenK at hk';split at hk'
   ·cases hk';rfl
   ·cases hk'
   ·cases hk'
   ·cases hk'
 | cap=>
  cases ts with
  | nil=>cases(show OK.z=.r g from hk)
  | cons T ts=>
   have hk':(bif sliceT T then OK.p (λτ=>evL l τ λus=>jv us λx=>asO x λx=>cpO x)else .z)=.r g:=hk
   cases hT:sliceT T<;>rw[hT]at hk'<;>cases hk'
 | append=>
  cases ts with
  | nil=>cases(show OK.z=.r g from hk)
  | cons X ts=>
   cases ts with
   | nil=>cases(show OK.z=.r g from hk)
   | cons Y ts=>cases(show(OK.w _)=.r g from hk)
 | copy=>cases ts<;>cases(show(_:OK)=.r g from hk)
 | clear=>cases ts<;>cases(show(_:OK)=.r g from hk)
 | delete=>cases ts<;>cases(show(_:OK)=.r g from hk)
 | _=>cases(show(_:OK)=.r g from hk)
theorem p_same {o:Op} {g:L3->Option AV} (hk:opK o=.p g) {τ τ':L3} (h:SameAt τ τ' o):g τ'=g τ:=by
 have ev:∀ y∈o.operands.toList,(evO y).v τ'=(evO y).v τ:=λy hy=>evO_same h hy
 cases o with
 | move y=>cases(show OK.p (λτ=>frc ((evO y).v τ) some)=.p g from hk);show frc ((evO y).v τ') some=frc ((evO y).v τ) some;rw[ev y (by simp[Op.operands])]
 | pick c p q=>
  cases(show OK.p (λτ=>asB ((evO c).v τ) λz=>Bool.rec (motive:=λ_=>L3->Option AV) (λτ=>frc ((evO q).v τ) some) (λτ=>frc ((evO p).v τ) some) z τ)=.p g from hk);show(asB ((evO c).v τ') λz=>Bool.rec (motive:=λ_=>L3->Option AV) (λτ=>frc ((evO q).v τ) some) (λτ=>frc ((evO p).v τ) some) z τ')=(asB ((evO c).v τ) λz=>Bool.rec (motive:=λ_=>L3->Option AV) (λτ=>frc ((evO q).v τ) some) (λτ=>frc ((evO p).v τ) some) z τ);rw[ev c (by simp[Op.operands])];congr 1;funext z;cases z
  ·show frc ((evO q).v τ') some=frc ((evO q).v τ) some;rw[ev q (by simp[Op.operands])]
  ·show frc ((evO p).v τ') some=frc ((evO p).v τ) some;rw[ev p (by simp[Op.operands])]
 | build X ps=>
  cases(show OK.p (λτ=>buildE X ps.toList τ)=.p g from hk);show buildE X ps.toList τ'=buildE X ps.toList τ;unfold buildE;have:∀ l,(fillE X τ' ps.toList l λl=>some (AV.a l))=fillE X τ ps.toList l λl=>some (AV.a l):=λl=>fillE_same λp hp=>ev p.2 (by simp only[Op.operands];exact List.mem_map_of_mem hp);simp only[this]
 | nilCheck y=>cases(show OK.p (λτ=>nilE ((evO y).v τ))=.p g from hk);show nilE ((evO y).v τ')=nilE ((evO y).v τ);rw[ev y (by simp[Op.operands])]
 | binOp op X y z Y=>cases(show OK.p (λτ=>(binE op X).g ((evO y).v τ) ((evO z).v τ))=.p g from hk);show(binE op X).g ((evO y).v τ') ((evO z).v τ')=(binE op X).g ((evO y).v τ) ((evO z).v τ);rw[ev y (by simp[Op.operands]),ev z (by simp[Op.operands])]
 | unOp op X y=>cases(show OK.p (λτ=>(unE op).g ((evO y).v τ))=.p g from hk);show(unE op).g ((evO y).v τ')=(unE op).g ((evO y).v τ);rw[ev y (by simp[Op.operands])]
 | convert S T y=>cases(show OK.p (λτ=>(convE S T).g ((evO y).v τ))=.p g from hk);show(convE S T).g ((evO y).v τ')=(convE S T).g ((evO y).v τ);rw[ev y (by simp[Op.operands])]
 | slice X y lo hi mx=>
  cases(show OK.p (λτ=>sliceE ((evO y).v τ) X lo hi mx τ)=.p g from hk);show sliceE ((evO y).v τ') X lo hi mx τ'=sliceE ((evO y).v τ) X lo hi mx τ;rw[ev y (by simp[Op.operands])];exact sliceE_same (λo h=>ev o (by subst h;simp[Op.operands])) (λo h=>ev o (by subst h;simp[Op.operands])) (λo h=>ev o (by subst h;simp[Op.operands]))
 | fieldAddr S y f=>cases(show OK.p (λτ=>(jE S f).g ((evO y).v τ))=.p g from hk);show(jE S f).g ((evO y).v τ')=(jE S f).g ((evO y).v τ);rw[ev y (by simp[Op.operands])]
 | field S y f=>cases(show OK.p (λτ=>(fieldE S f).g ((evO y).v τ))=.p g from hk);show(fieldE S f).g ((evO y).v τ')=(fieldE S f).g ((evO y).v τ);rw[ev y (by simp[Op.operands])]
 | indexAddr X y z=>cases(show OK.p (λτ=>indexAddrE X ((evO y).v τ) ((evO z).v τ))=.p g from hk);show indexAddrE X ((evO y).v τ') ((evO z).v τ')=indexAddrE X ((evO y).v τ) ((evO z).v τ);rw[ev y (by simp[Op.operands]),ev z (by simp[Op.operands])]
 | index X y z=>cases(show OK.p (λτ=>indexE X ((evO y).v τ) ((evO z).v τ))=.p g from hk);show indexE X ((evO y).v τ') ((evO z).v τ')=indexE X ((evO y).v τ) ((evO z).v τ);rw[ev y (by simp[Op.operands]),ev z (by simp[Op.operands])]
 | extract y j=>cases(show OK.p (λτ=>extE ((evO y).v τ) j)=.p g from hk);show extE ((evO y).v τ') j=extE ((evO y).v τ) j;rw[ev y (by simp[Op.operands])]
 | call c=>
  obtain⟨cal,⟨l⟩,⟨ts⟩⟩:=c;have hk':calE cal ts l=.p g:=hk;obtain⟨b,rfl,hb⟩:=calE_blt (λg' h=>by rw[h]at hk';cases hk') (λh=>by rw[h]at hk';cases hk');rw[hb]at hk';have hE:∀ K:List AV->Option AV,evL l τ' K=evL l τ K:=λK=>evL_same λy hy=>ev y (by simp[Op.operands,Call.operands,hy]);exact blt_same_p hk' hE
 | makeFunc fn fs cs=>
  have hk':mkfE fn fs.toList cs.toList=.p g:=hk
  unfold mkfE at hk';split at hk'<;>cases hk'
 | makeMap T r=>cases r<;>cases(show(_:OK)=.p g from hk)
 | next y s=>cases s<;>cases(show(_:OK)=.p g from hk)
 | _=>cases(show(_:OK)=.p g from hk)
theorem r_same {o:Op} {g:L3->H->Option AV} (hk:opK o=.r g) {τ τ':L3} (h:SameAt τ τ' o) (m:H):g τ' m=g τ m:=by
 have ev:∀ y∈o.operands.toList,(evO y).v τ'=(evO y).v τ:=λy hy=>evO_same h hy
 cases o with
 | load T y=>cases(show OK.r (λτ h=>(loadE T).g ((evO y).v τ) h)=.r g from hk);show(loadE T).g ((evO y).v τ') m=(loadE T).g ((evO y).v τ) m;rw[ev y (by simp[Op.operands])]
 | lookup X y z ok=>cases(show OK.r (λτ h=>lookupE X ((evO y).v τ) ((evO z).v τ) ok h)=.r g from hk);show lookupE X ((evO y).v τ') ((evO z).v τ') ok m=lookupE X ((evO y).v τ) ((evO z).v τ) ok m;rw[ev y (by simp[Op.operands]),ev z (by simp[Op.operands])]
 | entry y=>cases(show OK.r (λτ h=>entryE ((evO y).v τ) h)=.r g from hk);show entryE ((evO y).v τ') m=entryE ((evO y).v τ) m;rw[ev y (by simp[Op.operands])]
 | call c=>
  obtain⟨cal,⟨l⟩,⟨ts⟩⟩:=c;have hk':calE cal ts l=.r g:=hk;obtain⟨b,rfl,hb⟩:=calE_blt (λg' h=>by rw[h]at hk';cases hk') (λh=>by rw[h]at hk';cases hk');rw[hb]at hk';have hE:∀ K:List AV->Option AV,evL l τ' K=evL l τ K:=λK=>evL_same λy hy=>ev y (by simp[Op.operands,Call.operands,hy]);rw[blt_r_form hk'];exact hE _
 | makeFunc fn fs cs=>
  have hk':mkfE fn fs.toList cs.toList=.r g:=hk
  unfold mkfE at hk';split at hk'<;>cases hk'
 | makeMap T r=>cases r<;>cases(show(_:OK)=.r g from hk)
 | next y s=>cases s<;>cases(show(_:OK)=.r g from hk)
 | _=>cases(show(_:OK)=.r g from hk)
theorem a_same {o:Op} {g:L3->Option Al} (hk:opK o=.a g) {τ τ':L3} (h:SameAt τ τ' o):g τ'=g τ:=by
 have ev:∀ y∈o.operands.toList,(evO y).v τ'=(evO y).v τ:=λy hy=>evO_same h hy
 cases o with
 | alloc E=>cases(show OK.a (λ_=>(allocE E).g)=.a g from hk);rfl
 | box E y=>cases(show OK.a (λτ=>boxE E ((evO y).v τ))=.a g from hk);show boxE E ((evO y).v τ')=boxE E ((evO y).v τ);rw[ev y (by simp[Op.operands])]
 | buildSlice X m ps=>
  cases(show OK.a (λτ=>jH X m ps.toList τ)=.a g from hk);show jH X m ps.toList τ'=jH X m ps.toList τ;unfold jH;have:∀ (l:List Sc) (K:List Sc->Option Al),fillE X τ' ps.toList l K=fillE X τ ps.toList l K:=λl K=>fillE_same λp hp=>ev p.2 (by simp only[Op.operands];exact List.mem_map_of_mem hp);simp only[this]
 | makeSlice X y z=>cases(show OK.a (λτ=>makeSliceE X ((evO y).v τ) ((evO z).v τ))=.a g from hk);show makeSliceE X ((evO y).v τ') ((evO z).v τ')=makeSliceE X ((evO y).v τ) ((evO z).v τ);rw[ev y (by simp[Op.operands]),ev z (by simp[Op.operands])]
 | makeFunc fn fs cs=>
  have hk':mkfE fn fs.toList cs.toList=.a g:=hk
  unfold mkfE at hk';split at hk'
  ·rename_i f;cases hk';have e1:∀ K:List AV->Option Al,evL fs.toList τ' K=evL fs.toList τ K:=λK=>evL_same λy hy=>ev y (by simp only[Op.operands,Array.toList_append,List.mem_append];exact .inl hy);have e2:∀ K:List AV->Option Al,evL cs.toList τ' K=evL cs.toList τ K:=λK=>evL_same λy hy=>ev y (by simp only[Op.operands,Array.toList_append,List.mem_append];exact .inr hy);simp only[e1,e2]
  ·cases hk'
 | makeMap T r=>
  cases r with
  | some r=>cases(show(_:OK)=.a g from hk)
  | none=>cases(show OK.a (λ_=>some (.mk (.o (.m [])) λid=>.x (.o (.m id))))=.a g from hk);rfl
 | call c=>
  obtain⟨cal,⟨l⟩,⟨ts⟩⟩:=c;have hk':calE cal ts l=.a g:=hk;obtain⟨b,rfl,hb⟩:=calE_blt (λg' h=>by rw[h]at hk';cases hk') (λh=>by rw[h]at hk';cases hk');rw[hb]at hk';exact(blt_a hk').elim
 | next y s=>cases s<;>cases(show(_:OK)=.a g from hk)
 | _=>cases(show(_:OK)=.a g from hk)
theorem r_more {o:Op} {g:L3->H->Option AV} (hk:opK o=.r g) {τ:L3} {h h':H} (hm:∀ j,hget h j≠.x->hget h' j=hget h j) {x:AV} (hg:g τ h=some x):g τ h'=some x:=by
 cases o with
 | load T y=>cases(show OK.r (λτ h=>(loadE T).g ((evO y).v τ) h)=.r g from hk);exact load_more hm hg
 | lookup X y z ok=>cases(show OK.r (λτ h=>lookupE X ((evO y).v τ) ((evO z).v τ) ok h)=.r g from hk);exact lookup_more hm hg
 | entry y=>cases(show OK.r (λτ h=>entryE ((evO y).v τ) h)=.r g from hk);exact entry_more hm hg
 | call c=>
  obtain⟨cal,⟨l⟩,⟨ts⟩⟩:=c;have hk':calE cal ts l=.r g:=hk;obtain⟨b,rfl,hb⟩:=calE_blt (λg' h=>by rw[h]at hk';cases hk') (λh=>by rw[h]at hk';cases hk');rw[hb]at hk';have hf:=blt_r_form hk';subst hf;have hg':(evL l τ λus=>jv us λx=>asO x λx=>(match x with | .m id=>lnO x h | .c (.map none)=>iLn 0 | _=>none))=some x:=hg;show(evL l τ λus=>jv us λx=>asO x λx=>(match x with | .m id=>lnO x h' | .c (.map none)=>iLn 0 | _=>none))=some x;rw[evL_eq]at hg'⊢;obtain⟨y,hy,h2⟩:=jm hg';rw[hy];obtain⟨o,rfl,h3⟩:=qj h2;cases o with
  | m id=>
   have h4:(blkO h id λb=>(match b with | .m l=>nat (len l) λn=>iLn n | _=>none))=some x:=h3
   have h5:(blkO h' id λb=>(match b with | .m l=>nat (len l) λn=>iLn n | _=>none))=some x:=blkO_more hm h4
   exact h5
  | c v=>exact h3
  | _=>cases h3
 | makeFunc fn fs cs=>
  have hk':mkfE fn fs.toList cs.toList=.r g:=hk
  unfold mkfE at hk';split at hk'<;>cases hk'
 | makeMap T r=>cases r<;>cases(show(_:OK)=.r g from hk)
 | next y s=>cases s<;>cases(show(_:OK)=.r g from hk)
 | _=>cases(show(_:OK)=.r g from hk)
def SetF (τ τ':L3) (d:Option Nat) (x:AV):Prop:=∀ j,j<512->(q3 j).g τ'=if d=some j then x else (q3 j).g τ
theorem putE_law {d:Option Nat} {x:AV} {τ:L3} {h:H} {K:KO} {z:List (AV×H)} (hd:∀ i,d=some i->i<512) (hh:putE d x τ h K=some z):∃ τ',K τ' h=some z/\SetF τ τ' d x:=by
 cases d with
 | none=>exact⟨τ,hh,λj _=>by simp⟩
 | some d=>
  obtain⟨τ',h1,h2⟩:=q3_set τ x (hd d rfl);have hh':((q3 d).s τ x λτ=>K τ h)=some z:=hh;rw[h1]at hh';refine⟨τ',hh',λj hj=>?_⟩;rw[h2 j hj];by_cases c:j=d
  ·subst c;simp
  ·rw[if_neg c,if_neg (λk=>c (Option.some.inj k).symm)]
theorem dstOf_eq:∀ (l:List Oper) (j:Nat),dstOf l j=(l[j]?).bind (·.dst)
 | [],0=>rfl
 | [],j+1=>rfl
 | o::l,0=>rfl
 | o::l,j+1=>by
  show dstOf l j=_
  rw[dstOf_eq l j];simp
def wanted (all:List Oper) (o:Oper) (τ:L3):Option Bool:=match o.guard with
 | none=>some true
 | some g=>(match dstOf all g.1 with | some d=>wantB g.2 ((q3 d).g τ) | none=>none)
theorem oper_law {all:List Oper} {o:Oper} {ih:IH} {τ:L3} {h:H} {K:KO} {z:List (AV×H)} (hh:(operE all o).g ih τ h K=some z) :
  (wanted all o τ=some false/\putE o.dst .n τ h K=some z)\/(wanted all o τ=some true/\(stpE (opK o.op) o.dst).g ih τ h K=some z):=by
 unfold operE at hh;unfold wanted;cases hg:o.guard with
 | none=>rw[hg]at hh;exact .inr ⟨rfl,hh⟩
 | some g=>
  rw[hg]at hh;cases hd:dstOf all g.1 with
  | none=>
   have hh':(Option.rec (motive:=λ_=>Re) (.mk λ_ _ _ _=>none) (λd=>.mk λih τ h K=>obn (wantB g.2 ((q3 d).g τ)) λb=>Bool.rec (motive:=λ_=>IH->L3->H->KO->R) (λih τ h K=>(skpE o.dst).g ih τ h K) (λih τ h K=>(stpE (opK o.op) o.dst).g ih τ h K) b ih τ h K) (dstOf all g.1):Re).g ih τ h K=some z:=hh
   rw[hd]at hh';cases hh'
  | some d=>
   have hh':(Option.rec (motive:=λ_=>Re) (.mk λ_ _ _ _=>none) (λd=>.mk λih τ h K=>obn (wantB g.2 ((q3 d).g τ)) λb=>Bool.rec (motive:=λ_=>IH->L3->H->KO->R) (λih τ h K=>(skpE o.dst).g ih τ h K) (λih τ h K=>(stpE (opK o.op) o.dst).g ih τ h K) b ih τ h K) (dstOf all g.1):Re).g ih τ h K=some z:=hh
   rw[hd]at hh';obtain⟨b,hb,hh'⟩:=zA hh';cases b with
   | false=>exact .inl ⟨by simp only[hd];exact hb,hh'⟩
   | true=>exact .inr ⟨by simp only[hd];exact hb,hh'⟩
theorem wanted_law {ops:Array Oper} {o:Oper} {τ:L3} {b:Bool} (hw:wanted ops.toList o τ=some b) {e:Env} {n:Nat} {Z:Nat->Prop} {tmps:Array Value} (F:qF e n Z τ tmps) (hok:okP n ops o=true) (hZ:∀ d∈o.looksAt ops,¬ Z d) :
  Region.wanted o (yielded ops tmps)=b:=by
 unfold wanted at hw;unfold Region.wanted;cases hg:o.guard with
 | none=>rw[hg]at hw;cases hw;rfl
 | some g=>
  obtain⟨gi,want⟩:=g;rw[hg]at hw;simp only[dstOf_eq,Array.getElem?_toList]at hw;simp only[okP,hg,Bool.and_eq_true]at hok;have hok:=hok.2;cases hog:ops[gi]? with
  | none=>rw[hog]at hok;cases hok
  | some od=>
   rw[hog]at hok hw;cases hd:od.dst with
   | none=>simp only[hd]at hok;cases hok
   | some d=>
    simp only[hd]at hok;simp only[Option.bind_some,hd]at hw;have hdn:d<tmps.size:=by rw[F.1];exact qR hok
    have hlook:d∈o.looksAt ops:=by unfold Oper.looksAt;rw[hg];simp[hog,hd]
    have hv:=F.2.2 d _ (Array.getElem?_eq_getElem hdn) (hZ d hlook)
    have hy:yielded ops tmps gi=(match tmps[d]with | .bool b=>some b | _=>none):=by simp only[yielded,hog,Option.bind_some,hd,Array.getElem?_eq_getElem hdn];cases tmps[d]<;>rfl
    unfold wantB at hw;split at hw
    ·rename_i c hc;rw[hc]at hv;have hv':tmps[d]=.bool c:=hv;cases hw;show(yielded ops tmps gi == some want)=_;rw[hy,hv'];cases c<;>cases want<;>rfl
    ·rename_i hc;rw[hc]at hv;have hv':tmps[d]=undef:=hv;cases hw;show(yielded ops tmps gi == some want)=_;rw[hy,hv'];cases want<;>rfl
    ·cases hw
theorem kH {ops:Array Oper} {o:Oper} {n:Nat} (h:okP n ops o=true):(∀ y∈o.op.operands.toList,okO n y=true)/\(∀ d,o.dst=some d->d<n)/\Nd o=true:=by simp only[okP,Bool.and_eq_true]at h;obtain⟨⟨⟨h1,h2⟩,h3⟩,_⟩:=h;refine⟨List.all_eq_true.1 h1,λd hd=>?_,h3⟩;rw[hd]at h2;exact qR (by simpa using h2)
theorem ops_law {e:Env} {n:Nat} {Z:Nat->Prop} {τ:L3} {a:Act} {ops:Array Oper} {o:Oper} (F:qF e n Z τ a.tmps) (hok:okP n ops o=true) (hZ:∀ d∈o.looksAt ops,¬ Z d):Ops e τ a o.op:=λy hy=>by refine evO_law F ((kH hok).1 y hy) λt ht=>hZ t ?_;subst ht;unfold Oper.looksAt;exact List.mem_append_left _ (List.mem_filterMap.2 ⟨.tmp t,hy,rfl⟩)
theorem looks_same {τ τ':L3} {ops:Array Oper} {o:Oper} (h:∀ t∈o.looksAt ops,(q3 t).g τ'=(q3 t).g τ):SameAt τ τ' o.op:=λt ht=>h t (by unfold Oper.looksAt;exact List.mem_append_left _ (List.mem_filterMap.2 ⟨.tmp t,ht,rfl⟩))
theorem qE {τ τ':L3} {ops:Array Oper} {o:Oper} (h:∀ t∈o.looksAt ops,(q3 t).g τ'=(q3 t).g τ):wanted ops.toList o τ'=wanted ops.toList o τ:=by
 unfold wanted;cases hg:o.guard with
 | none=>rfl
 | some g=>
  simp only[dstOf_eq,Array.getElem?_toList];cases hd:(ops[g.1]?).bind (·.dst)with
  | none=>rfl
  | some d=>simp only;rw[h d (by unfold Oper.looksAt;rw[hg];obtain⟨g1,g2⟩:=g;simp only at hd⊢;rw[hd];simp)]
def WOk (w0:World) (ih:IH):Prop:=∀ (O:Oper) (g:IH->L3->H->KV->R),opK O.op=.w g->∀ {e:Env} {τ:L3} {h:H} {K:KV} {z:List (AV×H)} {a:Act} {w:World},g ih τ h K=some z->Ops e τ a O.op->zq w0 e h w->opW Pr O a w λa' w'=>∃ v,a'=a.put O.dst v/\Out w0 e h K v w'
def OutR (w0:World) (n:Nat) (e0:Env) (h0:H) (τ0:L3) (ds:List Deferred) (ws:Nat->Prop) (K:KO):Act->World->Prop:=λa' w'=>∃ e' τ' h' z',K τ' h'=some z'/\qF e' n noZ τ' a'.tmps/\zq w0 e' h' w'/\Fr e0 h0 e' h'/\a'.defers=ds/\∀ t,t<512->¬ ws t->(q3 t).g τ'=(q3 t).g τ0
theorem SetF.keep {τ τ':L3} {d:Option Nat} {x:AV} (s:SetF τ τ' d x) {t:Nat} (ht:t<512) (hn:d≠some t):(q3 t).g τ'=(q3 t).g τ:=by rw[s t ht,if_neg hn]
theorem qF.set {e:Env} {n:Nat} {Z Z':Nat->Prop} {τ τ':L3} {a:Act} {d:Option Nat} {x:AV} {v:Value} (F:qF e n Z τ a.tmps) (s:SetF τ τ' d x) (hd:∀ i,d=some i->i<n) (hx:Dn e x v) (hz:∀ t,¬ Z' t->d≠some t->¬ Z t):qF e n Z' τ' (a.put d v).tmps:=by
 cases d with
 | none=>
  refine⟨F.1,F.2.1,λt u hu ht=>?_⟩;have hlt:t<a.tmps.size:=(Array.getElem?_eq_some_iff.1 hu).1;rw[F.1]at hlt;rw[s t (by have:=F.2.1;omega),if_neg (by simp)];exact F.2.2 t u hu (hz t ht (by simp))
 | some i=>
  refine F.put (hd i rfl) hx (λj hj=>?_) λt ht hne=>hz t ht (λk=>hne (Option.some.inj k).symm);rw[s j hj];by_cases c:j=i
  ·subst c;simp
  ·rw[if_neg c,if_neg (λk=>c (Option.some.inj k).symm)]
theorem put_defers (a:Act) (d:Option Nat) (v:Value):(a.put d v).defers=a.defers:=by cases d<;>rfl
theorem st_law {w0:World} {ih:IH} (W:WOk w0 ih) {ops:Array Oper} {o:Oper} {n:Nat} (hok:okP n ops o=true) {τ:L3} {h:H} {K:KO} {z:List (AV×H)} (hh:(operE ops.toList o).g ih τ h K=some z) {e:Env} {a:Act} {w:World} (F:qF e n noZ τ a.tmps) (R:zq w0 e h w) :
  stW Pr ops o a w (OutR w0 n e h τ a.defers (λt=>o.dst=some t) K):=by
 obtain⟨k1,k2,k3⟩:=kH hok;have h512:∀ i,o.dst=some i->i<512:=λi hi=>Nat.lt_of_lt_of_le (k2 i hi) F.2.1
 -- from a value to what is left
 have fin:∀ {e':Env} {h':H} {x:AV} {v:Value} {w':World} {z':List (AV×H)},Fr e h e' h'->zq w0 e' h' w'->Dn e' x v->putE o.dst x τ h' K=some z'->OutR w0 n e h τ a.defers (λt=>o.dst=some t) K (a.put o.dst v) w':=λ {e' h' x v w' z'} hf hr hx hp=>by obtain⟨τ',j1,j2⟩:=putE_law h512 hp;exact⟨e',τ',h',z',j1,(F.ext hf.ext).set j2 k2 hx (λ_ _ _ h=>h),hr,hf,put_defers _ _ _,λt ht hn=>j2.keep ht hn⟩
 rcases oper_law hh with ⟨hw,hp⟩ | ⟨hw,hp⟩
 ·have:=wanted_law hw F hok (λ_ _ h=>h)
  unfold stW;rw[if_neg (by rw[this];simp)];exact fin (.refl e h) R (show Dn e .n undef from rfl) hp
 ·have:=wanted_law hw F hok (λ_ _ h=>h)
  unfold stW;rw[if_pos this];have hO:=ops_law F hok (λ_ _ h=>h);cases hk:opK o.op with
  | p g=>
   rw[hk]at hp;obtain⟨x,hg,hp⟩:=zA (o:=g τ) (k:=λv=>putE o.dst v τ h K) hp;obtain⟨v,hv,hr⟩:=pure_law hk hg hO;unfold opW;rw[hr w];exact fin (.refl e h) R hv hp
  | r g=>
   rw[hk]at hp;obtain⟨x,hg,hp⟩:=zA (o:=g τ h) (k:=λv=>putE o.dst v τ h K) hp;obtain⟨v,hv,hr⟩:=read_law hk hg hO R;unfold opW;rw[hr];exact fin (.refl e h) R hv hp
  | a g=>
   rw[hk]at hp;obtain⟨al,hg,hp⟩:=zA (o:=g τ) (k:=λal=>newB h al.b λid h=>putE o.dst (al.v id) τ h K) hp;obtain⟨q,w',hr,hA⟩:=al_law hk hg hO w;obtain⟨x,h',e',z',j1,j2,j3,j4⟩:=R.alloc hA (K:=λx h=>putE o.dst x τ h K) hp;unfold opW;rw[hr];exact fin j4 j3 j2 j1
  | w g=>
   rw[hk]at hp;have hp':g ih τ h (λv h=>putE o.dst v τ h K)=some z:=hp;refine opW_mono (λa' w' ⟨v,hv,hO⟩=>?_) (W o g hk hp' hO R);obtain⟨x,h',e',z',j1,j2,j3,j4⟩:=hO;subst hv;exact fin j4 j3 j2 j1
  | z=>rw[hk]at hp;cases hp
theorem OutR.trans {w0:World} {n:Nat} {e0 e:Env} {h0 h:H} {τ0 τ:L3} {ds:List Deferred} {ws ws':Nat->Prop} {K:KO} {a:Act} {w:World} (hf:Fr e0 h0 e h) (hs:∀ t,t<512->¬ ws t->(q3 t).g τ=(q3 t).g τ0) (hw:∀ t,ws' t->ws t) (o:OutR w0 n e h τ ds ws' K a w):OutR w0 n e0 h0 τ0 ds ws K a w:=by obtain⟨e',τ',h',z',j1,j2,j3,j4,j5,j6⟩:=o;exact⟨e',τ',h',z',j1,j2,j3,hf.trans j4,j5,λt ht hn=>(j6 t ht λk=>hn (hw t k)).trans (hs t ht hn)⟩
theorem text_law {w0:World} {ih:IH} (W:WOk w0 ih) {ops:Array Oper} {n:Nat} (hok:∀ o∈ops.toList,okP n ops o=true) {K:KO} {ro:Option Nat} {Q:Exit->Act->World->Prop} : ∀ (l:List Oper) (k:Nat) {τ:L3} {h:H} {z:List (AV×H)} {e:Env} {a:Act} {w:World},
  (∀ j o,l[j]? = some o->ops[k+j]? = some o)->(opsE ops.toList l).g ih τ h K=some z->qF e n noZ τ a.tmps->zq w0 e h w->
  (∀ a' w',OutR w0 n e h τ a.defers (λt=>t∈wro l) K a' w'->Q .normal a' w')->wpOpsIn (FW ro) 0 Pr ops Q (List.range' k l.length) a w
 | [],k,τ,h,z,e,a,w,_,hh,F,R,hQ=>by
  have:Q .normal a w:=hQ a w ⟨e,τ,h,z,hh,F,R,.refl e h,rfl,λ_ _ _=>rfl⟩
  simpa [wpOpsIn]using this
 | o::l,k,τ,h,z,e,a,w,hl,hh,F,R,hQ=>by
  have ho:ops[k]? = some o:=by simpa using hl 0 o rfl
  have hmem:o∈ops.toList:=Array.mem_toList_iff.2 (Array.mem_of_getElem? ho)
  have hh':(operE ops.toList o).g ih τ h (λτ h=>(opsE ops.toList l).g ih τ h K)=some z:=hh
  rw[List.length_cons,List.range'_succ,wpOpsIn_cons];refine stW_wpOpIn ho (kH (hok o hmem)).2.2 (qm (λa' w' hO=>?_) (st_law W (hok o hmem) hh' F R));obtain⟨e',τ',h',z',j1,j2,j3,j4,j5,j6⟩:=hO;have hw:∀ t,t∈wro (o::l)↔o.dst=some t\/t∈wro l:=λt=>by
   have:wro (o::l)=Option.rec (motive:=λ_=>List Nat) (wro l) (λd=>d::wro l) o.dst:=rfl
   rw[this];cases o.dst with
   | none=>simp
   | some d=>simp[eq_comm]
  refine text_law W hok l (k+1) (λj o' hj=>?_) j1 j2 j3 λa2 w2 hO2=>hQ a2 w2 ?_
  ·have:=hl (j+1) o' (by simpa using hj)
   rw[<-this];congr 1;omega
  ·rw[j5]at hO2;exact hO2.trans j4 (λt ht hn=>j6 t ht λk=>hn ((hw t).2 (.inl k))) λt k=>(hw t).2 (.inr k)
theorem filter_less {γ:Type} {p q:γ->Bool} : ∀ {l:List γ} {x:γ},(∀ y∈l,p y=true->q y=true)->x∈l->q x=true->p x=false->(l.filter p).length<(l.filter q).length
 | y::l,x,h,hx,hq,hp=>by
  have sub:(l.filter p).length<=(l.filter q).length:=by
   have:∀ (m:List γ),(∀ y∈m,p y=true->q y=true)->(m.filter p).length<=(m.filter q).length:=by
    intro m;induction m with
    | nil=>intro _;simp
    | cons z m ih=>
     intro hm;have:=ih λy hy=>hm y (by simp[hy]);simp only[List.filter_cons];cases hpz:p z with
     | true=>rw[hm z (by simp) hpz];simpa using this
     | false=>cases hqz:q z<;>simp<;>omega
   exact this l λy hy=>h y (by simp[hy])
  rcases List.mem_cons.1 hx with rfl | hx
  ·simp only[List.filter_cons,hp,hq];simp;omega
  ·have:=filter_less (λy hy=>h y (by simp[hy])) hx hq hp
   simp only[List.filter_cons];cases hpy:p y with
   | true=>rw[h y (by simp) hpy];simpa using this
   | false=>cases hqy:q y<;>simp<;>omega
section
variable (w0:World) (ih:IH) (ops:Array Oper) (n:Nat) (K:KO) (e0:Env) (h0:H) (τ0:L3) (ds:List Deferred) (π:List Rw)
def PendOk (e:Env) (τ:L3) (h:H) (idOf:Nat->Nat) (r:Rw):Prop:=
 (wanted ops.toList r.o τ=some false/\∀ d,r.o.dst=some d->(q3 d).g τ=.n)\/
 (wanted ops.toList r.o τ=some true/\
  ((∃ g x,opK r.o.op=.p g/\g τ=some x/\∀ d,r.o.dst=some d->(q3 d).g τ=x)\/
   (∃ g x,opK r.o.op=.r g/\g τ h=some x/\∀ d,r.o.dst=some d->(q3 d).g τ=x)\/
   (∃ g al,opK r.o.op=.a g/\g τ=some al/\h0.nxt<=idOf r.i/\idOf r.i<h.nxt/\¬ e.dom (idOf r.i)/\hget h (idOf r.i)=al.b/\∀ d,r.o.dst=some d->(q3 d).g τ=al.v (idOf r.i))))
def isAl (τ:L3) (r:Rw):Prop:=wanted ops.toList r.o τ=some true/\∃ g,opK r.o.op=.a g
structure RS (pre rest Z:List Rw) (listed:Array Bool) (e:Env) (τ:L3) (h:H) (z:List (AV×H)) (a:Act) (w:World):Prop where
 hp:π=pre.reverse++rest
 hz:∀ r∈Z,r∈pre/\r.kd≠3
 hl:∀ r∈π,listed.getD r.i false=true↔(r∈pre/\r∉Z)
 size:listed.size=ops.size
 down:Down ops listed
 run:(runP ops.toList rest pre).g ih τ h K=some z
 F:qF e n (λt=>∃ r∈Z,r.o.dst=some t) τ a.tmps
 R:zq w0 e h w
 fr:Fr e0 h0 e h
 ds:a.defers=ds
 agree:∀ t,t<512->(∀ r∈π,r.o.dst≠some t)->(q3 t).g τ=(q3 t).g τ0
 pend:∃ idOf:Nat->Nat,(∀ r∈Z,PendOk ops h0 e τ h idOf r)/\∀ r∈Z,∀ s∈Z,isAl ops τ r->isAl ops τ s->idOf r.i=idOf s.i->r=s
structure jQ:Prop where
 row:∀ r∈π,RwOk ops r
 all:∀ i,i<ops.size->∃ r∈π,r.i=i
 pair:π.Pairwise (PairOk ops)
 self:∀ r∈π,r.kd≠3->∀ d,r.o.dst=some d->d∉r.o.looksAt ops
 edge:∀ r∈π,∀ e∈r.o.after,Region.binds .any e=true->r.wt.testBit e.on=true
 before:∀ (pre post:List Rw) (r:Rw),π=pre++r::post->∀ j,r.wt.testBit j=true->∃ s∈pre,s.i=j
 ok:∀ o∈ops.toList,okP n ops o=true
end
section
variable {w0:World} {ih:IH} {ops:Array Oper} {n:Nat} {K:KO} {e0:Env} {h0:H} {τ0:L3} {ds:List Deferred} {π:List Rw} {pre rest Z:List Rw} {listed:Array Bool} {e:Env} {τ:L3} {h:H} {z:List (AV×H)} {a:Act} {w:World}
theorem pair_at {α:Type} {p:α->α->Prop} {A B:List α} {r:α} (h:(A++r::B).Pairwise p):(∀ s∈A,p s r)/\∀ s∈B,p r s:=by rw[List.pairwise_append]at h;exact⟨λs hs=>h.2.2 s hs r (by simp),(List.pairwise_cons.1 h.2.1).1⟩
theorem jQ.inj (P:jQ ops n π) {r s:Rw} (hr:r∈π) (hs:s∈π) (h:r.i=s.i):r=s:=by
 obtain⟨A,B,rfl⟩:=List.append_of_mem hr;obtain⟨h1,h2⟩:=pair_at P.pair;rcases List.mem_append.1 hs with hs | hs
 ·exact absurd h.symm (h1 s hs).ne
 ·rcases List.mem_cons.1 hs with rfl | hs
  ·rfl
  ·exact absurd h (h2 s hs).ne
theorem jQ.op (P:jQ ops n π) {r:Rw} (hr:r∈π):okP n ops r.o=true:=P.ok _ (Array.mem_toList_iff.2 (Array.mem_of_getElem? (P.row r hr).at_))
theorem RS.mem_pre (S:RS w0 ih ops n K e0 h0 τ0 ds π pre rest Z listed e τ h z a w) {r:Rw} (hr:r∈pre):r∈π:=by rw[S.hp];simp[hr]
theorem RS.mem_rest (S:RS w0 ih ops n K e0 h0 τ0 ds π pre rest Z listed e τ h z a w) {r:Rw} (hr:r∈rest):r∈π:=by rw[S.hp];simp[hr]
theorem RS.sep (S:RS w0 ih ops n K e0 h0 τ0 ds π pre rest Z listed e τ h z a w) (P:jQ ops n π) {r s:Rw} (hr:r∈pre) (hs:s∈rest):PairOk ops r s:=by
 have:=P.pair
 rw[S.hp,List.pairwise_append]at this;exact this.2.2 r (by simpa using hr) s hs
theorem RS.unl (S:RS w0 ih ops n K e0 h0 τ0 ds π pre rest Z listed e τ h z a w) (P:jQ ops n π) {r:Rw} (hr:r∈Z\/r∈rest):listed.getD r.i false=false:=by
 cases hl:listed.getD r.i false with
 | false=>rfl
 | true=>
  rcases hr with hr | hr
  ·exact absurd hr ((S.hl r (S.mem_pre (S.hz r hr).1)).1 hl).2
  ·exact absurd rfl (S.sep P ((S.hl r (S.mem_rest hr)).1 hl).1 hr).ne
theorem RS.looks (S:RS w0 ih ops n K e0 h0 τ0 ds π pre rest Z listed e τ h z a w) (P:jQ ops n π) {r:Rw} (hr:r∈π) (hrd:r.i∈Region.ready .any ops listed) (hpos:r∈Z\/∃ B,rest=r::B):∀ d∈r.o.looksAt ops,¬ ∃ s∈Z,s.o.dst=some d:=by
 rintro d hd ⟨s,hs,hsd⟩;have hsp:=(S.hz s hs).1;have hsπ:=S.mem_pre hsp;have wait:PairOk ops s r->False:=λp=>by
  have:=ready_waits S.down (p.rd d hsd hd).1 hrd
  rw[S.unl P (.inl hs)]at this;cases this
 rcases hpos with hz | ⟨B,hB⟩
 ·by_cases c:s=r
  ·subst c;exact P.self s hsπ (S.hz s hs).2 d hsd hd
  ·obtain⟨A,B,hAB⟩:=List.append_of_mem hsπ;have hp:=P.pair;rw[hAB]at hp hr;obtain⟨h1,h2⟩:=pair_at hp;rcases List.mem_append.1 hr with hr | hr
   ·exact(S.hz s hs).2 ((h1 r hr).anti d hsd hd).1
   ·rcases List.mem_cons.1 hr with rfl | hr
    ·exact c rfl
    ·exact wait (h2 r hr)
 ·exact wait (S.sep P hsp (by rw[hB];simp))
theorem kd_of {r:Rw} (h:RwOk ops r):(r.kd=3↔(∃ g,opK r.o.op=.w g)\/opK r.o.op=.z):=by
 rw[h.kd];cases opK r.o.op with
 | p g=>
   constructor;· intro k;cases k
   ·rintro(⟨g,k⟩ | k)<;>cases k
 | r g=>
   constructor;· intro k;cases k
   ·rintro(⟨g,k⟩ | k)<;>cases k
 | a g=>
   constructor;· intro k;cases k
   ·rintro(⟨g,k⟩ | k)<;>cases k
 | w g=>exact⟨λ_=>.inl ⟨g,rfl⟩,λ_=>rfl⟩
 | z=>exact⟨λ_=>.inr rfl,λ_=>rfl⟩
theorem run_cons {r:Rw} {l done:List Rw} : runP ops.toList (r::l) done=Bool.rec (motive:=λ_=>Re)
  (.mk λi τ h K=>(operE ops.toList r.o).g i τ h λτ h=>(runP ops.toList l (r::done)).g i τ h K)
  (.mk λi τ h K=>(operE ops.toList r.o).g i τ h λτ h=>gd ((rcksE ops.toList (pend r done)).g τ h) ((runP ops.toList l (r::done)).g i τ h K)) (Nat.beq r.kd 3):=rfl
end
section
variable {w0:World} {ih:IH} {ops:Array Oper} {n:Nat} {K:KO} {e0:Env} {h0:H} {τ0:L3} {ds:List Deferred} {π:List Rw} {pre rest Z:List Rw} {listed:Array Bool} {e:Env} {τ:L3} {h:H} {z:List (AV×H)} {a:Act} {w:World}
theorem looks_lt {o:Oper} {ops:Array Oper} {n:Nat} (hok:okP n ops o=true):∀ t∈o.looksAt ops,t<n:=by
 intro t ht;simp only[okP,Bool.and_eq_true]at hok;obtain⟨⟨⟨h1,_⟩,_⟩,h4⟩:=hok;unfold Oper.looksAt at ht;rcases List.mem_append.1 ht with ht | ht
 ·obtain⟨y,hy,hyt⟩:=List.mem_filterMap.1 ht;have:=List.all_eq_true.1 h1 y hy;cases y with
  | tmp s=>simp at hyt;subst hyt;exact qR this
  | _=>simp at hyt
 ·cases hg:o.guard with
  | none=>rw[hg]at ht;simp at ht
  | some g=>
   obtain⟨gi,wt⟩:=g;rw[hg]at ht h4;simp only at ht h4;cases hog:ops[gi]? with
   | none=>rw[hog]at h4;cases h4
   | some od=>
    rw[hog]at ht h4;simp only[Option.bind_some]at ht h4;cases hd:od.dst with
    | none=>rw[hd]at ht;simp at ht
    | some d=>rw[hd]at ht h4;simp at ht;subst ht;exact qR h4
theorem PendOk.keep {idOf idOf':Nat->Nat} {r:Rw} {e':Env} {τ':L3} {h':H} (p:PendOk ops h0 e τ h idOf r) (hlook:∀ t∈r.o.looksAt ops,(q3 t).g τ'=(q3 t).g τ) (hdst:∀ d,r.o.dst=some d->(q3 d).g τ'=(q3 d).g τ)
  (hr:∀ g x,opK r.o.op=.r g->wanted ops.toList r.o τ=some true->g τ' h=some x->(∀ d,r.o.dst=some d->(q3 d).g τ=x)->g τ' h'=some x)
  (ha:isAl ops τ r->idOf' r.i=idOf r.i/\(idOf r.i<h.nxt->idOf r.i<h'.nxt)/\(idOf r.i<h.nxt->¬ e.dom (idOf r.i)->¬ e'.dom (idOf r.i)/\hget h' (idOf r.i)=hget h (idOf r.i))):PendOk ops h0 e' τ' h' idOf' r:=by
 have hs:=looks_same hlook
 have hw:=qE (ops:=ops) (o:=r.o) hlook
 rcases p with ⟨p1,p2⟩ | ⟨p1,p2 | p2 | p2⟩
 ·exact .inl ⟨hw.trans p1,λd hd=>(hdst d hd).trans (p2 d hd)⟩
 ·obtain⟨g,x,g1,g2,g3⟩:=p2;exact .inr ⟨hw.trans p1,.inl ⟨g,x,g1,by rw[p_same g1 hs];exact g2,λd hd=>(hdst d hd).trans (g3 d hd)⟩⟩
 ·obtain⟨g,x,g1,g2,g3⟩:=p2;exact .inr ⟨hw.trans p1,.inr (.inl ⟨g,x,g1,hr g x g1 p1 (by rw[r_same g1 hs];exact g2) g3,λd hd=>(hdst d hd).trans (g3 d hd)⟩)⟩
 ·obtain⟨g,al,g1,g2,g3,g4,g5,g6,g7⟩:=p2;obtain⟨k1,k2,k3⟩:=ha ⟨p1,g,g1⟩;obtain⟨k4,k5⟩:=k3 g4 g5;exact .inr ⟨hw.trans p1,.inr (.inr ⟨g,al,g1,by rw[a_same g1 hs];exact g2,by rw[k1];exact g3,by rw[k1];exact k2 g4,by rw[k1];exact k4,by rw[k1,k5];exact g6,λd hd=>by rw[k1];exact(hdst d hd).trans (g7 d hd)⟩)⟩
theorem RS.adv {s:Rw} (S:RS w0 ih ops n K e0 h0 τ0 ds π pre (s::rest) Z listed e τ h z a w) (P:jQ ops n π) (hk:s.kd≠3):∃ τ' h',RS w0 ih ops n K e0 h0 τ0 ds π (s::pre) rest (s::Z) listed e τ' h' z a w:=by
 have hsπ:=S.mem_rest (r:=s) (by simp)
 have hok:=P.op hsπ
 obtain⟨k1,k2,k3⟩:=kH hok;have h512:∀ i,s.o.dst=some i->i<512:=λi hi=>Nat.lt_of_lt_of_le (k2 i hi) S.F.2.1;have hrun:=S.run;rw[run_cons]at hrun;have hb:Nat.beq s.kd 3=false:=by rw[zT,decide_eq_false_iff_not];exact hk
 rw[hb]at hrun;have hrun:(operE ops.toList s.o).g ih τ h (λτ h=>(runP ops.toList rest (s::pre)).g ih τ h K)=some z:=hrun;have hsZ:s∉Z:=λk=>(S.sep P (S.hz s k).1 (by simp:s∈s::rest)).ne rfl;obtain⟨idOf,hpend,hinj⟩:=S.pend
 -- the places of what waits are not those that s leaves
 have far:∀ r∈Z,(∀ t∈r.o.looksAt ops,s.o.dst≠some t)/\(∀ d,r.o.dst=some d->s.o.dst≠some d):=λr hr=>by
  have p:=S.sep P (S.hz r hr).1 (by simp:s∈s::rest)
  exact⟨λt ht hd=>hk (p.anti t hd ht).1,λd hd=>p.ds d hd⟩
 have lk512:∀ r∈π,∀ t∈r.o.looksAt ops,t<512:=λr hr t ht=>Nat.lt_of_lt_of_le (looks_lt (P.op hr) t ht) S.F.2.1
 have ds512:∀ r∈π,∀ d,r.o.dst=some d->d<512:=λr hr d hd=>Nat.lt_of_lt_of_le ((kH (P.op hr)).2.1 d hd) S.F.2.1
 have mk:∀ {τ':L3} {h':H} {x:AV} {idOf':Nat->Nat},SetF τ τ' s.o.dst x->(runP ops.toList rest (s::pre)).g ih τ' h' K=some z->zq w0 e h' w->Fr e0 h0 e h'->(∀ j,hget h j≠.x->hget h' j=hget h j)->(∀ j,j<h.nxt->hget h' j=hget h j)->h.nxt<=h'.nxt->
   (∀ r∈Z,isAl ops τ r->idOf' r.i=idOf r.i)->PendOk ops h0 e τ' h' idOf' s->(∀ r∈Z,isAl ops τ r->isAl ops τ s->idOf' r.i≠idOf' s.i)->RS w0 ih ops n K e0 h0 τ0 ds π (s::pre) rest (s::Z) listed e τ' h' z a w:=λ {τ' h' x idOf'} hs hr hR hF hm hm2 hn hid hps hne=>by
  refine⟨by rw[S.hp];simp,λr hr=>?_,λr hr=>?_,S.size,S.down,hr,⟨S.F.1,S.F.2.1,λt v hv hz=>?_⟩,hR,hF,S.ds,λt ht hall=>?_,idOf',λr hr=>?_,λr hr q hq ar aq hrq=>?_⟩
  ·rcases List.mem_cons.1 hr with rfl | hr
   ·exact⟨by simp,hk⟩
   ·exact⟨List.mem_cons_of_mem _ (S.hz r hr).1,(S.hz r hr).2⟩
  ·rw[S.hl r hr];constructor
   ·rintro⟨c1,c2⟩;refine⟨List.mem_cons_of_mem _ c1,λc=>?_⟩;rcases List.mem_cons.1 c with rfl | c
    ·exact(S.sep P c1 (by simp:r∈r::rest)).ne rfl
    ·exact c2 c
   ·rintro⟨c1,c2⟩;rcases List.mem_cons.1 c1 with rfl | c1
    ·exact absurd (by simp) c2
    ·exact⟨c1,λc=>c2 (List.mem_cons_of_mem _ c)⟩
  ·have htn:t<n:=by have:=(Array.getElem?_eq_some_iff.1 hv).1;rw[S.F.1]at this;exact this
   rw[hs.keep (by have:=S.F.2.1;omega) λk=>hz ⟨s,by simp,k⟩];exact S.F.2.2 t v hv λ⟨r,hr,hd⟩=>hz ⟨r,List.mem_cons_of_mem _ hr,hd⟩
  ·rw[hs.keep ht (hall s hsπ)];exact S.agree t ht hall
  ·rcases List.mem_cons.1 hr with rfl | hr
   ·exact hps
   ·have hrπ:=S.mem_pre (S.hz r hr).1
    refine(hpend r hr).keep (λt ht=>hs.keep (lk512 r hrπ t ht) ((far r hr).1 t ht)) (λd hd=>hs.keep (ds512 r hrπ d hd) ((far r hr).2 d hd)) (λg x' g1 _ g2 _=>r_more g1 hm g2) λar=>⟨hid r hr ar,λc=>by omega,λc1 c2=>⟨c2,hm2 _ c1⟩⟩
  ·have wS:∀ r∈Z,isAl ops τ' r->isAl ops τ r:=λr hr ar=>⟨(qE (λt ht=>hs.keep (lk512 r (S.mem_pre (S.hz r hr).1) t ht) ((far r hr).1 t ht))).symm.trans ar.1,ar.2⟩
   have wS':isAl ops τ' s->isAl ops τ s:=λar=>⟨(qE (λt ht=>hs.keep (lk512 s hsπ t ht) λk=>P.self s hsπ hk t k ht)).symm.trans ar.1,ar.2⟩
   rcases List.mem_cons.1 hr with hr1 | hr1
   ·rcases List.mem_cons.1 hq with hq1 | hq1
    ·rw[hr1,hq1]
    ·rw[hr1]at ar hrq;exact absurd hrq.symm (hne q hq1 (wS q hq1 aq) (wS' ar))
   ·rcases List.mem_cons.1 hq with hq1 | hq1
    ·rw[hq1]at aq hrq;exact absurd hrq (hne r hr1 (wS r hr1 ar) (wS' aq))
    ·have ar':=wS r hr1 ar
     have aq':=wS q hq1 aq
     exact hinj r hr1 q hq1 ar' aq' (by rw[<-hid r hr1 ar',<-hid q hq1 aq'];exact hrq)
 have self:∀ {τ':L3} {x:AV},SetF τ τ' s.o.dst x->∀ t∈s.o.looksAt ops,(q3 t).g τ'=(q3 t).g τ:=λ {τ' x} hs t ht=>hs.keep (lk512 s hsπ t ht) λk=>P.self s hsπ hk t k ht
 have at_:∀ {τ':L3} {x:AV},SetF τ τ' s.o.dst x->∀ d,s.o.dst=some d->(q3 d).g τ'=x:=λ {τ' x} hs d hd=>by rw[hs d (h512 d hd),if_pos hd]
 have noAl:∀ {Q:Prop},(¬ ∃ g,opK s.o.op=.a g)->isAl ops τ s->Q:=λh1 h2=>absurd h2.2 h1
 rcases oper_law hrun with ⟨hw,hp⟩ | ⟨hw,hp⟩
 ·obtain⟨τ',j1,j2⟩:=putE_law h512 hp;exact⟨τ',h,mk (idOf':=idOf) j2 j1 S.R S.fr (λ_ _=>rfl) (λ_ _=>rfl) (Nat.le_refl _) (λ_ _ _=>rfl) (.inl ⟨(qE (self j2)).trans hw,at_ j2⟩) λr hr ar asx k=>by
   have:=asx.1
   rw[hw]at this;cases this⟩
 ·cases hg:opK s.o.op with
  | p g=>
   rw[hg]at hp;obtain⟨x,hx,hp⟩:=zA (o:=g τ) (k:=λv=>putE s.o.dst v τ h λτ h=>(runP ops.toList rest (s::pre)).g ih τ h K) hp;obtain⟨τ',j1,j2⟩:=putE_law h512 hp;exact⟨τ',h,mk (idOf':=idOf) j2 j1 S.R S.fr (λ_ _=>rfl) (λ_ _=>rfl) (Nat.le_refl _) (λ_ _ _=>rfl) (.inr ⟨(qE (self j2)).trans hw,.inl ⟨g,x,hg,by rw[p_same hg (looks_same (self j2))];exact hx,at_ j2⟩⟩) λr hr ar asx=>noAl (λ⟨g',k⟩=>by rw[hg]at k;cases k) asx⟩
  | r g=>
   rw[hg]at hp;obtain⟨x,hx,hp⟩:=zA (o:=g τ h) (k:=λv=>putE s.o.dst v τ h λτ h=>(runP ops.toList rest (s::pre)).g ih τ h K) hp;obtain⟨τ',j1,j2⟩:=putE_law h512 hp;exact⟨τ',h,mk (idOf':=idOf) j2 j1 S.R S.fr (λ_ _=>rfl) (λ_ _=>rfl) (Nat.le_refl _) (λ_ _ _=>rfl) (.inr ⟨(qE (self j2)).trans hw,.inr (.inl ⟨g,x,hg,by rw[r_same hg (looks_same (self j2))];exact hx,at_ j2⟩)⟩) λr hr ar asx=>noAl (λ⟨g',k⟩=>by rw[hg]at k;cases k) asx⟩
  | a g=>
   rw[hg]at hp;obtain⟨al,hx,hp⟩:=zA (o:=g τ) (k:=λal=>newB h al.b λid h=>putE s.o.dst (al.v id) τ h λτ h=>(runP ops.toList rest (s::pre)).g ih τ h K) hp;obtain⟨h',N,hp⟩:=newB_law hp;obtain⟨τ',j1,j2⟩:=putE_law h512 hp;have hx0:=S.R.none h.nxt N.lt (Nat.le_refl _);have hlt:∀ r∈Z,isAl ops τ r->idOf r.i<h.nxt:=λr hr ar=>by
    obtain⟨ar1,g',ar2⟩:=ar;rcases hpend r hr with ⟨p1,_⟩ | ⟨p1,p2 | p2 | p2⟩
    ·rw[ar1]at p1;cases p1
    ·obtain⟨_,_,k,_⟩:=p2;rw[ar2]at k;cases k
    ·obtain⟨_,_,k,_⟩:=p2;rw[ar2]at k;cases k
    ·obtain⟨_,_,_,_,_,k,_⟩:=p2;exact k
   have hi:∀ r∈Z,(if r.i=s.i then h.nxt else idOf r.i)=idOf r.i:=λr hr=>if_neg (S.sep P (S.hz r hr).1 (by simp:s∈s::rest)).ne
   refine⟨τ',h',mk (idOf':=λi=>if i=s.i then h.nxt else idOf i) j2 j1 (S.R.push N) (S.fr.trans (S.R.frNew N)) (N.keep hx0) (λj hj=>?_) (by rw[N.nxt];omega) (λr hr _=>hi r hr) (.inr ⟨(qE (self j2)).trans hw,.inr (.inr ⟨g,al,hg,by rw[a_same hg (looks_same (self j2))];exact hx,?_,?_,?_,?_,?_⟩)⟩) λr hr ar asx=>?_⟩
   ·have:=N.lt
    rw[N.get j (by omega),if_neg (by omega)]
   ·simp only[if_true];exact S.fr.nxt
   ·simp only[if_true];rw[N.nxt];omega
   ·simp only[if_true];intro k;have:=S.R.lt _ k;omega
   ·simp only[if_true];rw[N.get _ N.lt,if_pos rfl]
   ·simp only[if_true];exact at_ j2
   ·simp only[if_true];rw[hi r hr];have:=hlt r hr ar;omega
  | w g=>exact absurd ((kd_of (P.row s hsπ)).2 (.inl ⟨g,hg⟩)) hk
  | z=>exact absurd ((kd_of (P.row s hsπ)).2 (.inr hg)) hk
theorem getD_set_eq {l:Array Bool} {i:Nat} (h:i<l.size):(l.setIfInBounds i true).getD i false=true:=by simp[h]
theorem RS.exZ (S:RS w0 ih ops n K e0 h0 τ0 ds π pre rest Z listed e τ h z a w) (P:jQ ops n π) {r:Rw} (hr:r∈Z) (hrd:r.i∈Region.ready .any ops listed) :
  ∃ Z',stW Pr ops r.o a w λa' w'=>∃ e',RS w0 ih ops n K e0 h0 τ0 ds π pre rest Z' (listed.setIfInBounds r.i true) e' τ h z a' w':=by
 classical
 have hrπ:=S.mem_pre (S.hz r hr).1
 have hok:=P.op hrπ
 obtain⟨k1,k2,k3⟩:=kH hok;have hlooks:=S.looks P hrπ hrd (.inl hr);obtain⟨idOf,hpend,hinj⟩:=S.pend
 let Z':=Z.filter λs=>decide (s≠r)
 have hZ':∀ s,s∈Z'↔s∈Z/\s≠r:=λs=>by simp[Z']
 refine⟨Z',?_⟩;have h512:∀ d,r.o.dst=some d->d<512:=λd hd=>Nat.lt_of_lt_of_le (k2 d hd) S.F.2.1
 -- from a value to the state behind
 have fin:∀ {e':Env} {x:AV} {v:Value} {w':World},Ext e e'->(∀ d,r.o.dst=some d->(q3 d).g τ=x)->Dn e' x v->zq w0 e' h w'->Fr e0 h0 e' h->(∀ s∈Z',isAl ops τ s->¬ e.dom (idOf s.i)->¬ e'.dom (idOf s.i))->
   ∃ e',RS w0 ih ops n K e0 h0 τ0 ds π pre rest Z' (listed.setIfInBounds r.i true) e' τ h z (a.put r.o.dst v) w':=λ {e' x v w'} hx hd hv hR hF hal=>by
  refine⟨e',S.hp,λs hs=>S.hz s ((hZ' s).1 hs).1,λs hs=>?_,by simp[S.size],S.down.set hrd,S.run,?_,hR,hF,(put_defers _ _ _).trans S.ds,S.agree,idOf,λs hs=>?_,λs hs t ht=>hinj s ((hZ' s).1 hs).1 t ((hZ' t).1 ht).1⟩
  ·by_cases c:s=r
   ·subst c;have hlt:s.i<listed.size:=by rw[S.size];exact(Array.getElem?_eq_some_iff.1 (P.row s hs).at_).1
    rw[getD_set_eq hlt];exact⟨λ_=>⟨(S.hz s hr).1,λk=>((hZ' s).1 k).2 rfl⟩,λ_=>rfl⟩
   ·have hne:r.i≠s.i:=λk=>c (P.inj hrπ hs k).symm
    rw[getD_set_ne false hne,S.hl s hs,hZ'];constructor
    ·rintro⟨c1,c2⟩;exact⟨c1,λk=>c2 k.1⟩
    ·rintro⟨c1,c2⟩;exact⟨c1,λk=>c2 ⟨k,c⟩⟩
  ·refine(S.F.ext hx).set (x:=x) (λj hj=>?_) k2 hv λt hz hne=>?_
   ·by_cases c:r.o.dst=some j
    ·rw[if_pos c];exact hd j c
    ·rw[if_neg c]
   ·rintro⟨s,hs,hsd⟩;by_cases c:s=r
    ·subst c;exact hne hsd
    ·exact hz ⟨s,(hZ' s).2 ⟨hs,c⟩,hsd⟩
  ·refine(hpend s ((hZ' s).1 hs).1).keep (λ_ _=>rfl) (λ_ _=>rfl) (λg x' _ _ g2 _=>g2) λasx=>⟨rfl,id,λc1 c2=>⟨hal s hs asx c2,rfl⟩⟩
 rcases hpend r hr with ⟨hw,hd⟩ | ⟨hw,hp⟩
 ·have:=wanted_law hw S.F hok hlooks
  unfold stW;rw[if_neg (by rw[this];simp)];exact fin (.refl e) hd (show Dn e .n undef from rfl) S.R S.fr λ_ _ _ k=>k
 ·have:=wanted_law hw S.F hok hlooks
  unfold stW;rw[if_pos this];have hO:=ops_law S.F hok hlooks;rcases hp with ⟨g,x,g1,g2,g3⟩ | ⟨g,x,g1,g2,g3⟩ | ⟨g,al,g1,g2,g3,g4,g5,g6,g7⟩
  ·obtain⟨v,hv,hr'⟩:=pure_law g1 g2 hO;unfold opW;rw[hr' w];exact fin (.refl e) g3 hv S.R S.fr λ_ _ _ k=>k
  ·obtain⟨v,hv,hr'⟩:=read_law g1 g2 hO S.R;unfold opW;rw[hr'];exact fin (.refl e) g3 hv S.R S.fr λ_ _ _ k=>k
  ·obtain⟨q,w',hr',hb,hrf,hA⟩:=al_law g1 g2 hO w;obtain⟨bk,c,f,a1,a2,a3⟩:=hA _ g5;unfold opW;rw[hr'];have hs:=S.R.below.size;refine fin (kT g5) g7 a3 (S.R.add g5 g4 hb (λk=>?_) (by rw[g6];exact a2 h) (λm hm=>by rw[g6,hrf]at hm;cases hm)) (S.fr.add g5 g3) λs hs' asx k1 k2=>?_
   ·rw[g6]at k;have:=a1 k;refine⟨by omega,this.2,λj hj hi he=>?_⟩;have:=(S.R.low j hj hi).2;omega
   ·rcases k2 with k2 | k2
    ·have:=hinj s ((hZ' s).1 hs').1 r hr asx ⟨hw,g,g1⟩ k2
     exact((hZ' s).1 hs').2 this
    ·exact k1 k2
end
theorem beq_bytes {a b:ByteArray} (h:(a == b)=true):a=b:=by
 have h2:(a.data == b.data)=true:=h
 exact ByteArray.ext (eq_of_beq h2)
theorem scB_eq {x y:Sc} (h:scB x y=true):x=y:=by
 unfold scB at h;split at h<;>try simp only[Bool.and_eq_true,zT,decide_eq_true_eq,ieqB_eq]at h
 ·rename_i k a k' b;have:k'=k:=kNo_inj (by rw[zT];exact decide_eq_true h.1);rw[this,h.2]
 ·rw[eq_of_beq h]
 ·rw[h.1,h.2]
 ·obtain⟨⟨⟨h1,h2⟩,h3⟩,h4⟩:=h;rw[h1,h2,h3,h4]
 ·obtain⟨⟨⟨h1,h2⟩,h3⟩,h4⟩:=h;rw[h1,h2,h3,h4]
 ·rw[h]
 ·rw[h]
 ·rw[h]
 ·rfl
 ·rw[beq_bytes h]
 ·rfl
 ·rfl
 ·rfl
 ·rfl
 ·rfl
 ·rename_i f a b f' a' b';obtain⟨⟨h1,h2⟩,h3⟩:=h;obtain rfl:a=#[]:=Array.eq_empty_of_size_eq_zero (by omega);obtain rfl:b=#[]:=Array.eq_empty_of_size_eq_zero (by omega);obtain rfl:a'=#[]:=Array.eq_empty_of_size_eq_zero (by omega);obtain rfl:b'=#[]:=Array.eq_empty_of_size_eq_zero (by omega);rw[show f=f' from h1]
 ·cases h
theorem scL_eq:∀ {l m:List Sc},scL l m=true->l=m
 | [],[],_=>rfl
 | [],_::_,h=>by cases h
 | _::_,[],h=>by cases h
 | x::l,y::m,h=>by
  have h':(scB x y && scL l m)=true:=h
  simp only[Bool.and_eq_true]at h';rw[scB_eq h'.1,scL_eq h'.2]
theorem sumB_eq {x y:Sc ⊕ List Sc} (h:sumB x y=true):x=y:=by
 unfold sumB at h;split at h
 ·rw[scB_eq h]
 ·rw[scL_eq h]
 ·cases h
theorem sumL_eq:∀ {l m:List (Sc ⊕ List Sc)},sumL l m=true->l=m
 | [],[],_=>rfl
 | [],_::_,h=>by cases h
 | _::_,[],h=>by cases h
 | x::l,y::m,h=>by
  have h':(sumB x y && sumL l m)=true:=h
  simp only[Bool.and_eq_true]at h';rw[sumB_eq h'.1,sumL_eq h'.2]
theorem avB_eq {x y:AV} (h:avB x y=true):x=y:=by
 unfold avB at h;split at h
 ·rw[scB_eq h]
 ·rw[scL_eq h]
 ·rw[sumL_eq h]
 ·cases h
theorem pend_mem {r:Rw} : ∀ {done:List Rw} {s:Rw},s∈done->s.kd=1->r.wt.testBit s.i=false->s∈pend r done
 | [],s,h,_,_=>by cases h
 | t::done,s,h,h1,h2=>by
  have e:pend r (t::done)=bif Nat.beq t.kd 1 && !Nat.testBit r.wt t.i then t::pend r done else pend r done:=rfl
  rw[e];rcases List.mem_cons.1 h with rfl | h
  ·rw[h2,h1];simp
  ·have:=pend_mem (r:=r) h h1 h2
   cases(Nat.beq t.kd 1 && !Nat.testBit r.wt t.i)with
   | true=>exact List.mem_cons_of_mem _ this
   | false=>exact this
theorem rcks_law {all:List Oper} {τ:L3} {h:H} : ∀ {l:List Rw},(rcksE all l).g τ h=true->∀ r∈l,(rckE all r.o).g τ h=true
 | [],_,r,hr=>by cases hr
 | s::l,hh,r,hr=>by
  have e:(rcksE all (s::l)).g τ h=((rckE all s.o).g τ h && (rcksE all l).g τ h):=rfl
  rw[e,Bool.and_eq_true]at hh;rcases List.mem_cons.1 hr with rfl | hr
  ·exact hh.1
  ·exact rcks_law hh.2 r hr
theorem rdK_law {g:L3->H->Option AV} {d:Option Nat} {τ:L3} {h:H} (hh:(rdK (.r g) d).g τ h=true):∃ i,d=some i/\g τ h=some ((q3 i).g τ):=by
 cases d with
 | none=>cases hh
 | some i=>
  have hh':Option.rec (motive:=λ_=>Bool) false (λv=>avB v ((q3 i).g τ)) (g τ h)=true:=hh
  cases hg:g τ h with
  | none=>rw[hg]at hh';cases hh'
  | some v=>rw[hg]at hh';exact⟨i,rfl,by rw[avB_eq hh']⟩
theorem rck_law {all:List Oper} {o:Oper} {g:L3->H->Option AV} (hk:opK o.op=.r g) {τ:L3} {h:H} (hh:(rckE all o).g τ h=true) (hw:wanted all o τ=some true):∃ i,o.dst=some i/\g τ h=some ((q3 i).g τ):=by
 unfold rckE at hh;unfold wanted at hw;split at hh
 ·rw[hk]at hh;exact rdK_law hh
 ·rename_i gg hg;rw[hg]at hw;simp only at hw;split at hh
  ·rename_i d hd;rw[hd]at hw;simp only at hw;have hh2:Option.rec (motive:=λ_=>Bool) false (λb=>Bool.rec (motive:=λ_=>Bool) true ((rdK (opK o.op) o.dst).g τ h) b) (wantB gg.2 ((q3 d).g τ))=true:=hh;rw[hw]at hh2;have hh':(rdK (opK o.op) o.dst).g τ h=true:=hh2;rw[hk]at hh';exact rdK_law hh'
  ·cases hh
section
variable {w0:World} {ih:IH} {ops:Array Oper} {n:Nat} {K:KO} {e0:Env} {h0:H} {τ0:L3} {ds:List Deferred} {π:List Rw} {pre rest Z:List Rw} {listed:Array Bool} {e:Env} {τ:L3} {h:H} {z:List (AV×H)} {a:Act} {w:World}
theorem RS.exW {s:Rw} (S:RS w0 ih ops n K e0 h0 τ0 ds π pre (s::rest) Z listed e τ h z a w) (P:jQ ops n π) (W:WOk w0 ih) (hk:s.kd=3) (hrd:s.i∈Region.ready .any ops listed) :
  stW Pr ops s.o a w λa' w'=>∃ e' τ' h' z',RS w0 ih ops n K e0 h0 τ0 ds π (s::pre) rest Z (listed.setIfInBounds s.i true) e' τ' h' z' a' w':=by
 have hsπ:=S.mem_rest (r:=s) (by simp)
 have hok:=P.op hsπ
 obtain⟨k1,k2,k3⟩:=kH hok;have h512:∀ i,s.o.dst=some i->i<512:=λi hi=>Nat.lt_of_lt_of_le (k2 i hi) S.F.2.1;have hlooks:=S.looks P hsπ hrd (.inr ⟨rest,rfl⟩);have hrun:=S.run;rw[run_cons]at hrun;have hb:Nat.beq s.kd 3=true:=by rw[zT,decide_eq_true_eq];exact hk
 rw[hb]at hrun;have hrun:(operE ops.toList s.o).g ih τ h (λτ h=>gd ((rcksE ops.toList (Ev.pend s pre)).g τ h) ((runP ops.toList rest (s::pre)).g ih τ h K))=some z:=hrun;have hsZ:s∉Z:=λk=>(S.sep P (S.hz s k).1 (by simp:s∈s::rest)).ne rfl;obtain⟨idOf,hpend,hinj⟩:=S.pend;have nowait:∀ r∈Z,¬ Waits ops s.i r.i:=λr hr k=>by
  have:=ready_waits S.down k hrd
  rw[S.unl P (.inl hr)]at this;cases this
 have far:∀ r∈Z,(∀ t∈r.o.looksAt ops,s.o.dst≠some t)/\(∀ d,r.o.dst=some d->s.o.dst≠some d):=λr hr=>by
  have p:=S.sep P (S.hz r hr).1 (by simp:s∈s::rest)
  exact⟨λt ht hd=>nowait r hr (p.anti t hd ht).2.1,λd hd=>p.ds d hd⟩
 have lk512:∀ r∈π,∀ t∈r.o.looksAt ops,t<512:=λr hr t ht=>Nat.lt_of_lt_of_le (looks_lt (P.op hr) t ht) S.F.2.1
 have ds512:∀ r∈π,∀ d,r.o.dst=some d->d<512:=λr hr d hd=>Nat.lt_of_lt_of_le ((kH (P.op hr)).2.1 d hd) S.F.2.1
 have fin:∀ {e':Env} {h':H} {x:AV} {v:Value} {w':World} {z':List (AV×H)},Fr e h e' h'->zq w0 e' h' w'->Dn e' x v->putE s.o.dst x τ h' (λτ h=>gd ((rcksE ops.toList (Ev.pend s pre)).g τ h) ((runP ops.toList rest (s::pre)).g ih τ h K))=some z'->
   ∃ e' τ' h' z',RS w0 ih ops n K e0 h0 τ0 ds π (s::pre) rest Z (listed.setIfInBounds s.i true) e' τ' h' z' (a.put s.o.dst v) w':=λ {e' h' x v w' z'} hf hR hx hp=>by
  obtain⟨τ',j1,j2⟩:=putE_law h512 hp;obtain⟨j3,j4⟩:=zk j1;have same:∀ r∈Z,∀ t∈r.o.looksAt ops,(q3 t).g τ'=(q3 t).g τ:=λr hr t ht=>j2.keep (lk512 r (S.mem_pre (S.hz r hr).1) t ht) ((far r hr).1 t ht);refine⟨e',τ',h',z',by rw[S.hp];simp,λr hr=>⟨List.mem_cons_of_mem _ (S.hz r hr).1,(S.hz r hr).2⟩,λr hr=>?_,by simp[S.size],S.down.set hrd,j4,?_,hR,S.fr.trans hf,(put_defers _ _ _).trans S.ds,λt ht hall=>?_,idOf,λr hr=>?_,λr hr q hq ar aq hrq=>hinj r hr q hq ⟨(qE (same r hr)).symm.trans ar.1,ar.2⟩ ⟨(qE (same q hq)).symm.trans aq.1,aq.2⟩ hrq⟩
  ·by_cases c:r=s
   ·subst c;have hlt:r.i<listed.size:=by rw[S.size];exact(Array.getElem?_eq_some_iff.1 (P.row r hr).at_).1
    rw[getD_set_eq hlt];exact⟨λ_=>⟨by simp,hsZ⟩,λ_=>rfl⟩
   ·have hne:s.i≠r.i:=λk=>c (P.inj hsπ hr k).symm
    rw[getD_set_ne false hne,S.hl r hr];constructor
    ·rintro⟨c1,c2⟩;exact⟨List.mem_cons_of_mem _ c1,c2⟩
    ·rintro⟨c1,c2⟩;exact⟨(List.mem_cons.1 c1).resolve_left c,c2⟩
  ·exact(S.F.ext hf.ext).set j2 k2 hx λt hz _=>hz
  ·rw[j2.keep ht (hall s hsπ)];exact S.agree t ht hall
  ·have hrπ:=S.mem_pre (S.hz r hr).1
   refine(hpend r hr).keep (same r hr) (λd hd=>j2.keep (ds512 r hrπ d hd) ((far r hr).2 d hd)) (λg x' g1 gw g2 gd'=>?_) λasx=>⟨rfl,λc=>Nat.lt_of_lt_of_le c hf.nxt,λc1 c2=>⟨λc=>?_,hf.out _ c1 c2⟩⟩
   ·have hkd:r.kd=1:=by rw[(P.row r hrπ).kd,g1];rfl
    have hbit:s.wt.testBit r.i=false:=by
     cases hb:s.wt.testBit r.i with
     | false=>rfl
     | true=>exact absurd ((P.row s hsπ).wt _ hb) (nowait r hr)
    have hr1:=rcks_law j3 r (pend_mem (S.hz r hr).1 hkd hbit)
    obtain⟨i,i1,i2⟩:=rck_law g1 hr1 ((qE (same r hr)).trans gw);rw[i2,j2.keep (ds512 r hrπ i i1) ((far r hr).2 i i1),gd' i i1]
   ·rcases hf.new _ c with c | c
    ·exact c2 c
    ·omega
 rcases oper_law hrun with ⟨hw,hp⟩ | ⟨hw,hp⟩
 ·have:=wanted_law hw S.F hok hlooks
  unfold stW;rw[if_neg (by rw[this];simp)];exact fin (.refl e h) S.R (show Dn e .n undef from rfl) hp
 ·have:=wanted_law hw S.F hok hlooks
  unfold stW;rw[if_pos this];have hO:=ops_law S.F hok hlooks;rcases(kd_of (P.row s hsπ)).1 hk with ⟨g,hg⟩ | hg
  ·rw[hg]at hp;have hp':g ih τ h (λv h=>putE s.o.dst v τ h (λτ h=>gd ((rcksE ops.toList (Ev.pend s pre)).g τ h) ((runP ops.toList rest (s::pre)).g ih τ h K)))=some z:=hp;refine opW_mono (λa' w' ⟨v,hv,hO⟩=>?_) (W s.o g hg hp' hO S.R);obtain⟨x,h',e',z',j1,j2,j3,j4⟩:=hO;subst hv;exact fin j4 j3 j2 j1
  ·rw[hg]at hp;cases hp
theorem RS.advTo (P:jQ ops n π):∀ {A:List Rw} {pre Z:List Rw} {τ:L3} {h:H} {r:Rw} {B:List Rw},RS w0 ih ops n K e0 h0 τ0 ds π pre (A++r::B) Z listed e τ h z a w->(∀ s∈A,s.kd≠3)->∃ pre' Z' τ' h',RS w0 ih ops n K e0 h0 τ0 ds π pre' (r::B) Z' listed e τ' h' z a w
 | [],pre,Z,τ,h,r,B,S,_=>⟨pre,Z,τ,h,S⟩
 | s::A,pre,Z,τ,h,r,B,S,hA=>by obtain⟨τ',h',S'⟩:=RS.adv (rest:=A++r::B) S P (hA s (by simp));exact RS.advTo P S' λt ht=>hA t (by simp[ht])
def unlN (π:List Rw) (listed:Array Bool):Nat:=(π.filter λr=>!listed.getD r.i false).length
theorem unl_set (P:jQ ops n π) {r:Rw} (hr:r∈π) (hsz:listed.size=ops.size) (h:listed.getD r.i false=false):unlN π (listed.setIfInBounds r.i true)<unlN π listed:=by
 refine filter_less (x:=r) (λy hy hq=>?_) hr (by simp[h]) ?_
 ·by_cases c:y.i=r.i
  ·rw[c]at hq⊢;have hlt:r.i<listed.size:=by rw[hsz];exact(Array.getElem?_eq_some_iff.1 (P.row r hr).at_).1
   rw[getD_set_eq hlt]at hq;cases hq
  ·rwa[getD_set_ne false (λk=>c k.symm)]at hq
 ·have hlt:r.i<listed.size:=by rw[hsz];exact(Array.getElem?_eq_some_iff.1 (P.row r hr).at_).1
  rw[getD_set_eq hlt];rfl
theorem RS.done (S:RS w0 ih ops n K e0 h0 τ0 ds π pre rest Z listed e τ h z a w) (P:jQ ops n π) (hall:∀ r∈π,listed.getD r.i false=true):OutR w0 n e0 h0 τ0 ds (λt=>∃ r∈π,r.o.dst=some t) K a w:=by
 have hr:rest=[]:=by
  cases rest with
  | nil=>rfl
  | cons r B=>
   have hrπ:=S.mem_rest (r:=r) (by simp)
   have:=S.unl P (r:=r) (.inr (by simp))
   rw[hall r hrπ]at this;cases this
 have hZ:Z=[]:=by
  cases Z with
  | nil=>rfl
  | cons r B=>
   have hrπ:=S.mem_pre (S.hz r (by simp)).1
   have:=S.unl P (r:=r) (.inl (by simp))
   rw[hall r hrπ]at this;cases this
 subst hr;subst hZ;exact⟨e,τ,h,z,S.run,⟨S.F.1,S.F.2.1,λt v hv _=>S.F.2.2 t v hv λ⟨r,hr,_⟩=>by cases hr⟩,S.R,S.fr,S.ds,λt ht hn=>S.agree t ht λr hr hd=>hn ⟨r,hr,hd⟩⟩
theorem getD_tf {l:Array Bool} {i:Nat} (h:l.getD i true=false):l.getD i false=false:=by
 unfold Array.getD at h⊢;split
 ·rename_i c;rw[dif_pos c]at h;exact h
 ·rfl
theorem getD_ft {l:Array Bool} {i:Nat} (hi:i<l.size) (h:l.getD i false=false):l.getD i true=false:=by unfold Array.getD at h⊢;rw[dif_pos hi]at h⊢;exact h
theorem RS.none_ready (S:RS w0 ih ops n K e0 h0 τ0 ds π pre rest Z listed e τ h z a w) (P:jQ ops n π) (h0':Region.ready .any ops listed=[]):∀ r∈π,listed.getD r.i false=true:=by
 have key:∀ (k:Nat) (A B:List Rw),A.length=k->π=A++B->∀ r∈A,listed.getD r.i false=true:=by
  intro k;induction k with
  | zero=>
   intro A B hk _ r hr;rw[List.length_eq_zero_iff.1 hk]at hr;cases hr
  | succ k ih=>
   intro A B hk hp s hs;rcases List.eq_nil_or_concat A with rfl | ⟨A,r,rfl⟩
   ·cases hs
   ·have hA:=ih A (r::B) (by simpa using hk) (by rw[hp];simp)
    rw[List.concat_eq_append]at hs hp;rcases List.mem_append.1 hs with hs | hs
    ·exact hA s hs
    ·obtain rfl:s=r:=by simpa using hs
     cases hl:listed.getD s.i false with
     | true=>rfl
     | false=>
      have hsπ:s∈π:=by rw[hp];simp
      have hat:=(P.row s hsπ).at_
      have:s.i∈Region.ready .any ops listed:=mem_ready.2 ⟨getD_ft (by rw[S.size];exact(Array.getElem?_eq_some_iff.1 hat).1) hl,s.o,hat,λe he hb=>by obtain⟨q,hq,hqi⟩:=P.before A B s (by rw[hp];simp) e.on (P.edge s hsπ e he hb);rw[<-hqi];exact hA q hq⟩
      rw[h0']at this;cases this
 intro r hr;exact key _ π [] rfl (by simp) r hr
theorem RS.any (P:jQ ops n π) (W:WOk w0 ih) {Qn:Act->World->Prop} (hQ:∀ a w,OutR w0 n e0 h0 τ0 ds (λt=>∃ r∈π,r.o.dst=some t) K a w->Qn a w):∀ (fuel:Nat) {pre rest Z:List Rw} {listed:Array Bool} {e:Env} {τ:L3} {h:H} {z:List (AV×H)} {a:Act} {w:World},
  RS w0 ih ops n K e0 h0 τ0 ds π pre rest Z listed e τ h z a w->unlN π listed<=fuel->anyW Pr ops Qn fuel listed a w:=by
 intro fuel;induction fuel with
 | zero=>
  intro pre rest Z listed e τ h z a w S hu;have hall:∀ r∈π,listed.getD r.i false=true:=λr hr=>by
   cases hl:listed.getD r.i false with
   | true=>rfl
   | false=>
    have:r∈π.filter λr=>!listed.getD r.i false:=List.mem_filter.2 ⟨hr,by simp[hl]⟩
    have:=List.length_pos_of_mem this
    unfold unlN at hu;omega
  refine⟨List.eq_nil_iff_forall_not_mem.2 λi hi=>?_,hQ a w (S.done P hall)⟩;obtain⟨hl,o,ho,_⟩:=mem_ready.1 hi;have hl:=getD_tf hl;obtain⟨r,hr,hri⟩:=P.all i (Array.getElem?_eq_some_iff.1 ho).1;have:=hall r hr;rw[hri,hl]at this;cases this
 | succ fuel IH=>
  intro pre rest Z listed e τ h z a w S hu;refine⟨λhr=>hQ a w (S.done P (S.none_ready P hr)),λi hi=>?_⟩;obtain⟨hl,o,ho,_⟩:=mem_ready.1 hi;have hl:=getD_tf hl;obtain⟨r,hr,hri⟩:=P.all i (Array.getElem?_eq_some_iff.1 ho).1;have hro:r.o=o:=by
   have:=(P.row r hr).at_
   rw[hri,ho]at this;exact(Option.some.inj this).symm
  subst hri;subst hro;refine⟨r.o,ho,?_⟩;have hlt:=unl_set P hr S.size hl;have fromZ:∀ {pre rest Z:List Rw} {τ:L3} {h:H},RS w0 ih ops n K e0 h0 τ0 ds π pre rest Z listed e τ h z a w->r∈Z->stW Pr ops r.o a w (anyW Pr ops Qn fuel (listed.setIfInBounds r.i true)):=λ {pre rest Z τ h} S hz=>by obtain⟨Z',hs⟩:=S.exZ P hz hi;exact qm (λa' w' ⟨e',S'⟩=>IH S' (by omega)) hs
  have hpos:r∈Z\/r∈rest:=by
   have hr':=hr
   rw[S.hp]at hr';rcases List.mem_append.1 hr' with c | c
   ·by_cases cz:r∈Z
    ·exact .inl cz
    ·have:=(S.hl r hr).2 ⟨by simpa using c,cz⟩
     rw[hl]at this;cases this
   ·exact .inr c
  rcases hpos with hz | hz
  ·exact fromZ S hz
  ·obtain⟨A,B,hAB⟩:=List.append_of_mem hz;subst hAB;have hA:∀ s∈A,s.kd≠3:=λs hs k=>by
    have hp:=P.pair
    rw[S.hp,List.pairwise_append]at hp;have hp2:=(pair_at hp.2.1).1 s hs;have:=ready_waits S.down (hp2.wr k) hi;rw[S.unl P (.inr (by simp[hs]))]at this;cases this
   obtain⟨pre',Z',τ',h',S'⟩:=S.advTo P hA;by_cases hk:r.kd=3
   ·exact qm (λa' w' ⟨e2,τ2,h2,z2,S2⟩=>IH S2 (by omega)) (S'.exW P W hk hi)
   ·obtain⟨τ2,h2,S2⟩:=S'.adv P hk;exact fromZ S2 (by simp)
end
theorem app_zero {w:World} {X Y E s:Nat} {z:Value} {by_:Nat} {v:Value} {news:List Value} (A:App w X Y E s z by_ v 0 news) (ts:List TypeId) (ty:TypeId) (p:Option Addr) (l c:Nat) (hr:l<=c) :
  (Builtin.append_ ⟨X::Y::ts⟩ ty ⟨[.slice p l c,v]⟩).run Pr w=.ok (.slice p l c) w:=by
 have hn:news=[]:=by
  have:=A.size
  rw[Nat.zero_mul]at this;exact List.length_eq_zero_iff.1 this
 subst hn;cases p with
 | some p=>exact app_room A ts ty p l c (m:=0) (by omega) (w':=w) (by simp[storeCells])
 | none=>obtain⟨i,hi,hz,hsz,hb⟩:=A.i;obtain⟨d,hd,hni⟩:=A.y;have hl:=A.len w;have hc:=A.cells w rfl;simp[Builtin.append_,run_underlying A.hX,run_underlying hd,sizeOf,typeInfo,hi,hl,hr,hsz,hc]
theorem app_zeros {w:World} {X Y E s:Nat} {z:Value} {by_ m:Nat} {i:TypeInfo} {k0 kk:IntKind} (hX:Pr.underlying X=some (.slice E)) (hi:Pr.info? E=some i) (hz:i.zero=some z) (hsz:i.size=s) (hb:i.bytes=by_)
  (hY:Pr.underlying Y=some (.int k0)) (hm:0<m) (hpos:0<s) (hmb:m*by_<=281474976710656) (h63:m<=9223372036854775807) (hfit:Builtin.nextslicecap m 0*by_<=281474976710656) (ts:List TypeId) (ty:TypeId) :
  (Builtin.append_ ⟨X::Y::ts⟩ ty ⟨[.slice none 0 0,.int kk m]⟩).run Pr w=.ok (.slice (some ⟨w.heap.size,0,none⟩) m (grownCap w m 0 E)) (w.drew.alloc (LC ((Builtin.zeroCells z.cells m).toList++(Builtin.zeroCells z.cells (grownCap w m 0 E-m)).toList) E)):=by
 have hw:IntKind.i64.wrap (m:Int)=m:=IntWalk.i64_in _ (by omega)
 have n1:¬ ((m:Int)<0):=by omega
 have n2:¬ (281474976710656<(m:Int)*(by_:Int)):=by
  have:((m*by_:Nat):Int)<=281474976710656:=by omega
  push_cast at this;omega
 have n3:¬ (m<=0):=by omega
 have n4:¬ (9223372036854775807<(m:Int)):=by omega
 have n5:¬ (281474976710656<Builtin.nextslicecap m 0*by_):=by omega
 have n6:¬ (m=0\/s=0):=by omega
 simp[Builtin.append_,run_underlying hX,run_underlying hY,sizeOf,typeInfo,zeroValue,asInt,asIntOf,hi,hz,hsz,hb,hw,n1,n2,n3,n4,n5,n6,Question.forced,newRow,grownCap,LC,Builtin.firstCells];have m1:¬ m=0:=by omega
 have m2:¬ m*s=0:=by have:=Nat.mul_pos hm hpos;omega
 rw[if_neg m1,if_neg m2];congr 3;apply Array.ext';simp
section
variable {w0:World} {e:Env} {h:H} {w:World}
theorem str_src (e:Env) (w:World) (s:ByteArray):Src e w (.string s) 1 s.size (s.toList.map λb=>.i .u8 (.ofNat b.toNat)):=by
 refine⟨λw'=>by simp[Builtin.lenOf],λn hn=>⟨(s.toList.take n).map λb=>.int .u8 b.toNat,?_,?_,λw' _=>?_⟩,?_⟩
 ·rw[ByteArray.toList_eq];simp;omega
 ·rw[Nat.mul_one,<-List.map_take];refine zB.of_at (by simp) λj x y hx hy=>?_;simp only[List.getElem?_map,Option.map_eq_some_iff]at hx hy;obtain⟨b,hb,rfl⟩:=hx;obtain⟨b',hb',rfl⟩:=hy;rw[hb]at hb';cases hb';exact⟨rfl,rfl⟩
 ·simp only[Builtin.firstCells,Sem.run_pure];congr 1;apply Array.ext';rw[ByteArray.toList_eq];simp[ByteArray.data_extract]
 ·rw[ByteArray.toList_eq];simp
theorem appW_law (R:zq w0 e h w) {X Y:TypeId} {E s:Nat} {x:AV} {u v:Value} {m:Nat} {new:List Sc} {K:AV->H->Ev.R} {z:List (AV×H)} (hX:Pr.underlying X=some (.slice E)) {ag:Bool} (hE:tkB Pr E=some (ag,s)) (hY:∃ d,Pr.underlying Y=some d/\∀ k,d≠.int k) (hsz:szB E=true)
  (hx:Dn e x u) (S:Src e w v s m new) (hh:appW E s x m new h K=some z) (ts:List TypeId) (ty:TypeId):∃ q w',(Builtin.append_ ⟨X::Y::ts⟩ ty ⟨[u,v]⟩).run Pr w=.ok q w'/\Out w0 e h K q w':=by
 cases m with
 | zero=>
  have h':(asO x λx=>apZ x h K)=some z:=hh
  obtain⟨o,rfl,h'⟩:=qj h';obtain⟨i,zv,hi,hz,hby,hpos,zc⟩:=szB_law hsz;obtain⟨i',hi',hse⟩:=tk_info hE;rw[hi]at hi';cases hi';obtain⟨news,n1,n2,n3⟩:=S.cells 0 (Nat.le_refl _);have A:App w X Y E s zv i.bytes v 0 news:=⟨hX,⟨i,hi,hz,hse,rfl⟩,hY,S.len,n3,n1⟩;have fin:∀ p l c,u=.slice p l c->l<=c->K (.x (.o o)) h=some z->∃ q w',(Builtin.append_ ⟨X::Y::ts⟩ ty ⟨[u,v]⟩).run Pr w=.ok q w'/\Out w0 e h K q w':=λp l c hu hl hk=>by refine⟨u,w,?_,_,h,e,z,hk,hx,R,.refl e h⟩;rw[hu];exact app_zero A ts ty p l c hl
  cases o with
  | s id off l c=>
   obtain⟨h1,h2⟩:=zk (show gd (Nat.ble l c) (K (.x (.o (.s id off l c))) h)=some z from h');exact fin _ l c hx.2 (Nat.le_of_ble_eq_true h1) h2
  | w id off l c=>exact fin _ l _ hx.2.1 (by have:=hx.2.2;omega) h'
  | e=>obtain⟨a,c,hu⟩:=hx;exact fin a 0 c hu (Nat.zero_le _) h'
  | c q=>
   have h2:nlV q (K (.x (.o (.c q))) h)=some z:=h'
   unfold nlV at h2;split at h2
   ·exact fin none 0 0 hx.1 (Nat.le_refl _) h2
   ·cases h2
  | _=>cases h'
 | succ m=>obtain⟨h1,h2⟩:=zk (show gd (Nat.ble ((m+1)*s) 4096) (asO x λx=>apO x E s (m+1) new h K)=some z from hh);obtain⟨o,rfl,h2⟩:=qj h2;exact apO_law R hX hE hY hsz (by omega) (Nat.le_of_ble_eq_true h1) hx S h2 ts ty
theorem dn_unit (e:Env):Dn e (.t []) (.tuple #[]):=⟨[],rfl,trivial⟩
theorem zero_cells {l:List Sc} {us:List Value} {zv:Value} (hc:zv.cells=⟨us⟩) (hu:zB (DnC e) l us) (m:Nat):zB (DnC e) (repL l m) (Builtin.zeroCells zv.cells m).toList:=by
 have:=rep_law hu m
 rw[hu.length]at this;unfold Builtin.zeroCells;rw[hc];simpa using this
theorem apd_int (R:zq w0 e h w) {X Y:TypeId} {x y:AV} {u v:Value} {K:AV->H->Ev.R} {z:List (AV×H)} {E s:Nat} {ag:Bool} {zl:List Sc} {k0:IntKind} (hX:Pr.underlying X=some (.slice E)) (hE:tkB Pr E=some (ag,s)) (hsz:szB E=true) (hY:Pr.underlying Y=some (.int k0)) (hz0:(zeroE E).g=some zl)
  (h4:(asI y λ_ n=>nn n λm=>gd (Nat.beq (len zl) s && Nat.blt 0 m && Nat.ble (m*s) 4096) (asO x λx=>(match x with | .c v=>nlV v (nat m λm=>newV h (rowN E (repL zl m)) (λid=>.x (.o (.w id 0 m 0))) K) | _=>none)))=some z)
  (hx:Dn e x u) (hy:Dn e y v) (ts:List TypeId) (ty:TypeId):∃ q w',(Builtin.append_ ⟨X::Y::ts⟩ ty ⟨[u,v]⟩).run Pr w=.ok q w'/\Out w0 e h K q w':=by
 obtain⟨kk,n,rfl,h4⟩:=qB h4;obtain⟨m,rfl,h4⟩:=nn_law h4;obtain⟨g1,h4⟩:=zk h4;simp only[Bool.and_eq_true,zT,decide_eq_true_eq,qz,Nat.blt_eq,Nat.ble_eq]at g1;obtain⟨o,rfl,h4⟩:=qj h4;obtain rfl:v=_:=hy;cases o with
 | c q=>
  have h5:nlV q (nat m λm=>newV h (rowN E (repL zl m)) (λid=>.x (.o (.w id 0 m 0))) K)=some z:=h4
  obtain⟨rfl,_⟩:=hx;unfold nlV at h5;split at h5
  ·rw[nat_eq]at h5;obtain⟨b,hb,hk⟩:=zA h5;obtain⟨t,rfl,t1,t2⟩:=rowN_law hb;obtain⟨i,zv,hi,hz,hby,hpos,zc⟩:=szB_law hsz;obtain⟨i',hi',hse⟩:=tk_info hE;rw[hi]at hi';cases hi';rw[hse]at hpos zc;obtain⟨zv',us,z1,z2,z3⟩:=zero_law e hz0;obtain⟨i2,hi2,hz2⟩:=zeroB_info z1;rw[hi]at hi2;cases hi2;rw[hz]at hz2;cases hz2;have mle:m<=m*s:=Nat.le_mul_of_pos_right m hpos;have hmb:m*i.bytes<=4096*1073741824:=Nat.mul_le_mul (by omega) hby;have hfit:Builtin.nextslicecap m 0*i.bytes<=281474976710656:=growslice_fits (by omega) (by omega);have hrun:=app_zeros (w:=w) (kk:=kk) hX hi hz hse rfl hY g1.1.2 hpos (by omega) (by omega) hfit ts ty;refine⟨_,_,hrun,R.alloc (al:=⟨_,λid=>.x (.o (.w id 0 m 0))⟩) ?_ hk⟩;have hge:=grownCap_ge w m 0 E;have hle:=grownCap_le_maxLen w m 0 E (by unfold maxLen;omega);refine⟨(Below.refl w.heap.size w).drew.trans (jI w.drew _),rfl,λid hid=>⟨w.heap.size,grownCap w m 0 E,.nilFunc,λ_=>⟨Nat.le_refl _,by simp⟩,λh=>?_,?_⟩⟩
   ·have xx:=kT (e:=e) (bk:=w.heap.size) (c:=grownCap w m 0 E) (f:=.nilFunc) hid
    refine⟨(Builtin.zeroCells zv.cells m).toList++(Builtin.zeroCells zv.cells (grownCap w m 0 E-m)).toList,(ag,s),?_,?_,hE,?_,by rw[qC];exact hle⟩
    ·rw[qh];exact heap_alloc_new w.drew _
    ·exact TOk.fresh' ((zero_cells z2 z3 m).mono λ_ _=>DnC.ext xx) rfl t1 t2
    ·rw[qC];simp only[List.length_append,Array.length_toList,size_zeroCells,zc];rw[<-Nat.add_mul];congr 1;omega
   ·refine⟨.inl rfl,?_,?_⟩
    ·rw[qC,Nat.sub_zero,adr,qh]
    ·rw[qC];omega
  ·exact absurd h5 (by simp)
 | _=>exact absurd (show(none:Option (List (AV×H)))=some z from h4) (by simp)
theorem apd_str (R:zq w0 e h w) {X Y:TypeId} {x y:AV} {u v:Value} {K:AV->H->Ev.R} {z:List (AV×H)} {E s:Nat} {ag:Bool} (hX:Pr.underlying X=some (.slice E)) (hE:tkB Pr E=some (ag,s)) (hsz:szB E=true) (hY:Pr.underlying Y=some .string)
  (hh:gd (isB E && Nat.beq s 1) (asO y λy=>(match y with | .c v=>stV v λm new=>appW E s x m new h K | _=>none))=some z)
  (hx:Dn e x u) (hy:Dn e y v) (ts:List TypeId) (ty:TypeId):∃ q w',(Builtin.append_ ⟨X::Y::ts⟩ ty ⟨[u,v]⟩).run Pr w=.ok q w'/\Out w0 e h K q w':=by
 obtain⟨g1,h3⟩:=zk hh;simp only[Bool.and_eq_true,zT,decide_eq_true_eq]at g1;obtain⟨o,rfl,h3⟩:=qj h3;obtain⟨g1,rfl⟩:=g1;cases o with
 | c q=>
  have h4:stV q (λm new=>appW E 1 x m new h K)=some z:=h3
  obtain⟨rfl,_⟩:=hy;cases v with
  | string str=>
   have h5:(nat str.size λn=>appW E 1 x n (str.toList.map λb=>.i .u8 (.ofNat b.toNat)) h K)=some z:=h4
   rw[nat_eq]at h5;exact appW_law R hX hE ⟨_,hY,λk c=>by cases c⟩ hsz hx (str_src e w str) h5 ts ty
  | _=>exact absurd (show(none:Option (List (AV×H)))=some z from h4) (by simp)
 | _=>exact absurd (show(none:Option (List (AV×H)))=some z from h3) (by simp)
theorem apd_law (R:zq w0 e h w) {X Y:TypeId} {x y:AV} {u v:Value} {K:AV->H->Ev.R} {z:List (AV×H)} (hh:(apdE X Y).g x y h K=some z) (hx:Dn e x u) (hy:Dn e y v) (ts:List TypeId) (ty:TypeId):∃ q w',(Builtin.append_ ⟨X::Y::ts⟩ ty ⟨[u,v]⟩).run Pr w=.ok q w'/\Out w0 e h K q w':=by
 unfold apdE at hh;cases hX:elB X with
 | none=>rw[hX]at hh;cases hh
 | some E=>
  rw[hX]at hh;have hXE:Pr.underlying X=some (.slice E.1)/\∃ ag,tkB Pr E.1=some (ag,E.2):=by
   unfold elB at hX;split at hX
   ·rename_i E' hu;cases ht:tkB Pr E' with
    | none=>rw[ht]at hX;cases hX
    | some q=>rw[ht]at hX;cases hX;exact⟨hu,q.1,ht⟩
   ·cases hX
  obtain⟨hXu,ag,hE⟩:=hXE;have hh2:(Bool.rec (motive:=λ_=>Ap) (.mk λ_ _ _ _=>none) (Nat.rec (motive:=λ_=>Ap) (Option.rec (motive:=λ_=>Ap) (.mk λ_ _ _ _=>none) (λz=>.mk λx y h K=>asI y λ_ n=>nn n λm=>gd (Nat.beq (len z) E.2 && Nat.blt 0 m && Nat.ble (m*E.2) 4096) (asO x λx=>(match x with | .c v=>nlV v (nat m λm=>newV h (rowN E.1 (repL z m)) (λid=>.x (.o (.w id 0 m 0))) K) | _=>none))) (zeroE E.1).g)
    (λk _=>Nat.rec (motive:=λ_=>Ap) (.mk λx y h K=>gd (isB E.1 && Nat.beq E.2 1) (asO y λy=>(match y with | .c v=>stV v λm new=>appW E.1 E.2 x m new h K | _=>none)))
     (λk _=>Nat.rec (motive:=λ_=>Ap) (.mk λx y h K=>asO y λy=>cellsS y E.2 h λm new=>appW E.1 E.2 x m new h K) (λ_ _=>.mk λ_ _ _ _=>none) k) k) (apK Y)) (szB E.1):Ap).g x y h K=some z:=hh;cases hsz:szB E.1 with
  | false=>rw[hsz]at hh2;cases hh2
  | true=>
   rw[hsz]at hh2;unfold apK at hh2;split at hh2
   ·rename_i k0 hY;have h3:(Option.rec (motive:=λ_=>Ap) (.mk λ_ _ _ _=>none) (λz=>.mk λx y h K=>asI y λ_ n=>nn n λm=>gd (Nat.beq (len z) E.2 && Nat.blt 0 m && Nat.ble (m*E.2) 4096) (asO x λx=>(match x with | .c v=>nlV v (nat m λm=>newV h (rowN E.1 (repL z m)) (λid=>.x (.o (.w id 0 m 0))) K) | _=>none))) (zeroE E.1).g:Ap).g x y h K=some z:=hh2;cases hz0:(zeroE E.1).g with
    | none=>rw[hz0]at h3;cases h3
    | some zl=>rw[hz0]at h3;exact apd_int R hXu hE hsz hY hz0 h3 hx hy ts ty
   ·rename_i hY;exact apd_str R hXu hE hsz hY hh2 hx hy ts ty
   ·rename_i A hY;have h3:(asO y λy=>cellsS y E.2 h λm new=>appW E.1 E.2 x m new h K)=some z:=hh2;obtain⟨o,rfl,h3⟩:=qj h3;obtain⟨m,l,h4,S⟩:=cellsS_law R hy h3;exact appW_law R hXu hE ⟨_,hY,λk c=>by cases c⟩ hsz hx S h4 ts ty
   ·cases hh2
theorem copy_law (R:zq w0 e h w) {X:TypeId} {x y:AV} {u v:Value} {K:AV->H->Ev.R} {z:List (AV×H)} (hh:copyE X x y h K=some z) (hx:Dn e x u) (hy:Dn e y v) (ts:List TypeId) (ty:TypeId):∃ q w',(Builtin.copy_ ⟨X::ts⟩ ty ⟨[u,v]⟩).run Pr w=.ok q w'/\Out w0 e h K q w':=by
 obtain⟨E,s,ag,hX,hE,hh⟩:=el_law hh;obtain⟨o,rfl,hh⟩:=qj hh;obtain⟨m,new,hh,S⟩:=cellsS_law R hy hh;obtain⟨o2,rfl,hh⟩:=qj hh;have hsz:=Go.Lw.run_sizeOf hE;have cp:∀ id off l c,e.dom id->u=.slice (some (adr e id off)) l c->cpE id off l m s new h K=some z->∃ q w',(Builtin.copy_ ⟨X::ts⟩ ty ⟨[u,v]⟩).run Pr w=.ok q w'/\Out w0 e h K q w':=λid off l c hd hu hk=>by
  have h1:(nat (bif Nat.ble l m then l else m) λq=>Nat.rec (motive:=λ_=>Ev.R) (obn (iLn 0) λv=>K v h) (λ_ _=>tke new (q*s) λnew=>storeL id off new h λh=>obn (iLn q) λv=>K v h) q)=some z:=hk
  rw[nat_eq]at h1;have hq:(bif Nat.ble l m then l else m)=Nat.min m l:=by
   cases hc:Nat.ble l m with
   | true=>have:=Nat.le_of_ble_eq_true hc;show l=Nat.min m l;exact(Nat.min_eq_right this).symm
   | false=>
    have:¬ l<=m:=λk=>by rw[Nat.ble_eq_true_of_le k]at hc;cases hc
    show m=Nat.min m l;exact(Nat.min_eq_left (by omega)).symm
  rw[hq]at h1;have hlen:=S.len w;obtain⟨us,u1,u2,u3⟩:=S.cells (Nat.min m l) (Nat.min_le_left _ _);have hrun:∀ w',(storeCells (adr e id off) us).run Pr w=.ok () w'->(Builtin.copy_ ⟨X::ts⟩ ty ⟨[u,v]⟩).run Pr w=.ok (.int .i64 (Nat.min m l:Nat)) w':=λw' hs=>by subst hu;simp[Builtin.copy_,run_underlying hX,hlen,hsz,u3 w rfl,hs,goInt]
  cases hn:Nat.min m l with
  | zero=>
   rw[hn]at h1 u1 hrun;have hus:us=[]:=List.length_eq_zero_iff.1 (by rw[u1];omega);subst hus;obtain⟨r,hr,hk⟩:=zA (o:=iLn 0) (k:=λv=>K v h) h1;obtain rfl:=kN hr;exact⟨_,w,hrun w (by simp[storeCells]),_,h,e,z,hk,rfl,R,.refl e h⟩
  | succ n=>rw[hn]at h1 u1 u2 hrun;obtain⟨t1,hk⟩:=tke_law (K:=λnew=>storeL id off new h λh=>obn (iLn (n+1)) λv=>K v h) h1;obtain⟨w',r1,h2,e2,z2,k1,k2,k3⟩:=storeL_law R hd u2 hk;obtain⟨r,hr,hk⟩:=zA k1;obtain rfl:=kN hr;exact⟨_,w',hrun w' r1,_,h2,e2,z2,hk,rfl,k2,k3⟩
 cases o2 with
 | s id off l c=>exact cp id off l c hx.1 hx.2 hh
 | w id off l c=>exact cp id off l _ hx.1 hx.2.1 hh
 | c q=>
  have h2:nlV q (obn (iLn 0) λv=>K v h)=some z:=hh
  obtain⟨rfl,_⟩:=hx;unfold nlV at h2;split at h2
  ·obtain⟨r,hr,hk⟩:=zA h2;obtain rfl:=kN hr;have hlen:=S.len w;obtain⟨us,u1,u2,u3⟩:=S.cells 0 (Nat.zero_le _);refine⟨.int .i64 (0:Nat),w,?_,_,h,e,z,hk,rfl,R,.refl e h⟩;simp[Builtin.copy_,run_underlying hX,hlen,hsz,u3 w rfl,goInt]
  ·cases h2
 | _=>cases hh
theorem clear_law (R:zq w0 e h w) {X:TypeId} {x:AV} {u:Value} {K:AV->H->Ev.R} {z:List (AV×H)} (hh:(asO x λx=>clO x X h K)=some z) (hx:Dn e x u) (ts:List TypeId) (ty:TypeId):∃ q w',(Builtin.clear_ ⟨X::ts⟩ ty ⟨[u]⟩).run Pr w=.ok q w'/\Out w0 e h K q w':=by
 obtain⟨o,rfl,hh⟩:=qj hh;have cl:∀ id off l c,e.dom id->u=.slice (some (adr e id off)) l c->clE id off l X h K=some z->∃ q w',(Builtin.clear_ ⟨X::ts⟩ ty ⟨[u]⟩).run Pr w=.ok q w'/\Out w0 e h K q w':=λid off l c hd hu hk=>by
  subst hu;obtain⟨E,s,ag,hX,hE,hk⟩:=el_law hk;obtain⟨q,hq,hk⟩:=zA hk;obtain⟨zv,us,z1,z2,z3⟩:=zero_law e hq;cases l with
  | zero=>
   have hk':K (.t []) h=some z:=hk
   exact⟨_,w,by simp[Builtin.clear_,run_underlying hX],_,h,e,z,hk',dn_unit e,R,.refl e h⟩
  | succ l=>obtain⟨h1,hk⟩:=zk (show gd (Nat.beq (len q) s) (storeL id off (repL q (l+1)) h λh=>K (.t []) h)=some z from hk);obtain⟨w',r1,h2,e2,z2',k1,k2,k3⟩:=storeL_law R hd (zero_cells z2 z3 (l+1)) hk;refine⟨.tuple #[],w',?_,_,h2,e2,z2',k1,dn_unit e2,k2,k3⟩;simp[Builtin.clear_,run_underlying hX,run_zero z1,r1]
 cases o with
 | s id off l c=>exact cl id off l c hx.1 hx.2 hh
 | w id off l c=>exact cl id off l _ hx.1 hx.2.1 hh
 | c q=>
  have h2:nlV q (el X λ_ _=>K (.t []) h)=some z:=hh
  obtain⟨rfl,_⟩:=hx;unfold nlV at h2;split at h2
  ·obtain⟨E,s,ag,hX,hE,hk⟩:=el_law h2;exact⟨_,w,by simp[Builtin.clear_,run_underlying hX],_,h,e,z,hk,dn_unit e,R,.refl e h⟩
  ·cases h2
 | _=>cases hh
end
theorem zB.eraseIdx {α β:Type} {p:α->β->Prop} : ∀ {l:List α} {m:List β} (i:Nat),zB p l m->zB p (l.eraseIdx i) (m.eraseIdx i)
 | [],[],_,_=>by simp[zB]
 | _::_,_::_,0,⟨_,b⟩=>by simpa using b
 | _::_,_::_,i+1,⟨a,b⟩=>by simpa using ⟨a,b.eraseIdx i⟩
 | [],_::_,_,k=>k.elim
 | _::_,[],_,k=>k.elim
theorem MOk.erase {e:Env} {l:List (AV×AV)} {es:List MapEntry} {c:Nat} (h:MOk e l es c) (i:Nat):MOk e (l.eraseIdx i) (es.eraseIdx i) c:=
 ⟨h.1.eraseIdx i,(List.Sublist.map _ (List.eraseIdx_sublist es i)).nodup h.2.1,λen hen=>h.2.2 en ((List.eraseIdx_sublist es i).subset hen)⟩
/-! ### Keys told apart -/
theorem eqL_true:∀ {n:Nat} {l m:List Sc},nums l=true->eqL n l m=some true->l=m
 | 0,[],[],_,_=>rfl
 | 0,[],_::_,_,h=>by cases h
 | 0,_::_,_,_,h=>by cases h
 | n+1,[],_,_,h=>by cases h
 | n+1,_::_,[],_,h=>by cases h
 | n+1,x::l,y::m,hn,h=>by
  have h':eqI x y (λb=>jV b (eqL n l m) (some false))=some true:=h
  cases x with
  | i k a=>
   have hn':nums l=true:=hn
   cases y with
   | i k' b=>
    obtain⟨h1,h2⟩:=zk (show gd (Nat.beq (kNo k) (kNo k')) ((λb=>jV b (eqL n l m) (some false)) (ieqB a b))=some true from h');obtain rfl:=kNo_inj h1;rw[ieqB_eq]at h2;by_cases c:a=b
    ·subst c;have h3:jV (decide (a=a)) (eqL n l m) (some false)=some true:=h2;rw[decide_eq_true rfl]at h3;rw[eqL_true hn' h3]
    ·have h3:jV (decide (a=b)) (eqL n l m) (some false)=some true:=h2
     rw[decide_eq_false c]at h3;cases h3
   | _=>cases h'
  | _=>cases hn
def KeyA (n:Nat) (y:AV):Prop:=(n=0/\∃ k a,y=.i k a)\/∃ l,n=l.length+1/\y=.a l/\nums l=true
theorem keyK_form {Z:Type} {z:Z} {n:Nat} {y:AV} {K:AV->Option Z} (h:ko n y K=some z):KeyA n y:=by
 cases n with
 | zero=>
  obtain⟨k,a,rfl,_⟩:=qB (show(asI y λk a=>K (.i k a))=some z from h);exact .inl ⟨rfl,k,a,rfl⟩
 | succ n=>obtain⟨l,rfl,h2⟩:=jK (show(asA y λl=>gd (Nat.beq (len l) n && nums l) (K (.a l)))=some z from h);obtain⟨h1,_⟩:=zk h2;simp only[Bool.and_eq_true,zT,decide_eq_true_eq,qz]at h1;exact .inr ⟨l,by rw[h1.1],rfl,h1.2⟩
theorem KeyA.same {n:Nat} {y key:AV} (hy:KeyA n y) (h:jT n y key=some true):y=key:=by
 rcases hy with ⟨rfl,k,a,rfl⟩ | ⟨l,rfl,rfl,hn⟩
 ·obtain⟨s,t,hs,rfl,h2⟩:=xx_law (show(xx (.i k a) key λx y=>eqI x y some)=some true from h);cases hs;cases t with
  | i k' b=>
   obtain⟨h1,h3⟩:=zk (show gd (Nat.beq (kNo k) (kNo k')) (some (ieqB a b))=some true from h2);obtain rfl:=kNo_inj h1;rw[ieqB_eq]at h3;have:a=b:=by simpa using h3
   rw[this]
  | _=>cases h2
 ·obtain⟨l',hl,h2⟩:=jK (show(asA (.a l) λl1=>asA key λm=>gd (Nat.beq (len l1) l.length && Nat.beq (len m) l.length) (eqL l.length l1 m))=some true from h);cases hl;obtain⟨m,rfl,h3⟩:=jK h2;obtain⟨_,h4⟩:=zk h3;rw[eqL_true hn h4]
theorem KeyA.shp {n:Nat} {y:AV} (hy:KeyA n y):shpK y=some n:=by
 rcases hy with ⟨rfl,k,a,rfl⟩ | ⟨l,rfl,rfl,hn⟩
 ·rfl
 ·show some (Nat.succ (len l))=_
  rw[qz]
theorem keyE_shp {m n:Nat} {a b:AV} {r:Bool} (h:jT m a b=some r) (hs:shpK a=some n):m=n:=by
 cases m with
 | zero=>
  obtain⟨s,t,rfl,_,_⟩:=xx_law (show(xx a b λx y=>eqI x y some)=some r from h);cases s with
  | i k x=>cases hs;rfl
  | _=>cases hs
 | succ m=>obtain⟨l,rfl,h2⟩:=jK (show(asA a λl=>asA b λm'=>gd (Nat.beq (len l) m && Nat.beq (len m') m) (eqL m l m'))=some r from h);obtain⟨m',_,h3⟩:=jK h2;obtain⟨h4,_⟩:=zk h3;simp only[Bool.and_eq_true,zT,decide_eq_true_eq,qz]at h4;have hs':some (Nat.succ (len l))=some n:=hs;rw[qz]at hs';have:=Option.some.inj hs';omega
theorem neK_cons {n:Nat} {k:AV} {p:AV×AV} {l:List (AV×AV)} (h:neK n k (p::l)=true):jT n k p.1=some false/\jT n p.1 k=some false/\neK n k l=true:=by
 have h':(match jT n k p.1,jT n p.1 k with | some false,some false=>neK n k l | _,_=>false)=true:=h
 split at h'
 ·rename_i h1 h2;exact⟨h1,h2,h'⟩
 ·cases h'
theorem neK_mem {n:Nat} {k:AV} : ∀ {l:List (AV×AV)},neK n k l=true->∀ p∈l,jT n k p.1=some false/\jT n p.1 k=some false
 | [],_,p,hp=>by cases hp
 | q::l,h,p,hp=>by
  obtain⟨h1,h2,h3⟩:=neK_cons h;rcases List.mem_cons.1 hp with rfl | hp
  ·exact⟨h1,h2⟩
  ·exact neK_mem h3 p hp
theorem neK_of {n:Nat} {k:AV} : ∀ {l:List (AV×AV)},(∀ p∈l,jT n k p.1=some false/\jT n p.1 k=some false)->neK n k l=true
 | [],_=>rfl
 | q::l,h=>by obtain⟨h1,h2⟩:=h q (by simp);show(match jT n k q.1,jT n q.1 k with | some false,some false=>neK n k l | _,_=>false)=true;rw[h1,h2];exact neK_of λp hp=>h p (by simp[hp])
theorem dstK_cons {p:AV×AV} {l:List (AV×AV)} (h:dstK (p::l)=true):∃ n,shpK p.1=some n/\neK n p.1 l=true/\dstK l=true:=by
 have h':(match shpK p.1 with | some n=>neK n p.1 l && dstK l | none=>false)=true:=h
 split at h'
 ·rename_i n hn;simp only[Bool.and_eq_true]at h';exact⟨n,hn,h'.1,h'.2⟩
 ·cases h'
theorem dstK_sub {l m:List (AV×AV)} (hs:l.Sublist m) (h:dstK m=true):dstK l=true:=by
 induction hs with
 | slnil=>rfl
 | cons a hs ih=>exact ih (dstK_cons h).choose_spec.2.2
 | cons_cons a hs ih=>obtain⟨n,h1,h2,h3⟩:=dstK_cons h;rename_i l1 l2;show(match shpK a.1 with | some n=>neK n a.1 l1 && dstK l1 | none=>false)=true;rw[h1];simp only[Bool.and_eq_true];exact⟨neK_of λp hp=>neK_mem h2 p (hs.subset hp),ih h3⟩
theorem dstK_hit {n:Nat} {y:AV} (hy:KeyA n y) (hyy:jT n y y=some true):∀ {l:List (AV×AV)} {i:Nat} {p:AV×AV},dstK l=true->l[i]? = some p->p.1=y->hit (jT n) y l=some (some i)
 | [],i,p,_,hp,_=>by simp at hp
 | q::l,0,p,_,hp,hpy=>by
  simp at hp;subst hp;rw[hit_cons (b:=true) (by rw[hpy];exact hyy)];rfl
 | q::l,i+1,p,h,hp,hpy=>by
  obtain⟨nq,h1,h2,h3⟩:=dstK_cons h;have hp':l[i]? = some p:=by simpa using hp
  have hne:=(neK_mem h2 p (List.mem_of_getElem? hp')).2
  rw[hpy]at hne;obtain rfl:=keyE_shp hne hy.shp;rw[hit_cons (b:=false) hne,dstK_hit hy hyy h3 hp' hpy];rfl
/-! ### What is left of a map -/
theorem born_ne {L:List MapEntry} {b:Nat} (h:b∉L.map (·.born)):L.filter (λx=>x.born != b)=L:=by rw[List.filter_eq_self];intro x hx;simp only[bne_iff_ne,ne_eq];exact λk=>h (List.mem_map.2 ⟨x,hx,k⟩)
theorem erase_filter:∀ {L:List MapEntry} {i:Nat} {en:MapEntry},L[i]? = some en->(L.map (·.born)).Nodup->L.eraseIdx i=L.filter (λx=>x.born != en.born)
 | [],i,en,h,_=>by simp at h
 | x::L,0,en,h,hn=>by
  simp at h;subst h;simp only[List.map_cons,List.nodup_cons]at hn;simp[born_ne hn.1]
 | x::L,i+1,en,h,hn=>by
  simp only[List.map_cons,List.nodup_cons]at hn;have h':L[i]? = some en:=by simpa using h
  have hne:x.born≠en.born:=λk=>hn.1 (by rw[k];exact List.mem_map.2 ⟨en,List.mem_of_getElem? h',rfl⟩)
  simp[hne,erase_filter h' hn.2]
theorem kg (S:Array Nat) (x:MapEntry) (k:Bool) (zs:List (MapEntry×Bool)):qY S ((x,k)::zs)=if (k || !S.contains x.born)=true then x::qY S zs else qY S zs:=by unfold qY;rw[List.filter_cons];simp only;split<;>simp
theorem leftJ_born {S:Array Nat} {es:List MapEntry} {ks:List Bool} {b:Nat} (h:b∉es.map (·.born)):b∉(qY S (es.zip ks)).map (·.born):=λk=>by obtain⟨x,hx,hb⟩:=List.mem_map.1 k;unfold qY at hx;obtain⟨z,hz,rfl⟩:=List.mem_map.1 hx;exact h (List.mem_map.2 ⟨z.1,(List.of_mem_zip (List.mem_filter.1 hz).1).1,hb⟩)
theorem leftJ_erase {S:Array Nat} : ∀ {es:List MapEntry} {ks:List Bool} {j:Nat} {en:MapEntry},es[j]? = some en->j<ks.length->(es.map (·.born)).Nodup->S.contains en.born=true->
  qY S (es.zip (ks.set j false))=(qY S (es.zip (ks.set j true))).filter (λx=>x.born != en.born)
 | [],_,j,en,h,_,_,_=>by simp at h
 | x::es,[],j,en,_,h,_,_=>by simp at h
 | x::es,k::ks,0,en,h,_,hn,hS=>by
  simp at h;subst h;simp only[List.map_cons,List.nodup_cons]at hn;simp only[List.set_cons_zero,List.zip_cons_cons,kg,hS];simp[born_ne (leftJ_born hn.1)]
 | x::es,k::ks,j+1,en,h,hj,hn,hS=>by
  simp only[List.map_cons,List.nodup_cons]at hn;have h':es[j]? = some en:=by simpa using h
  have hne:x.born≠en.born:=λk=>hn.1 (by rw[k];exact List.mem_map.2 ⟨en,List.mem_of_getElem? h',rfl⟩)
  have ih:=leftJ_erase (S:=S) (ks:=ks) h' (by simpa using hj) hn.2 hS
  simp only[List.set_cons_succ,List.zip_cons_cons,kg,ih];split
  ·simp[hne]
  ·rfl
theorem leftJ_step {S:Array Nat} : ∀ {es:List MapEntry} {ks:List Bool} {j:Nat} {en:MapEntry},es[j]? = some en->j<ks.length->(es.map (·.born)).Nodup->S.contains en.born=false->
  qY (S.push en.born) (es.zip (ks.set j true))=qY S (es.zip ks)
 | [],_,j,en,h,_,_,_=>by simp at h
 | x::es,[],j,en,_,h,_,_=>by simp at h
 | x::es,k::ks,0,en,h,_,hn,hS=>by
  simp at h;subst h;simp only[List.map_cons,List.nodup_cons]at hn;have rest:qY (S.push x.born) (es.zip ks)=qY S (es.zip ks):=by unfold qY;congr 1;apply List.filter_congr;intro z hz;have:z.1.born≠x.born:=λk=>hn.1 (List.mem_map.2 ⟨z.1,(List.of_mem_zip hz).1,k⟩);simp[Array.contains_push,this]
  simp only[List.set_cons_zero,List.zip_cons_cons,kg,hS,rest];simp
 | x::es,k::ks,j+1,en,h,hj,hn,hS=>by
  simp only[List.map_cons,List.nodup_cons]at hn;have h':es[j]? = some en:=by simpa using h
  have hne:x.born≠en.born:=λk=>hn.1 (by rw[k];exact List.mem_map.2 ⟨en,List.mem_of_getElem? h',rfl⟩)
  have ih:=leftJ_step (S:=S) (ks:=ks) h' (by simpa using hj) hn.2 hS
  have hc:(S.push en.born).contains x.born=S.contains x.born:=by simp[Array.contains_push,hne]
  simp only[List.set_cons_succ,List.zip_cons_cons,kg,ih,hc]
section
variable {w0:World} {e:Env} {h:H} {w:World}
def eraseO (r:Option Nat) (es:List MapEntry):List MapEntry:=match r with
 | none=>es
 | some i=>es.eraseIdx i
theorem run_delete {X kt et:TypeId} {n:Nat} (hX:Pr.underlying X=some (.map kt et)) (hn:kiB kt=some n) {k:AV} {kv:Value} (hkv:Dn e k kv) (hV:KeyV n kv) {l:List (AV×AV)} {es:List MapEntry} {c b:Nat} {r:Option Nat} (hh:hit (jT n) k l=some r) (hl:zB (DnE e) l es)
  (hb:w.heap[b]? = some (.map ⟨es⟩ c)) (ts:List TypeId) (ty:TypeId) :
  (Builtin.delete_ ⟨X::ts⟩ ty ⟨[.map (some b),kv]⟩).run Pr w=.ok (.tuple #[]) (w.putObj b (.map ⟨eraseO r es⟩ c)):=by
 have hf:=find_law hn hkv hV hh hl w
 have hc:=key_check hn hV es.isEmpty w
 have hset:∀ o',(setObj b o').run Pr w=.ok () (w.putObj b o'):=λo'=>jZ o' hb
 cases r with
 | none=>simp[Builtin.delete_,run_underlying hX,qw hb,hc,hf,found,hset,eraseO]
 | some j=>obtain⟨p,en,e1,e2,e3⟩:=hit_key (kt:=kt) hkv hh hl;have hlt:j<es.length:=(List.getElem?_eq_some_iff.1 e2).1;simp[Builtin.delete_,run_underlying hX,qw hb,hc,hf,found,e2,hset,Array.eraseIdxIfInBounds,hlt,eraseO]
theorem sameI_nf:∀ (us:List Value),jo us us≠some false
 | [],h=>by simp[jo]at h
 | u::us,h=>by
  cases u with
  | int k a=>
   simp only[jo,if_true]at h;exact sameI_nf us h
  | _=>simp[jo]at h
theorem KeyEq.ne {kt:TypeId} {n:Nat} {u v:Value} (h:KeyEq kt n u v false):u≠v:=λc=>by
 cases h with
 | int k a b hn hu hv hb=>
  rw[hu,hv]at c;cases c;simp at hb
 | agg m us vs hn hu hv hl hs=>rw[hu,hv]at c;cases c;exact sameI_nf _ hs
theorem dstK_ne:∀ {l:List (AV×AV)} {i j:Nat} {p q:AV×AV},dstK l=true->l[i]? = some p->l[j]? = some q->i≠j->∃ m,jT m p.1 q.1=some false
 | [],i,j,p,q,_,hp,_,_=>by simp at hp
 | x::l,0,0,p,q,_,_,_,hij=>absurd rfl hij
 | x::l,0,j+1,p,q,h,hp,hq,_=>by
  obtain⟨n,h1,h2,h3⟩:=dstK_cons h;simp at hp;subst hp;exact⟨n,(neK_mem h2 q (List.mem_of_getElem? (by simpa using hq))).1⟩
 | x::l,i+1,0,p,q,h,hp,hq,_=>by
  obtain⟨n,h1,h2,h3⟩:=dstK_cons h;simp at hq;subst hq;exact⟨n,(neK_mem h2 p (List.mem_of_getElem? (by simpa using hp))).2⟩
 | x::l,i+1,j+1,p,q,h,hp,hq,hij=>by obtain⟨n,h1,h2,h3⟩:=dstK_cons h;exact dstK_ne h3 (by simpa using hp) (by simpa using hq) (by omega)
theorem KeyA.val {n:Nat} {y:AV} (hy:KeyA n y) {e:Env} {u v:Value} (hu:Dn e y u) (hv:Dn e y v):u=v:=by
 rcases hy with ⟨rfl,k,a,rfl⟩ | ⟨l,rfl,rfl,hn⟩
 ·rw[show u=.int k a from hu,show v=.int k a from hv]
 ·obtain⟨us,rfl,h1⟩:=hu;obtain⟨vs,rfl,h2⟩:=hv;have:∀ {l:List Sc} {us vs:List Value},nums l=true->zB (DnC e) l us->zB (DnC e) l vs->us=vs:=by
   intro l;induction l with
   | nil=>
    intro us vs _ h1 h2;cases us with
    | cons=>exact h1.elim
    | nil=>cases vs with
     | cons=>exact h2.elim
     | nil=>rfl
   | cons s l ih=>
    intro us vs hn h1 h2;cases us with
    | nil=>exact h1.elim
    | cons u us=>
     cases vs with
     | nil=>exact h2.elim
     | cons v vs=>
      cases s with
      | i k a=>
       have hn':nums l=true:=hn
       rw[show u=.int k a from h1.1.1,show v=.int k a from h2.1.1,ih hn' h1.2 h2.2]
      | _=>cases hn
  rw[this hn h1 h2]
theorem del_law (R:zq w0 e h w) {X:TypeId} {x y:AV} {mu kv:Value} {K:H->Ev.R} {z:List (AV×H)} (hh:delE X x y h K=some z) (hx:Dn e x mu) (hy:Dn e y kv) (ts:List TypeId) (ty:TypeId) :
  ∃ w',(Builtin.delete_ ⟨X::ts⟩ ty ⟨[mu,kv]⟩).run Pr w=.ok (.tuple #[]) w'/\OutU w0 e h K w':=by
 obtain⟨m,hm,hh⟩:=zA hh;obtain⟨kt,et,zv,hX,hn,he,hz,hzz⟩:=mapK_law hm;have hA:=keyK_form hh;obtain⟨hV,hh⟩:=keyK_law hh hy;obtain⟨id,rfl,hh⟩:=asM_law hh;obtain⟨b,hb,hh⟩:=qJ hh;obtain⟨hd,rfl⟩:=hx;cases b with
 | m l=>
  obtain⟨l',ho,hh⟩:=zA (o:=delM m.eq y l) (k:=λl=>kF h id (.o (.m l)) K) hh;rw[he]at ho;obtain⟨es,c,h1,h2⟩:=R.map hd hb;obtain⟨rr,k1,k2⟩:=delM_hit ho;refine⟨_,run_delete hX hn hy hV k1 h2.1 h1 ts ty,map_put R hd hb ?_ hh⟩;cases rr with
  | none=>rw[show l'=l from k2];exact h2
  | some i=>rw[show l'=l.eraseIdx i from k2];exact h2.erase i
 | g key gone L=>
  obtain⟨bb,ho,hh⟩:=zA (o:=m.eq y key) (k:=λb=>gd (b && !gone && okW h id) (jc h id (.o (.g key true L)) K)) hh;obtain⟨g1,hh2⟩:=zk hh;simp only[Bool.and_eq_true,Bool.not_eq_true']at g1;obtain⟨⟨rfl,rfl⟩,gw⟩:=g1;rw[he]at ho;obtain rfl:=hA.same ho;have ok:=R.ok id hd;rw[hb]at ok;obtain⟨l,es,c,k1,k2,k3,⟨kS,kE⟩,k4⟩:=ok;obtain⟨i,p,p1,p2⟩:=k4 rfl;have hit1:=dstK_hit hA ho k3 p1 p2;obtain⟨p',eni,q1,q2,q3⟩:=hit_key (kt:=kt) hy hit1 k2.1;rw[p1]at q1;cases q1;obtain⟨h',P,hk⟩:=qN hh2 (R.zN hd);have hin:inB (hget h id):=by rw[hb];trivial
  have hlow:=R.low id hd hin
  have hg:w.grownBy (w.putObj (e.blk id) (.map ⟨es.eraseIdx i⟩ c)) (some (e.blk id)):=⟨rfl,rfl,rfl,by simp,λk hk hne=>World.putObj_heap_other λc=>hne (by rw[c])⟩
  refine⟨_,run_delete hX hn hy hV hit1 k2.1 k1 ts ty,h',e,z,hk,R.putR P hd hin (λj hj hne hr=>?_) hg ⟨l.eraseIdx i,es.eraseIdx i,c,World.putObj_heap_same hlow.2,k2.erase i,dstK_sub (List.eraseIdx_sublist l i) k3,⟨(List.eraseIdx_sublist l i).trans kS,kE⟩,λk=>by cases k⟩ (λm k=>by cases k),R.frPut P hd (okW_law gw) (by rw[hb];trivial)⟩;have ok:=R.ok j hj;cases hbj:hget h j with
  | x=>rw[hbj]at hr;cases hr
  | c=>rw[hbj]at hr;cases hr
  | r=>rw[hbj]at hr;cases hr
  | o q=>
   rw[hbj]at hr ok;cases q with
   | i m' l'=>cases hr;obtain⟨_,h2,_⟩:=ok;rw[hb]at h2;cases h2
   | b m' l' rem=>exact ok.elim
   | c m' k v l' rem=>cases hr;obtain⟨_,h2,_⟩:=ok;rw[hb]at h2;cases h2
   | j m' l' z=>cases hr;obtain⟨_,h2,_⟩:=ok;rw[hb]at h2;cases h2
   | k m' key' v l' keep z cur=>
    cases hr;obtain⟨_,gone,L',h2,es',c',since,seen,j',en,g1,g2,⟨h3,h4,h5⟩,h6,h7,h8⟩:=ok;rw[hb]at h2;cases h2;rw[k1]at h3;simp only[Option.some.injEq,Obj.map.injEq,Array.mk.injEq]at h3;obtain⟨rfl,rfl⟩:=h3;have hlen:=h6.1.length;simp only[List.length_map]at hlen;have hj':j'<l'.length:=(List.getElem?_eq_some_iff.1 g2).1;have hS:(seen.push en.born).contains en.born=true:=by simp[Array.contains_push]
    have hs:((l'.map (·.2)).set j' (!false))[j']? = some true:=by rw[List.getElem?_set_self (by simpa using hj')];rfl
    have hmem:=leftJ_mem (seen:=seen.push en.born) g1 hs
    obtain⟨i',hi'⟩:=List.mem_iff_getElem?.1 hmem;have hE:DnE e (y,v) en:=h6.1.at (by rw[List.getElem?_map,g2];rfl) g1;have hen:eni=en:=by
     by_cases ci:i=i'
     ·subst ci;rw[q2]at hi';exact Option.some.inj hi'
     ·have hil:i'<l.length:=by rw[k2.1.length];exact(List.getElem?_eq_some_iff.1 hi').1
      obtain⟨mm,hmm⟩:=dstK_ne k3 p1 (List.getElem?_eq_getElem hil) ci;have d1:=(k2.1.at p1 q2).1;have d2:=(k2.1.at (List.getElem?_eq_getElem hil) hi').1;have:=(keyE_law (kt:=kt) hmm d1 d2).ne;exact absurd (by rw[q3];exact hA.val hy hE.1) this
    have hneb:e.blk j≠e.blk id:=λk=>hne (R.inj j id hj hd (by rw[hbj];trivial) hin k)
    refine⟨hd,true,_,by rw[P.get id (R.zN hd),if_pos rfl],es',_,since,seen,j',en,g1,g2,⟨?_,?_,h5⟩,h6,h7,h8⟩
    ·rw[World.putObj_heap_same hlow.2];show some (Obj.map ⟨List.eraseIdx _ i⟩ _)=_;rw[erase_filter q2 k2.2.1,hen];exact congrArg (λL=>some (Obj.map ⟨L⟩ _)) (leftJ_erase (ks:=l'.map (·.2)) g1 (by simpa using hj') h6.2.1 hS).symm
    ·rw[World.putObj_heap_other λc=>hneb c];exact h4
   | _=>cases hr
 | _=>cases hh
end
theorem both_law {a b:Ev.R} {z:List (AV×H)} (h:both a b=some z):∃ p q,a=some p/\b=some q:=by obtain⟨p,hp,h⟩:=zA h;obtain⟨q,hq,_⟩:=zA h;exact⟨p,q,hp,hq⟩
theorem eachB_law {K:AV×AV->List (AV×AV)->Ev.R} : ∀ {rem pre:List (AV×AV)} {z:List (AV×H)},eachB pre rem K=some z->∀ (A B:List (AV×AV)) (p:AV×AV),rem=A++p::B->∃ z',K p (pre++A++B)=some z'
 | [],pre,z,_,A,B,p,hr=>by cases A<;>cases hr
 | x::r,pre,z,h,A,B,p,hr=>by
  obtain⟨z1,z2,h1,h2⟩:=both_law (show both (K x (app pre r)) (eachB (app pre [x]) r K)=some z from h);cases A with
  | nil=>
   cases hr;rw[jJ]at h1;exact⟨z1,by simpa using h1⟩
  | cons y A=>cases hr;obtain⟨z',hz'⟩:=eachB_law h2 A B p rfl;rw[jJ]at hz';exact⟨z',by simpa using hz'⟩
theorem eachJ_law {K:Nat->(AV×AV)×Bool->Ev.R} {E:Ev.R} : ∀ {l:List ((AV×AV)×Bool)} {i:Nat} {z:List (AV×H)},eachJ l K E i=some z->(∀ j p,l[j]? = some p->∃ z',K (i+j) p=some z')/\∃ z',E=some z'
 | [],i,z,h=>⟨λj p hp=>by simp at hp,z,h⟩
 | x::l,i,z,h=>by
  have h':both (K i x) (eachJ l K E (Nat.succ i))=some z:=h
  obtain⟨z1,z2,h1,h2⟩:=both_law h';obtain⟨k1,k2⟩:=eachJ_law h2;refine⟨λj p hp=>?_,k2⟩;cases j with
  | zero=>simp at hp;subst hp;exact⟨z1,h1⟩
  | succ j=>obtain⟨z',hz⟩:=k1 j p (by simpa using hp);exact⟨z',by rw[show i+(j+1)=Nat.succ i+j by omega];exact hz⟩
theorem remB_split {seen:Array Nat} : ∀ {l:List (AV×AV)} {es:List MapEntry} {j:Nat} {p:AV×AV} {en:MapEntry},l[j]? = some p->es[j]? = some en->(es.map (·.born)).Nodup->seen.contains en.born=false->
  ∃ A B,remB seen l es=A++p::B/\remB (seen.push en.born) l es=A++B
 | [],es,j,p,en,hp,_,_,_=>by simp at hp
 | x::l,[],j,p,en,_,he,_,_=>by simp at he
 | x::l,y::es,0,p,en,hp,he,hn,hs=>by
  simp at hp he;subst hp;subst he;simp only[List.map_cons,List.nodup_cons]at hn;refine⟨[],remB seen l es,?_,?_⟩
  ·have hs':¬ y.born∈seen:=by simpa using hs
   simp[remB,hs']
  ·have rest:remB (seen.push y.born) l es=remB seen l es:=by unfold remB;congr 1;apply List.filter_congr;intro z hz;have:z.2.born≠y.born:=λk=>hn.1 (List.mem_map.2 ⟨z.2,(List.of_mem_zip hz).2,k⟩);simp[Array.contains_push,this]
   have:remB (seen.push y.born) (x::l) (y::es)=remB (seen.push y.born) l es:=by simp[remB]
   rw[this,rest];rfl
 | x::l,y::es,j+1,p,en,hp,he,hn,hs=>by
  simp only[List.map_cons,List.nodup_cons]at hn;have he':es[j]? = some en:=by simpa using he
  have hne:y.born≠en.born:=λk=>hn.1 (by rw[k];exact List.mem_map.2 ⟨en,List.mem_of_getElem? he',rfl⟩)
  obtain⟨A,B,h1,h2⟩:=remB_split (l:=l) (by simpa using hp) he' hn.2 hs;have c:∀ S:Array Nat,remB S (x::l) (y::es)=if S.contains y.born=true then remB S l es else x::remB S l es:=λS=>by unfold remB;rw[List.zip_cons_cons,List.filter_cons];cases hS:S.contains y.born<;>simp[hS]
  have hc:(seen.push en.born).contains y.born=seen.contains y.born:=by simp[Array.contains_push,hne]
  rw[c,c,hc];cases hS:seen.contains y.born with
  | true=>exact⟨A,B,by simpa using h1,by simpa using h2⟩
  | false=>exact⟨x::A,B,by simpa using h1,by simpa using h2⟩
theorem remB_nil {seen:Array Nat} {l:List (AV×AV)} {es:List MapEntry} (h:∀ en∈es,seen.contains en.born=true):remB seen l es=[]:=by unfold remB;rw[List.map_eq_nil_iff,List.filter_eq_nil_iff];intro z hz;simpa using h z.2 (List.of_mem_zip hz).2
section
variable {w0:World} {e:Env} {h:H} {w:World}
theorem range_law (R:zq w0 e h w) {X:TypeId} {x:AV} {u:Value} {K:AV->H->Ev.R} {z:List (AV×H)} (hh:gd (isMp X) (rangeE x h K)=some z) (hx:Dn e x u):∃ q w',(Instr.range X u).run Pr w=.ok q w'/\Out w0 e h K q w':=by
 obtain⟨hM,hh⟩:=zk hh;have hX:∃ kt et,Pr.underlying X=some (.map kt et):=by
  unfold isMp at hM;split at hM
  ·rename_i kt et hu;exact⟨kt,et,hu⟩
  ·cases hM
 obtain⟨kt,et,hX⟩:=hX;obtain⟨mid,rfl,hh⟩:=asM_law hh;obtain⟨l,hb,hh⟩:=mapB_law hh;obtain⟨hd,rfl⟩:=hx;obtain⟨es,c,h1,h2⟩:=R.map hd hb;obtain⟨hlo,h',P,hk⟩:=jS hh (R.zN hd);have RL:=R.low' mid;have hin:inB (hget h mid):=by rw[hb];trivial
 have hnh:¬ hidK (hget h mid):=by rw[hb];exact λc=>c
 have R1:zq w0 e h' w:=RL.put P hd hin hnh (World.grownBy.refl w _) trivial
 obtain⟨h3,N,hk⟩:=newB_law hk;have R2:=R1.push N;have hid:¬ e.dom h'.nxt:=λk=>by have:=R1.lt _ k;omega
 have hmn:mid≠h'.nxt:=λk=>hid (by rw[<-k];exact hd)
 have hg:hget h3 h'.nxt=.o (.i mid l):=by rw[N.get _ N.lt,if_pos rfl]
 have hgm:hget h3 mid=.o .h:=by rw[N.get _ (R.zN hd),if_neg hmn,P.get _ (R.zN hd),if_pos rfl]
 have x:=kT (e:=e) (bk:=w.heap.size) (c:=0) (f:=.nilFunc) hid
 have hlow:=R.low mid hd hin
 have hs:=R.below.size
 refine⟨.pointer (some ⟨w.heap.size,0,none⟩),w.alloc (.mapIter (some (e.blk mid)) c #[] c),by simp[Instr.range,run_underlying hX,qw h1,run_newObj],_,h3,e.add h'.nxt w.heap.size 0 .nilFunc,z,hk,⟨.inl rfl,by rw[adr,qh]⟩,
  R2.add hid (by rw[N.nxt];omega) (jI w _) (λ_=>⟨hs,by simp,λj hj hi he=>by have:=(R2.low j hj hi).2;omega⟩) ?_ (λm hm j hj hr=>?_),((fr_low e h mid).trans (RL.frPut P hd (.inl hlo) (by show jU (hget h mid) _;rw[hb];trivial))).trans ((R1.frNew N).add hid (Nat.le_refl _))⟩
 ·rw[hg];refine⟨.inr hd,hgm,es,c,⟨?_,?_,Nat.le_refl _⟩,h2.ext x⟩
  ·rw[x.blk mid hd,(jI w _).block _ hlow.2];exact h1
  ·rw[qh,x.blk mid hd];exact heap_alloc_new w _
 ·rw[hg]at hm;cases hm;have hjn:j≠h'.nxt:=λk=>hid (by rw[<-k];exact hj);rw[N.get _ (R.zN hj),if_neg hjn,P.get _ (R.zN hj)]at hr;by_cases cj:j=mid
  ·rw[if_pos cj]at hr;cases hr
  ·rw[if_neg cj]at hr;exact hnh (R.refs hj hr).2
theorem zq.over (R:zq w0 e h w) {id m:Nat} (hd:e.dom id) (hr:refM (hget h id)=some m) (hin:inB (hget h id)) (hnh:¬ hidK (hget h id)) {h1 h2:H} (P1:Put h id (.o .z) h1) {l:List (AV×AV)} (P2:Put h1 m (.o (.m l)) h2) {es:List MapEntry} {c:Nat} (hb:w.heap[e.blk m]? = some (.map ⟨es⟩ c)) (hM:MOk e l es c):zq w0 e h2 w:=by
 obtain⟨hm,hk⟩:=R.refs hd hr;have hmi:m≠id:=λk=>hnh (by rw[<-k];exact hk);have Ra:zq w0 e h1 w:=R.put P1 hd hin hnh (World.grownBy.refl w _) trivial;have gm:hget h1 m=hget h m:=by rw[P1.get m (R.zN hm),if_neg hmi]
 refine Ra.putR P2 hm (by rw[gm];exact hid_inB hk) (λj hj hne hjr=>?_) (World.grownBy.refl w _) ⟨es,c,hb,hM⟩ (λm k=>by cases k);rw[P1.get j (R.zN hj)]at hjr;by_cases cj:j=id
 ·rw[if_pos cj]at hjr;cases hjr
 ·rw[if_neg cj]at hjr;exact absurd (R.uniq j id m hj hd hjr hr) cj
theorem toSum_dn {v:AV} {x:Value} {K:Sc ⊕ List Sc->Option (List (AV×H))} {z:List (AV×H)} (h:toSum v K=some z) (hv:Dn e v x):∃ s,DnT e s x/\K s=some z:=by
 rcases toSum_law h with ⟨s,rfl,h⟩ | ⟨s,rfl,h⟩
 ·exact⟨.inl s,hv,h⟩
 ·exact⟨.inr s,hv,h⟩
theorem nxT_law {k v:AV} {K:AV->Ev.R} {z:List (AV×H)} (h:nxT k v K=some z) {a b:Value} (hk:Dn e k a) (hv:Dn e v b):∃ x,Dn e x (.tuple #[.bool true,a,b])/\K x=some z:=by obtain⟨s,hs,h⟩:=toSum_dn (show(toSum k λk=>toSum v λv=>K (.t [.inl (.b true),k,v]))=some z from h) hk;obtain⟨t,ht,h⟩:=toSum_dn h hv;exact⟨.t [.inl (.b true),s,t],⟨_,rfl,rfl,hs,ht,trivial⟩,h⟩
theorem grown_set {w1:World} {b:Nat} {o:Obj} : w1.grownBy (Go.ChangeMaps.setBlock w1 b o) (some b):=
 ⟨rfl,rfl,rfl,by simp[Go.ChangeMaps.setBlock],λk hk hne=>by simp only[Go.ChangeMaps.setBlock];exact Array.getElem?_setIfInBounds_ne λc=>hne (by rw[c])⟩
theorem set_at {w1:World} {b:Nat} {o:Obj} (h:b<w1.heap.size):(Go.ChangeMaps.setBlock w1 b o).heap[b]? = some o:=by simp[Go.ChangeMaps.setBlock,h]
theorem set_ne {w1:World} {b k:Nat} {o:Obj} (h:b≠k):(Go.ChangeMaps.setBlock w1 b o).heap[k]? = w1.heap[k]?:=by simp only[Go.ChangeMaps.setBlock];exact Array.getElem?_setIfInBounds_ne h
theorem nxF_dn (e:Env):Dn e nxF (.tuple #[.bool false]):=⟨_,rfl,rfl,trivial⟩
theorem stepB_law (R:zq w0 e h w) {id m:Nat} {l rem:List (AV×AV)} (hd:e.dom id) (hm:e.dom m) (hbm:hget h m=.o .h) (hr:refM (hget h id)=some m) (hin:inB (hget h id)) (hnh:¬ hidK (hget h id)) (hnt:∀ b,jU (hget h id) b)
  {es:List MapEntry} {c since c0:Nat} {seen:Array Nat} (hI:ItAt w (e.blk m) (e.blk id) es c since seen c0) (hM:MOk e l es c) (hold:∀ en∈es,en.born<since) (hsc:since<=c) (hrem:rem=remB seen l es)
  {K:AV->H->Ev.R} {z:List (AV×H)} (hh:stepB id m l rem h K=some z) (ty:TypeId):∃ q w',(Instr.next (.pointer (some (adr e id 0))) false ty).run Pr w=.ok q w'/\Out w0 e h K q w':=by
 obtain⟨hb1,hb2,hb3⟩:=hI;have hmi:m≠id:=λk=>hnh (by rw[<-k,hbm];trivial);have hmin:inB (hget h m):=by rw[hbm];trivial
 rcases run_next_at (P:=Pr) w ty (e.blk id) (e.blk m) since c0 seen ⟨es⟩ c hb2 hb1 hold hb3 with ⟨h0,hrun⟩ | ⟨en,hen,w1,hw1,hrun⟩
 ·have hall:∀ en∈es,seen.contains en.born=true:=λen hen=>by
   cases hc:seen.contains en.born with
   | true=>rfl
   | false=>
    have hmem:en∈(leftOf ⟨es⟩ seen).toList:=by unfold leftOf;rw[Array.toList_filter];exact List.mem_filter.2 ⟨hen,by rw[hc];rfl⟩
    have hpos:=List.length_pos_of_mem hmem
    rw[Array.length_toList]at hpos;omega
  rw[hrem,remB_nil hall]at hh;have h':kF h id (.o .z) (λh=>kF h m (.o (.m l)) λh=>K nxF h)=some z:=hh;obtain⟨l1,h1,P1,hk⟩:=jS h' (R.zN hd);obtain⟨l2,h2,P2,hk⟩:=jS hk (R.zN hm);have RL:=R.low' id;have Ra:zq w0 e h1 w:=RL.put P1 hd hin hnh (World.grownBy.refl w _) trivial;have RaL:=Ra.low' m;have P2':Put h1 m (.o (.m l)) (.mk h2.nxt h1.lo h2.ac h2.t):=⟨P2.nxt,rfl,P2.ac,P2.get⟩;have RO:zq w0 e (.mk h2.nxt h1.lo h2.ac h2.t) w:=RL.over hd hr hin hnh P1 P2' hb1 hM;have RO2:zq w0 e h2 w:=⟨RO.below,RO.top,RO.lt,λj hj=>BOk.step (h:=.mk h2.nxt h1.lo h2.ac h2.t) (w:=w) hj (.refl e) rfl (λm _ _ _=>⟨rfl,rfl⟩) (RO.ok j hj),RO.low,RO.inj,RO.none,RO.uniq⟩;have gm:hget h1 m=.o .h:=by rw[P1.get m (R.zN hm),if_neg hmi];exact hbm
  exact⟨_,w,hrun,nxF,h2,e,z,hk,nxF_dn e,RO2,((fr_low e h id).trans (RL.frPut P1 hd (.inl l1) (hnt _))).trans ((fr_low e h1 m).trans (RaL.frPut P2 hm (.inl l2) (by show jU (hget h1 m) _;rw[gm];trivial)))⟩
 ·have hen2:en∈es/\seen.contains en.born=false:=by unfold leftOf at hen;rw[Array.toList_filter]at hen;have:=List.mem_filter.1 hen;exact⟨this.1,by simpa using this.2⟩
  obtain⟨j,hj⟩:=List.mem_iff_getElem?.1 hen2.1;have hjl:j<l.length:=by rw[hM.1.length];exact(List.getElem?_eq_some_iff.1 hj).1
  have hp:=List.getElem?_eq_getElem hjl
  have hE:=hM.1.at hp hj
  obtain⟨A,B,hA,hB⟩:=remB_split hp hj hM.2.1 hen2.2;rw[hA]at hrem;have h':eachB [] rem (λe r=>kF h id (.o (.c m e.1 e.2 l r)) λh=>nxT e.1 e.2 λv=>K v h)=some z:=by rw[hrem]at hh⊢;cases A<;>exact hh
  obtain⟨z',hk⟩:=eachB_law h' A B _ hrem;obtain⟨l1,h1,P1,hk⟩:=jS hk (R.zN hd);have RL:=R.low' id;obtain⟨x,hx,hk⟩:=nxT_law hk hE.1 hE.2;have Rw:zq w0 e h w1:=by
   rcases hw1 with rfl | rfl
   ·exact R
   ·exact R.world (Below.refl w.heap.size w).drew
  have hlow:=Rw.low id hd hin
  have hneb:e.blk id≠e.blk m:=λk=>hmi (R.inj m id hm hd hmin hin k.symm)
  have hm1:w1.heap[e.blk m]? = some (.map ⟨es⟩ c):=by rcases hw1 with rfl | rfl<;>exact hb1
  refine⟨_,_,hrun,x,h1,e,z',hk,hx,(Rw.low' id).put P1 hd hin hnh grown_set ⟨hm,by rw[P1.get m (R.zN hm),if_neg hmi];exact hbm,es,c,since,seen,en,⟨by rw[set_ne hneb];exact hm1,set_at hlow.2,hsc⟩,hM,hold,?_,hen2.1,hE⟩ (λm' k=>by cases k;exact hr),(fr_low e h id).trans (RL.frPut P1 hd (.inl l1) (hnt _))⟩;rw[hB];rfl
theorem next_any (R:zq w0 e h w) {id:Nat} (hd:e.dom id) {m:Nat} {l:List (AV×AV)} {K:AV->H->Ev.R} {z:List (AV×H)} (ty:TypeId)
  (hh:(hget h id=.o (.i m l)/\stepB id m l l h K=some z)\/∃ k v rem,hget h id=.o (.c m k v l rem)/\stepB id m l rem h K=some z):∃ q w',(Instr.next (.pointer (some (adr e id 0))) false ty).run Pr w=.ok q w'/\Out w0 e h K q w':=by
 have ok:=R.ok id hd
 rcases hh with ⟨hb,hh⟩ | ⟨k,v,rem,hb,hh⟩
 ·rw[hb]at ok;obtain⟨h1,h2,es,c,hI,hM⟩:=ok;refine stepB_law R hd h1 h2 (by rw[hb];rfl) (by rw[hb];trivial) (by rw[hb];exact λc=>c) (by rw[hb];exact λ_=>trivial) hI hM hM.2.2 (Nat.le_refl _) ?_ hh ty;unfold remB;have:∀ {l:List (AV×AV)} {es:List MapEntry},l.length=es.length->((l.zip es).filter λz=>!(#[]:Array Nat).contains z.2.born).map (·.1)=l:=by intro l es hl;rw[List.filter_eq_self.2 (λz _=>by simp),List.map_fst_zip (by omega)]
  exact(this hM.1.length).symm
 ·rw[hb]at ok;obtain⟨h1,h2,es,c,since,seen,en,hI,hM,hold,hrem,_,_⟩:=ok;exact stepB_law R hd h1 h2 (by rw[hb];rfl) (by rw[hb];trivial) (by rw[hb];exact λc=>c) (by rw[hb];exact λ_=>trivial) hI hM hold hI.2.2 hrem hh ty
theorem put_ex (h:H) {id:Nat} (b:B) (hi:id<32768):∃ h',Put h id b h':=by obtain⟨nxt,lo,ac,t⟩:=h;obtain⟨t',_,h2⟩:=p5_set t b hi;exact⟨⟨nxt,lo,ac,t'⟩,rfl,rfl,rfl,λj hj=>h2 j hj⟩
theorem zq.same (R:zq w0 e h w) {h':H} (hn:h'.nxt=h.nxt) (hg:∀ j,j<32768->hget h' j=hget h j):zq w0 e h' w:=by
 have g:∀ j,e.dom j->hget h' j=hget h j:=λj hj=>hg j (R.zN hj)
 refine⟨R.below,by rw[hn];exact R.top,λj hj=>by rw[hn];exact R.lt j hj,λj hj=>?_,λj hj hi=>R.low j hj (by rw[g j hj]at hi;exact hi),λi j hi hj h1 h2 he=>R.inj i j hi hj (by rw[g i hi]at h1;exact h1) (by rw[g j hj]at h2;exact h2) he,λj hj hl=>?_,λi j m hi hj h1 h2=>R.uniq i j m hi hj (by rw[g i hi]at h1;exact h1) (by rw[g j hj]at h2;exact h2)⟩
 ·rw[g j hj];exact BOk.step hj (.refl e) rfl (λm _ hm hk=>⟨g m hm,rfl⟩) (R.ok j hj)
 ·rw[hg j hj];exact R.none j hj (by rw[hn]at hl;exact hl)
theorem stay_cons (x:(AV×AV)×Bool) (l:List ((AV×AV)×Bool)):stay (x::l)=if x.2=true then x.1::stay l else stay l:=by obtain⟨p,b⟩:=x;cases b<;>rfl
theorem stay_law {e:Env} {seen:Array Nat} : ∀ {l:List ((AV×AV)×Bool)} {es:List MapEntry},zB (DnE e) (l.map (·.1)) es->(∀ en∈qY seen (es.zip (l.map (·.2))),seen.contains en.born=true)->zB (DnE e) (stay l) (qY seen (es.zip (l.map (·.2))))
 | [],[],_,_=>trivial
 | [],_::_,h,_=>h.elim
 | _::_,[],h,_=>h.elim
 | x::l,y::es,h,hs=>by
  simp only[List.map_cons,List.zip_cons_cons,kg]at hs⊢;rw[stay_cons];cases hx:x.2 with
  | true=>
   simp only[hx,Bool.true_or,if_true]at hs⊢;exact⟨h.1,stay_law h.2 λen hen=>hs en (by simp[hen])⟩
  | false=>
   rw[hx]at hs;cases hc:seen.contains y.born with
   | true=>
    simp only[hc,Bool.not_true,Bool.or_self,Bool.false_eq_true,if_false]at hs⊢;exact stay_law h.2 hs
   | false=>simp only[hc,Bool.not_false,Bool.or_true,if_true]at hs;have:=hs y (by simp);rw[hc]at this;cases this
theorem leftOf_mem {es:List MapEntry} {seen:Array Nat} {en:MapEntry} : en∈(leftOf ⟨es⟩ seen).toList↔en∈es/\seen.contains en.born=false:=by unfold leftOf;rw[Array.toList_filter,List.mem_filter];simp
theorem leftOf_none {es:List MapEntry} {seen:Array Nat} (h:(leftOf ⟨es⟩ seen).size=0):∀ en∈es,seen.contains en.born=true:=λen hen=>by
 cases hc:seen.contains en.born with
 | true=>rfl
 | false=>
  have hpos:=List.length_pos_of_mem (leftOf_mem.2 ⟨hen,hc⟩)
  rw[Array.length_toList]at hpos;omega
theorem left_abs {e:Env} {seen:Array Nat} : ∀ {l:List ((AV×AV)×Bool)} {es:List MapEntry},zB (DnE e) (l.map (·.1)) es->∃ lj:List (AV×AV),lj.Sublist (l.map (·.1))/\zB (DnE e) lj (qY seen (es.zip (l.map (·.2))))/\
  ∀ (j:Nat) (p:(AV×AV)×Bool) (en:MapEntry),l[j]? = some p->es[j]? = some en->seen.contains en.born=false->∃ i:Nat,lj[i]? = some p.1
 | [],[],_=>⟨[],.slnil,trivial,λj p en h=>by simp at h⟩
 | [],_::_,h=>h.elim
 | _::_,[],h=>h.elim
 | x::l,y::es,h=>by
  obtain⟨lj,h1,h2,h3⟩:=left_abs (seen:=seen) (l:=l) (es:=es) h.2;simp only[List.map_cons,List.zip_cons_cons,kg];by_cases c:(x.2 || !seen.contains y.born)=true
  ·rw[if_pos c];refine⟨x.1::lj,h1.cons_cons _,⟨h.1,h2⟩,λj p en hp he hs=>?_⟩;cases j with
   | zero=>simp at hp;subst hp;exact⟨0,rfl⟩
   | succ j=>obtain⟨i,hi⟩:=h3 j p en (by simpa using hp) (by simpa using he) hs;exact⟨i+1,by simpa using hi⟩
  ·rw[if_neg c];refine⟨lj,h1.cons _,h2,λj p en hp he hs=>?_⟩;cases j with
   | zero=>
    simp at he;subst he;rw[hs]at c;simp at c
   | succ j=>exact h3 j p en (by simpa using hp) (by simpa using he) hs
theorem Old.push {es:List MapEntry} {since g:Nat} {seen:Array Nat} (h:Old es since seen g) {j:Nat} {en:MapEntry} (hj:es[j]? = some en) (hs:seen.contains en.born=false):Old es since (seen.push en.born) (g+1):=by
 obtain⟨h1,h2,h3,h4⟩:=h;have hn:en.born∉seen.toList:=λk=>by
  have:seen.contains en.born=true:=by simpa using k
  rw[this]at hs;cases hs
 refine⟨h1,?_,λb hb=>?_,by simp[h4]⟩
 ·rw[Array.toList_push,List.nodup_append];exact⟨h2,by simp,λa ha b hb=>by simp at hb;subst hb;exact λk=>hn (k▸ha)⟩
 ·rw[Array.toList_push,List.mem_append]at hb;rcases hb with hb | hb
  ·exact h3 b hb
  ·simp at hb;subst hb;exact List.mem_map_of_mem (List.mem_of_getElem? hj)
theorem next_own (R:zq w0 e h w) {id m q0:Nat} {l:List ((AV×AV)×Bool)} (hd:e.dom id) (hb:hget h id=.o (.j m l q0)) (hw1:h.lo<=id\/h.act id) (hw2:h.lo<=m\/h.act m) {K:AV->H->Ev.R} {z:List (AV×H)}
  (hh:eachJ l (λi e=>jc h id (.o (.k m e.1.1 e.1.2 l e.2 q0 (Nat.beq q0 (Nat.succ i)))) λh=>jc h m (.o (.g e.1.1 false l)) λh=>nxT e.1.1 e.1.2 λv=>K v h) (Bool.rec (motive:=λ_=>Ev.R) (gd (Nat.ble q0 (len l)) (some [])) (jc h id (.o .z) λh=>jc h m (.o (.m (stay l))) λh=>K nxF h) (Nat.beq q0 0)) 0=some z) (ty:TypeId) :
  ∃ q w',(Instr.next (.pointer (some (adr e id 0))) false ty).run Pr w=.ok q w'/\Out w0 e h K q w':=by
 have ok:=R.ok id hd
 rw[hb]at ok;obtain⟨hm,hbm,es,c,since,seen,⟨hb1,hb2,hb3⟩,hM,hold,hdst,hun⟩:=ok;have hr:refM (hget h id)=some m:=by rw[hb];rfl
 have hin:inB (hget h id):=by rw[hb];trivial
 have hnh:¬ hidK (hget h id):=by rw[hb];exact λc=>c
 have hmin:inB (hget h m):=by rw[hbm];trivial
 have hmi:m≠id:=λk=>hnh (by rw[<-k,hbm];trivial)
 have hlen:=hM.1.length
 simp only[List.length_map]at hlen;have hsub:=leftJ_sub (seen:=seen) (es:=es) (ks:=l.map (·.2)) (by simp;omega);obtain⟨hJ,z0,hE⟩:=eachJ_law hh;rcases run_next_at (P:=Pr) w ty (e.blk id) (e.blk m) since c seen ⟨_⟩ c hb2 hb1 (λen hen=>hold.1 en (hsub.subset hen)) hb3 with ⟨h0,hrun⟩ | ⟨en,hen,w1,hw1,hrun⟩
 ·have hall:=leftOf_none h0
  have hx0:Nat.beq q0 0=true:=by
   cases hb0:Nat.beq q0 0 with
   | true=>rfl
   | false=>
    rw[hb0]at hE;have hE':gd (Nat.ble q0 (len l)) (some [])=some z0:=hE;obtain⟨g1,_⟩:=zk hE';rw[qz]at g1;have g2:=Nat.le_of_ble_eq_true g1;have g3:q0≠0:=λk=>by rw[k]at hb0;cases hb0
    have hi:q0-1<es.length:=by omega
    have h1:=List.getElem?_eq_getElem hi
    have h2:=hun (q0-1) _ (by omega) h1
    have h3:es[q0-1]∈qY seen (es.zip (l.map (·.2))):=by unfold qY;refine List.mem_map.2 ⟨(es[q0-1],(l.map (·.2))[q0-1]'(by simp;omega)),List.mem_filter.2 ⟨?_,by simp only[h2];simp⟩,rfl⟩;refine List.mem_iff_getElem?.2 ⟨q0-1,?_⟩;rw[List.getElem?_zip_eq_some];exact⟨h1,List.getElem?_eq_getElem _⟩
    have h4:=hall _ h3
    rw[h2]at h4;cases h4
  rw[hx0]at hE;have hE2:(jc h id (.o .z) λh=>jc h m (.o (.m (stay l))) λh=>K nxF h)=some z0:=hE;obtain⟨h1,P1,hk⟩:=qN hE2 (R.zN hd);obtain⟨h2,P2,hk⟩:=qN hk (R.zN hm);have Ra:zq w0 e h1 w:=R.put P1 hd hin hnh (World.grownBy.refl w _) trivial;have gm:hget h1 m=.o .h:=by rw[P1.get m (R.zN hm),if_neg hmi];exact hbm
  have hM2:MOk e (stay l) (qY seen (es.zip (l.map (·.2)))) c:=⟨stay_law hM.1 hall,(List.Sublist.map _ hsub).nodup hM.2.1,λen hen=>hM.2.2 en (hsub.subset hen)⟩
  exact⟨_,w,hrun,nxF,h2,e,z0,hk,nxF_dn e,R.over hd hr hin hnh P1 P2 hb1 hM2,(R.frPut P1 hd hw1 (by rw[hb];exact .inl rfl)).trans (Ra.frPut P2 hm (by unfold H.act at hw2⊢;rw[P1.lo,P1.ac];exact hw2) (by rw[gm];trivial))⟩
 ·obtain⟨hen1,hen2⟩:=leftOf_mem.1 hen;obtain⟨j,hj⟩:=List.mem_iff_getElem?.1 (hsub.subset hen1);have hjl:j<l.length:=by rw[hlen];exact(List.getElem?_eq_some_iff.1 hj).1
  have hp:=List.getElem?_eq_getElem hjl
  have hEn:DnE e (l[j]).1 en:=hM.1.at (by rw[List.getElem?_map,hp];rfl) hj
  obtain⟨z',hk⟩:=hJ j _ hp;rw[Nat.zero_add]at hk;obtain⟨h1,P1,hk⟩:=qN hk (R.zN hd);obtain⟨h2,P2,hk⟩:=qN hk (R.zN hm);obtain⟨x,hx,hk⟩:=nxT_law hk hEn.1 hEn.2;have Rw:zq w0 e h w1:=by
   rcases hw1 with rfl | rfl
   ·exact R
   ·exact R.world (Below.refl w.heap.size w).drew
  have hlow:=Rw.low id hd hin
  have hneb:e.blk id≠e.blk m:=λk=>hmi (R.inj m id hm hd hmin hin k.symm)
  have hm1:w1.heap[e.blk m]? = some (.map ⟨qY seen (es.zip (l.map (·.2)))⟩ c):=by rcases hw1 with rfl | rfl<;>exact hb1
  obtain⟨ha,Pa⟩:=put_ex h (.o .z) (R.zN hd);have Ra:zq w0 e ha (Go.ChangeMaps.setBlock w1 (e.blk id) (.mapIter (some (e.blk m)) since (seen.push en.born) c)):=Rw.put Pa hd hin hnh grown_set trivial;have hma:(Go.ChangeMaps.setBlock w1 (e.blk id) (.mapIter (some (e.blk m)) since (seen.push en.born) c)).heap[e.blk m]? = some (.map ⟨qY seen (es.zip (l.map (·.2)))⟩ c):=by rw[set_ne hneb];exact hm1
  have none_a:∀ j,e.dom j->refM (hget ha j)≠some m:=λj hj hjr=>by
   rw[Pa.get j (R.zN hj)]at hjr;by_cases cj:j=id
   ·rw[if_pos cj]at hjr;cases hjr
   ·rw[if_neg cj]at hjr;exact cj (R.uniq j id m hj hd hjr hr)
  obtain⟨lj,s1,s2,s3⟩:=left_abs (seen:=seen) hM.1;have hMj:MOk e lj (qY seen (es.zip (l.map (·.2)))) c:=⟨s2,(List.Sublist.map _ hsub).nodup hM.2.1,λen hen=>hM.2.2 en (hsub.subset hen)⟩;obtain⟨hc,Pb⟩:=put_ex ha (.o (.g (l[j]).1.1 false l)) (R.zN hm);have gma:hget ha m=.o .h:=by rw[Pa.get m (R.zN hm),if_neg hmi];exact hbm
  have Rb:=Ra.putR Pb hm (by rw[gma];trivial) (λj hj _ hjr=>absurd hjr (none_a j hj)) (World.grownBy.refl _ _) ⟨lj,_,c,hma,hMj,dstK_sub s1 hdst,⟨s1,es,hM.1⟩,λ_=>by obtain⟨i,hi⟩:=s3 j _ en hp hj hen2;exact⟨i,_,hi,rfl⟩⟩ (λm k=>by cases k)
  have hcur:Nat.beq q0 (Nat.succ j)=false->UnS q0 es (seen.push en.born):=λhf i en' hx he=>by
   have hne:i≠j:=λk=>by subst k;rw[hx]at hf;simp[Nat.beq_refl]at hf
   have h1:=hun i en' hx he
   have h2:en'.born≠en.born:=λk=>by
    have hi:=(List.getElem?_eq_some_iff.1 he).1
    have hjj:=(List.getElem?_eq_some_iff.1 hj).1
    have nd:=List.pairwise_iff_getElem.1 hM.2.1
    have e1:(es.map (·.born))[i]'(by simpa using hi)=en.born:=by rw[List.getElem_map,(List.getElem?_eq_some_iff.1 he).2];exact k
    have e2:(es.map (·.born))[j]'(by simpa using hjj)=en.born:=by rw[List.getElem_map,(List.getElem?_eq_some_iff.1 hj).2]
    rcases Nat.lt_or_gt_of_ne hne with c | c
    ·exact nd i j (by simpa using hi) (by simpa using hjj) c (e1.trans e2.symm)
    ·exact nd j i (by simpa using hjj) (by simpa using hi) c (e2.trans e1.symm)
   rw[Array.contains_push,h1];simp[h2]
  obtain⟨hf,Pc⟩:=put_ex hc (.o (.k m (l[j]).1.1 (l[j]).1.2 l (l[j]).2 q0 (Nat.beq q0 (Nat.succ j)))) (R.zN hd);have gid:hget hc id=.o .z:=by rw[Pb.get id (R.zN hd),if_neg (λk=>hmi k.symm),Pa.get id (R.zN hd),if_pos rfl]
  have none_b:∀ j,e.dom j->refM (hget hc j)≠some m:=λj hj hjr=>by
   rw[Pb.get j (R.zN hj)]at hjr;by_cases cj:j=m
   ·rw[if_pos cj]at hjr;cases hjr
   ·rw[if_neg cj]at hjr;exact none_a j hj hjr
  have hnid:∀ j,e.dom j->refM (hget hc j)≠some id:=λj hj hjr=>by
   have:=(Rb.refs hj hjr).2
   rw[gid]at this;exact this
  have Rc:=Rb.putR Pc hd (by rw[gid];trivial) (λj hj _ hjr=>absurd hjr (hnid j hj)) (World.grownBy.refl _ _) ⟨hm,false,l,by rw[Pc.get m (R.zN hm),if_neg hmi,Pb.get m (R.zN hm),if_pos rfl],es,c,since,seen,j,en,hj,hp,⟨by rw[hma];exact congrArg (λL=>some (Obj.map ⟨L⟩ c)) (leftJ_step (ks:=l.map (·.2)) hj (by simpa using hjl) hM.2.1 hen2).symm,set_at hlow.2,hb3⟩,hM,hold.push hj hen2,hdst,hcur⟩ (λm' k j' hj' hne=>by cases k;exact none_b j' hj')
  have top:=R.top
  have g:∀ j,j<32768->j≠id->j≠m->hget h2 j=hget h j:=λj hj c1 c2=>by rw[P2.get j hj,if_neg c2,P1.get j hj,if_neg c1]
  refine⟨_,_,hrun,x,h2,e,z',hk,hx,Rc.same (by rw[P2.nxt,P1.nxt,Pc.nxt,Pb.nxt,Pa.nxt]) (λj hj=>?_),⟨.refl e,by rw[P2.nxt,P1.nxt];exact Nat.le_refl _,Nat.le_of_eq (by rw[P2.lo,P1.lo]),by rw[P2.ac,P1.ac],λj hj=>.inl hj,λj hj hnd=>?_,λj hn hl hrw=>?_,λj hn=>?_⟩⟩
  ·rw[P2.get j hj,P1.get j hj,Pc.get j hj,Pb.get j hj,Pa.get j hj];by_cases c1:j=id
   ·have c2:j≠m:=λk=>hmi (by rw[<-k,c1])
    rw[if_neg c2,if_pos c1,if_pos c1]
   ·by_cases c2:j=m
    ·rw[if_pos c2,if_neg c1,if_pos c2]
    ·rw[if_neg c2,if_neg c1,if_neg c1,if_neg c2,if_neg c1]
  ·exact g j (by omega) (λk=>hnd (by rw[k];exact hd)) (λk=>hnd (by rw[k];exact hm))
  ·have l2:h2.lo=h.lo:=by rw[P2.lo,P1.lo]
   exact g j (by omega) (λk=>by subst k;exact hrw (hw1.resolve_left (by omega))) (λk=>by subst k;exact hrw (hw2.resolve_left (by omega)))
  ·by_cases c1:j=id
   ·subst c1;rw[hb,P2.get j (by omega),if_neg (λk=>hmi k.symm),P1.get j (by omega),if_pos rfl];exact .inr (.inr ⟨_,_,_,_,rfl⟩)
   ·by_cases c2:j=m
    ·rw[c2,hbm];trivial
    ·rw[g j (by omega) c1 c2];exact .refl _
end
def nxW (r:Result Next) (P:Value->World->Prop):Prop:=match r with
 | .ok (.value v) w'=>P v w'
 | .ok .skip w'=>P undef w'
 | .ok (.enter f args) w'=>Calls Pr f args w' λe w''=>∃ v,e=.returned v/\P v w''
 | .ok (.round l f tmps assign body) w'=>RoundIn (FW none) 0 Pr l f tmps assign body w' λe w''=>∃ v,e=.returned v/\P v w''
 | _=>False
theorem nxW_op {o:Oper} {a:Act} {w:World} {P:Value->World->Prop} (h:nxW ((execOp a.eval o).run Pr w) P):opW Pr o a w λa' w'=>∃ v,a'=a.put o.dst v/\P v w':=by
 unfold nxW at h;unfold opW;generalize (execOp a.eval o).run Pr w=r at *;cases r with
 | ok x w'=>
  cases x<;>simp only at h⊢<;>first
   | exact⟨_,rfl,h⟩
   | exact Calls.mono h (λe w'' he=>by obtain⟨v,rfl,hv⟩:=he;exact⟨v,rfl,hv⟩)
   | exact RoundIn.mono h (λe w'' he=>by obtain⟨v,rfl,hv⟩:=he;exact⟨v,rfl,hv⟩)
   | exact h.elim
 | halt x w'=>exact h.elim
theorem nx_v {r:Result Next} {q:Value} {w':World} {P:Value->World->Prop} (h:r=.ok (.value q) w') (hp:P q w'):nxW r P:=by subst h;exact hp
theorem nx_u {r:Result Next} {w':World} {P:Value->World->Prop} (h:r=.ok .skip w') (hp:P undef w'):nxW r P:=by subst h;exact hp
section
variable {w0:World} {ih:IH} {e:Env} {h:H} {w:World}
theorem OutU.out {K:KV} {w':World} (h1:OutU w0 e h (λh=>K .n h) w'):Out w0 e h K undef w':=by obtain⟨h',e',z',a,b,c⟩:=h1;exact⟨.n,h',e',z',a,rfl,b,c⟩
theorem OutU.outT {K:KV} {w':World} (h1:OutU w0 e h (λh=>K (.t []) h) w'):Out w0 e h K (.tuple #[]) w':=by obtain⟨h',e',z',a,b,c⟩:=h1;exact⟨.t [],h',e',z',a,⟨[],rfl,trivial⟩,b,c⟩
theorem next_law (R:zq w0 e h w) {x:AV} {u:Value} {K:KV} {z:List (AV×H)} (hh:nextE x h K=some z) (hx:Dn e x u) (ty:TypeId):∃ q w',(Instr.next u false ty).run Pr w=.ok q w'/\Out w0 e h K q w':=by
 obtain⟨id,off,rfl,hh⟩:=qW hh;obtain⟨g1,hh⟩:=zk hh;have:=Nat.eq_of_beq_eq_true g1;subst this;obtain⟨b,hb,hh⟩:=qJ hh;obtain⟨hd,rfl⟩:=hx;have ok:=R.ok id hd;rw[hb]at ok;cases b with
 | i m l=>exact next_any R hd (m:=m) (l:=l) ty (.inl ⟨hb,hh⟩)
 | b m l rem=>exact ok.elim
 | c m k v l rem=>exact next_any R hd (m:=m) (l:=l) ty (.inr ⟨k,v,rem,hb,hh⟩)
 | j m l x=>
  obtain⟨g2,hh⟩:=zk hh;simp only[Bool.and_eq_true]at g2;exact next_own R hd hb (okW_law g2.1) (okW_law g2.2) hh ty
 | q m k v=>exact ok.elim
 | _=>cases hh
def FnOk (w0:World) (ih:IH):Prop:=∀ {f:FuncId} {e:Env} {h:H} {K:KV} {z:List (AV×H)} {args:List AV} {us:List Value} {w:World},(fncE f).g ih args h K=some z->zB (Dn e) args us->zq w0 e h w->
 zi Pr f/\Calls Pr f ⟨us⟩ w λen w'=>∃ v,en=.returned v/\Out w0 e h K v w'
def YdOk (w0:World) (ih:IH):Prop:=∀ {id:Nat} {e:Env} {h:H} {K:KV} {z:List (AV×H)} {args:List AV} {us:List Value} {w:World} {ps:List Nat} {a b:Code} {t:L3},hget h id=.o (.l ps a b t)->rndE ps a b t ih id args h K=some z->e.dom id->zB (Dn e) args us->zq w0 e h w->
 ∃ f tmps assign body,(Instr.yield (e.blk id) ⟨us⟩).run Pr w=.ok (.round (e.blk id) f tmps assign body) w/\RoundIn (FW none) 0 Pr (e.blk id) f tmps assign body w λen w'=>∃ v,en=.returned v/\Out w0 e h K v w'
theorem call_nx {f:FuncId} {us:List Value} {fs cs:Array Value} {w:World} {P:Value->World->Prop} (h1:zi Pr f) (h2:Calls Pr f (fs++⟨us⟩++cs) w λen w'=>∃ v,en=.returned v/\P v w') :
  nxW ((do let d <-Deferred.ofValue (.func (.func f) fs cs) ⟨us⟩;invoke d.target d.args:Sem Next).run Pr w) P:=by
 simp only[Deferred.ofValue,Sem.run_bind,Sem.run_pure,Result.andThen_ok,invoke];rw[h1];exact h2
theorem cv_law (FO:FnOk w0 ih) (R:zq w0 e h w) {v:Value} {args:List AV} {us:List Value} {K:KV} {z:List (AV×H)} (hh:cvE v ih args h K=some z) (ha:zB (Dn e) args us) :
  nxW ((do let d <-Deferred.ofValue v ⟨us⟩;invoke d.target d.args:Sem Next).run Pr w) (Out w0 e h K):=by
 unfold cvE at hh;split at hh
 ·rename_i f fs cs;obtain⟨g1,hh⟩:=zk hh;have g2:=Nat.eq_of_beq_eq_true g1;obtain rfl:fs=#[]:=Array.eq_empty_of_size_eq_zero (by omega);obtain rfl:cs=#[]:=Array.eq_empty_of_size_eq_zero (by omega);obtain⟨h1,h2⟩:=FO hh ha R;exact call_nx h1 (by simpa using h2)
 ·cases hh
theorem callV_law (FO:FnOk w0 ih) (YO:YdOk w0 ih) (R:zq w0 e h w) {x:AV} {v:Value} {args:List AV} {us:List Value} {K:KV} {z:List (AV×H)} (hh:callV x ih args h K=some z) (hx:Dn e x v) (ha:zB (Dn e) args us) :
  nxW ((do let d <-Deferred.ofValue v ⟨us⟩;invoke d.target d.args:Sem Next).run Pr w) (Out w0 e h K):=by
 obtain⟨x,rfl,hh⟩:=qj hh;have hx':DnO e x v:=hx;cases x with
 | f id=>
  obtain⟨b,hb,hh⟩:=qJ (K:=λb=>(match b with | .f f fs cs=>(fncE f).g ih (app fs (app args cs)) h K | _=>none)) hh;obtain⟨hd,rfl,_⟩:=hx';have ok:=R.ok id hd;rw[hb]at ok;cases b with
  | f fn fs cs=>
   obtain⟨us1,us2,k1,k2,k3⟩:=ok;rw[k1];simp only[jJ]at hh;obtain⟨h1,h2⟩:=FO hh (k2.append (ha.append k3)) R;exact call_nx h1 (by simpa using h2)
  | _=>cases hh
 | y id=>
  obtain⟨b,hb,hh⟩:=qJ (K:=λb=>(match b with | .l ps a b t=>rndE ps a b t ih id args h K | _=>none)) hh;obtain⟨hd,rfl⟩:=hx';cases b with
  | l ps a b t=>
   obtain⟨f,tmps,assign,body,h1,h2⟩:=YO hb hh hd ha R;simp only[Deferred.ofValue,Sem.run_bind,Sem.run_pure,Result.andThen_ok,invoke,Array.empty_append];rw[h1];exact h2
  | _=>cases hh
 | c u=>
  obtain⟨rfl,_⟩:=hx';exact cv_law FO R hh ha
 | _=>cases hh
theorem blt_w {b:Builtin} {ts:List TypeId} {l:List Operand} {g:IH->L3->H->KV->Ev.R} (hk:bltE b ts l=.w g) {τ:L3} {K:KV} {z:List (AV×H)} (hg:g ih τ h K=some z) (R:zq w0 e h w) {us:List Value} (hl:zB (Dn e) (l.map λo=>(evO o).v τ) us) (ty:TypeId) (cs:Array Bool) :
  nxW ((builtin b ⟨ts⟩ ty cs ⟨us⟩).run Pr w) (Out w0 e h K):=by
 cases b with
 | append=>
  cases ts with
  | nil=>cases(show OK.z=.w g from hk)
  | cons X ts=>
   cases ts with
   | nil=>cases(show OK.z=.w g from hk)
   | cons Y ts=>
    cases(show OK.w (λ_ τ h K=>evL l τ λus=>jW us λx y=>(apdE X Y).g x y h K)=.w g from hk);obtain⟨x,y,hxy,h'⟩:=jL (qV (K:=λus=>jW us λx y=>(apdE X Y).g x y h K) hg);rw[hxy]at hl
    match us,hl with
    | [u,v],hl=>
     obtain⟨q,w',h1,h2⟩:=apd_law R h' hl.1 hl.2.1 ts ty;exact nx_v (jB h1) h2
    | [],hl=>exact hl.elim
    | [_],hl=>exact hl.2.elim
    | _::_::_::_,hl=>exact hl.2.2.elim
 | copy=>
  cases ts with
  | nil=>cases(show OK.z=.w g from hk)
  | cons X ts=>
   cases(show OK.w (λ_ τ h K=>evL l τ λus=>jW us λx y=>copyE X x y h K)=.w g from hk);obtain⟨x,y,hxy,h'⟩:=jL (qV (K:=λus=>jW us λx y=>copyE X x y h K) hg);rw[hxy]at hl
   match us,hl with
   | [u,v],hl=>
    obtain⟨q,w',h1,h2⟩:=copy_law R h' hl.1 hl.2.1 ts ty;exact nx_v (jB h1) h2
   | [],hl=>exact hl.elim
   | [_],hl=>exact hl.2.elim
   | _::_::_::_,hl=>exact hl.2.2.elim
 | clear=>
  cases ts with
  | nil=>cases(show OK.z=.w g from hk)
  | cons X ts=>
   cases(show OK.w (λ_ τ h K=>evL l τ λus=>jv us λx=>asO x λx=>clO x X h K)=.w g from hk);obtain⟨x,hxy,h'⟩:=jm (qV (K:=λus=>jv us λx=>asO x λx=>clO x X h K) hg);rw[hxy]at hl
   match us,hl with
   | [u],hl=>
    obtain⟨q,w',h1,h2⟩:=clear_law R h' hl.1 ts ty;exact nx_v (jB h1) h2
   | [],hl=>exact hl.elim
   | _::_::_,hl=>exact hl.2.elim
 | delete=>
  cases ts with
  | nil=>cases(show OK.z=.w g from hk)
  | cons X ts=>
   cases(show OK.w (λ_ τ h K=>evL l τ λus=>jW us λx y=>delE X x y h λh=>K (.t []) h)=.w g from hk);obtain⟨x,y,hxy,h'⟩:=jL (qV (K:=λus=>jW us λx y=>delE X x y h λh=>K (.t []) h) hg);rw[hxy]at hl
   match us,hl with
   | [u,v],hl=>
    obtain⟨w',h1,h2⟩:=del_law R h' hl.1 hl.2.1 ts ty;exact nx_v (jB h1) h2.outT
   | [],hl=>exact hl.elim
   | [_],hl=>exact hl.2.elim
   | _::_::_::_,hl=>exact hl.2.2.elim
 | len=>
  cases ts with
  | nil=>cases(show OK.z=.w g from hk)
  | cons T ts=>
   have hk':lenK T l=.w g:=hk
   unfold lenK at hk';split at hk'<;>cases hk'
 | cap=>
  cases ts with
  | nil=>cases(show OK.z=.w g from hk)
  | cons T ts=>
   have hk':(bif sliceT T then OK.p (λτ=>evL l τ λus=>jv us λx=>asO x λx=>cpO x)else .z)=.w g:=hk
   cases hT:sliceT T<;>rw[hT]at hk'<;>cases hk'
 | _=>cases(show(_:OK)=.w g from hk)
end
theorem w_ok {w0:World} {ih:IH} (FO:FnOk w0 ih) (YO:YdOk w0 ih):WOk w0 ih:=by
 intro O g hk e τ h K z a w hh ho R;apply nxW_op;obtain⟨dst,op,ty,pos,after,guard⟩:=O;have hk:opK op=.w g:=hk;have ho:Ops e τ a op:=ho;cases op with
 | assign y=>
  cases(show OK.w (λ_ τ h K=>frc ((evO y).v τ) λv=>K v h)=.w g from hk);have hh':frc ((evO y).v τ) (λv=>K v h)=some z:=hh;rw[kR]at hh';exact nx_v (q:=a.eval y) (w':=w) rfl ⟨_,h,e,z,hh',ho y (by simp[Op.operands]),R,.refl e h⟩
 | insert X m k v=>
  cases(show OK.w (λ_ τ h K=>frc ((evO k).v τ) λk=>frc ((evO v).v τ) λv=>updE X ((evO m).v τ) k v h λh=>K .n h)=.w g from hk);have hh':frc ((evO k).v τ) (λk=>frc ((evO v).v τ) λv=>updE X ((evO m).v τ) k v h λh=>K .n h)=some z:=hh;rw[kR,kR]at hh';obtain⟨w',h1,h2⟩:=upd_law R hh' (ho m (by simp[Op.operands])) (ho k (by simp[Op.operands])) (ho v (by simp[Op.operands]));exact nx_u (run_u h1) h2.out
 | mapUpdate X m k v=>
  cases(show OK.w (λ_ τ h K=>frc ((evO k).v τ) λk=>frc ((evO v).v τ) λv=>updE X ((evO m).v τ) k v h λh=>K .n h)=.w g from hk);have hh':frc ((evO k).v τ) (λk=>frc ((evO v).v τ) λv=>updE X ((evO m).v τ) k v h λh=>K .n h)=some z:=hh;rw[kR,kR]at hh';obtain⟨w',h1,h2⟩:=upd_law R hh' (ho m (by simp[Op.operands])) (ho k (by simp[Op.operands])) (ho v (by simp[Op.operands]));exact nx_u (run_u h1) h2.out
 | store T x y=>
  cases(show OK.w (λ_ τ h K=>(storeE T).g ((evO x).v τ) ((evO y).v τ) h λh=>K .n h)=.w g from hk);obtain⟨w',h1,h2⟩:=store_law (K:=λh=>K .n h) R hh (ho x (by simp[Op.operands])) (ho y (by simp[Op.operands]));exact nx_u (run_u h1) h2.out
 | range X x=>
  cases(show OK.w (λ_ τ h K=>gd (isMp X) (rangeE ((evO x).v τ) h K))=.w g from hk);obtain⟨q,w',h1,h2⟩:=range_law R hh (ho x (by simp[Op.operands]));exact nx_v (jB h1) h2
 | next x s=>
  cases s with
  | true=>cases(show OK.z=.w g from hk)
  | false=>
   cases(show OK.w (λ_ τ h K=>nextE ((evO x).v τ) h K)=.w g from hk);obtain⟨q,w',h1,h2⟩:=next_law R hh (ho x (by simp[Op.operands])) ty;exact nx_v (jB h1) h2
 | call c=>
  obtain⟨cal,⟨l⟩,⟨ts⟩⟩:=c;have hk':calE cal ts l=.w g:=hk;have hl:zB (Dn e) (l.map λo=>(evO o).v τ) (l.map a.eval):=evL_all λo h=>ho o (by simp[Op.operands,Call.operands,h]);have e1:((⟨l⟩:Array Operand).map a.eval)=⟨l.map a.eval⟩:=by apply Array.ext';simp
  cases cal with
  | builtin b=>
   have:=blt_w (ih:=ih) (h:=h) (w:=w) (w0:=w0) (show bltE b ts l=.w g from hk') hh R hl ty ((⟨l⟩:Array Operand).map λ| .const _=>true | _=>false)
   simp only[execOp,resolve,invoke,Sem.run_bind,Sem.run_pure,Result.andThen_ok];rw[e1];exact this
  | invoke r nm=>cases(show OK.z=.w g from hk')
  | value f=>
   have key:nxW ((do let d <-Deferred.ofValue (a.eval f) ⟨l.map a.eval⟩;invoke d.target d.args:Sem Next).run Pr w) (Out w0 e h K):=by
    cases f with
    | tmp t=>
     cases(show OK.w (λih τ h K=>evL l τ λargs=>callV ((q3 t).g τ) ih args h K)=.w g from hk');exact callV_law FO YO R (qV (K:=λargs=>callV ((q3 t).g τ) ih args h K) hh) (ho (.tmp t) (by simp[Op.operands,Call.operands])) hl
    | const v=>
     cases(show OK.w (λih τ h K=>evL l τ λargs=>cvE v ih args h K)=.w g from hk');exact cv_law FO R (qV (K:=λargs=>cvE v ih args h K) hh) hl
    | func f=>
     cases(show OK.w (λih τ h K=>evL l τ λargs=>(fncE f).g ih args h K)=.w g from hk');obtain⟨h1,h2⟩:=FO (qV (K:=λargs=>(fncE f).g ih args h K) hh) hl R;exact call_nx (fs:=#[]) (cs:=#[]) h1 (by simpa using h2)
    | global g'=>cases(show OK.z=.w g from hk')
   simp only[execOp,resolve];rw[e1];exact key
 | makeFunc fn fs cs=>
  have hk':mkfE fn fs.toList cs.toList=.w g:=hk
  unfold mkfE at hk';split at hk'<;>cases hk'
 | makeMap T r=>cases r<;>cases(show(_:OK)=.w g from hk)
 | _=>cases(show(_:OK)=.w g from hk)
/-! ### Code -/
theorem prMO:Pr.follows .mixedOrders=true:=by unfold Pr;kernel_rfl
def Dfs (N:Nat) (e:Env) (h:H) (ds:List Deferred):Prop:=N<=h.nxt/\∃ ids:List Nat,ds=ids.map (λi=>mkD (e.blk i))/\ids.Nodup/\∀ i∈ids,N<=i/\e.dom i/\hget h i=.o .t/\e.gh i=0
def RoOk (e:Env) (h:H) (ro:Option Nat):Prop:=∀ l,ro=some l->∃ id bz ps a b t,e.dom id/\e.blk id=l/\hget h id=.o (.v bz ps a b t)
def exE (x:Ex):Exit:=match x with
 | .n=>.normal
 | .x i=>.exit i
 | .r=>.ret
def OutC (w0:World) (n N:Nat) (e:Env) (h:H) (τ:L3) (ws:List Nat) (ds:List Deferred) (K:KC) (ex:Exit) (a':Act) (w':World):Prop:=
 ∃ x e' τ' h' z',ex=exE x/\K x τ' h'=some z'/\qF e' n noZ τ' a'.tmps/\zq w0 e' h' w'/\Fr e h e' h'/\Dfs N e' h' a'.defers/\(1000∉ws->a'.defers=ds)/\∀ t,t<512->t∉ws->(q3 t).g τ'=(q3 t).g τ
def CS (w0:World) (ro:Option Nat) (n N:Nat) (g:L3->H->KC->R) (ws:List Nat) (c:Code):Prop:=∀ {e:Env} {τ:L3} {h:H} {K:KC} {z:List (AV×H)} {a:Act} {w:World} {Q:Exit->Act->World->Prop},
 g τ h K=some z->qF e n noZ τ a.tmps->zq w0 e h w->Dfs N e h a.defers->RoOk e h ro->(∀ ex a' w',OutC w0 n N e h τ ws a.defers K ex a' w'->Q ex a' w')->c.wpIn (FW ro) 0 Pr Q a w
section
variable {w0:World} {e e':Env} {h h':H} {w:World} {n N:Nat} {ro:Option Nat}
theorem Dfs.keep {ds:List Deferred} (D:Dfs N e h ds) (F:Fr e h e' h') (R:zq w0 e h w):Dfs N e' h' ds:=by
 obtain⟨h0,ids,h1,h2,h3⟩:=D;refine⟨Nat.le_trans h0 F.nxt,ids,?_,h2,λi hi=>?_⟩
 ·rw[h1];refine List.map_congr_left λi hi=>?_;rw[F.ext.blk i (h3 i hi).2.1]
 ·obtain⟨k1,k2,k3,k4⟩:=h3 i hi;exact⟨k1,F.ext.dom i k2,by rw[F.mark i (R.lt i k2) (by rw[k3];trivial)];exact k3,by rw[F.ext.gh i k2];exact k4⟩
theorem RoOk.keep (D:RoOk e h ro) (F:Fr e h e' h') (R:zq w0 e h w):RoOk e' h' ro:=λl hl=>by obtain⟨id,bz,ps,a,b,t,h1,h2,h3⟩:=D l hl;exact⟨id,bz,ps,a,b,t,F.ext.dom _ h1,(F.ext.blk _ h1).trans h2,by rw[F.mark id (R.lt id h1) (by rw[h3];trivial)];exact h3⟩
theorem OutC.trans {τ τ':L3} {ws ws':List Nat} {ds ds':List Deferred} {K:KC} {ex:Exit} {a':Act} {w':World} (F:Fr e h e' h') (hs:∀ t,t<512->t∉ws->(q3 t).g τ'=(q3 t).g τ) (hw:∀ t,t∈ws'->t∈ws) (hds:1000∉ws->ds'=ds) (o:OutC w0 n N e' h' τ' ws' ds' K ex a' w'):OutC w0 n N e h τ ws ds K ex a' w':=by obtain⟨x,e2,τ2,h2,z2,j1,j2,j3,j4,j5,j6,j8,j7⟩:=o;exact⟨x,e2,τ2,h2,z2,j1,j2,j3,j4,F.trans j5,j6,λhn=>(j8 λk=>hn (hw _ k)).trans (hds hn),λt ht hn=>(j7 t ht λk=>hn (hw t k)).trans (hs t ht hn)⟩
theorem OutR.outC {τ:L3} {ds:List Deferred} {ws:Nat->Prop} {wl:List Nat} {K:KC} {a':Act} {w':World} (o:OutR w0 n e h τ ds ws (λτ h=>K .n τ h) a' w') (hw:∀ t,ws t->t∈wl) (D:Dfs N e h ds) (R:zq w0 e h w):OutC w0 n N e h τ wl ds K .normal a' w':=by obtain⟨e',τ',h',z',j1,j2,j3,j4,j5,j6⟩:=o;exact⟨.n,e',τ',h',z',rfl,j1,j2,j3,j4,by rw[j5];exact D.keep j4 R,λ_=>j5,λt ht hn=>j6 t ht λk=>hn (hw t k)⟩
theorem ordE_len {l:List Rw} : ∀ (n m:Nat),(ordE l n m).length<=n
 | 0,m=>Nat.le_refl _
 | n+1,m=>by
  unfold ordE;cases pick1 l m with
  | some r=>simpa using ordE_len n _
  | none=>
   cases pick2 l m with
   | some r=>simpa using ordE_len n _
   | none=>simp
theorem wro_cons (x:Oper) (l:List Oper):wro (x::l)=Option.rec (motive:=λ_=>List Nat) (wro l) (λd=>d::wro l) x.dst:=rfl
theorem wro_mem {o:Oper} {t:Nat} (l:List Oper) (ho:o∈l) (hd:o.dst=some t):t∈wro l:=by
 induction l with
 | nil=>cases ho
 | cons x l ih=>
  rw[wro_cons];rcases List.mem_cons.1 ho with h1 | h1
  ·rw[<-h1,hd];simp
  ·have:=ih h1
   cases x.dst with
   | none=>exact this
   | some d=>exact List.mem_cons_of_mem _ this
theorem okC_nd {n:Nat} {ops:Array Oper} (hok:∀ o∈ops.toList,okP n ops o=true):Ndr ops=true:=
 Array.all_eq_true_iff_forall_mem.2 λo ho=>(kH (hok o (by simpa using ho))).2.2
theorem region_law {ih:IH} (W:WOk w0 ih) {id:Nat} {ops:Array Oper} {dr:Bool} (hok:∀ o∈ops.toList,okP n ops o=true):CS w0 ro n N (λτ h K=>(regE ops dr).g ih τ h λτ h=>K .n τ h) (wro ops.toList) (.region id ops dr):=by
 intro e τ h K z a w Q hh F R D Ro hQ;cases dr with
 | false=>
  refine wpIn_region ?_;rw[List.range_eq_range'];have:=text_law (ro:=ro) (Q:=Q) W hok (K:=λτ h=>K .n τ h) ops.toList 0 (τ:=τ) (h:=h) (z:=z) (e:=e) (a:=a) (w:=w) (λj o hj=>by simpa using hj) hh F R λa' w' o=>hQ _ _ _ (o.outC (λt ht=>ht) D R);simpa using this
 | true=>
  have hh':(Bool.rec (motive:=λ_=>Re) (.mk λ_ _ _ _=>none) (runP ops.toList (planE ops) []) (((List.range ops.size).all λi=>(planE ops).any λr=>Nat.beq r.i i) && okPlan (planE ops) 0):Re).g ih τ h (λτ h=>K .n τ h)=some z:=hh
  cases hc:(((List.range ops.size).all λi=>(planE ops).any λr=>Nat.beq r.i i) && okPlan (planE ops) 0)with
  | false=>rw[hc]at hh';cases hh'
  | true=>
   rw[hc]at hh';simp only[Bool.and_eq_true]at hc;have rowOk:=plan_ok ops;obtain⟨p1,p2,p3,p4⟩:=okPlan_law rowOk hc.2;have P:jQ ops n (planE ops):=⟨rowOk,λi hi=>by
    have:=List.all_eq_true.1 hc.1 i (List.mem_range.2 hi)
    obtain⟨r,hr,hri⟩:=List.any_eq_true.1 this;exact⟨r,hr,Nat.eq_of_beq_eq_true hri⟩,p1,p2,p3,λpre post r he j hj=>by
    rcases p4 pre post r he j hj with k | k
    ·simp at k
    ·exact k,hok⟩;have R':zq w0 e h w.drew:=R.world (Below.refl w.heap.size w).drew;refine wpIn_region_any prMO (anyW_sound (okC_nd hok) _ _ _ _ ?_);refine RS.any (w0:=w0) (ih:=ih) (K:=λτ h=>K .n τ h) (e0:=e) (h0:=h) (τ0:=τ) (ds:=a.defers) (Qn:=Q .normal) P W (λa' w' o=>hQ _ _ _ (o.outC (λt ht=>?_) D R)) ops.size (pre:=[]) (rest:=planE ops) (Z:=[]) (listed:=Array.replicate ops.size false) (e:=e) (τ:=τ) (h:=h) (z:=z) (a:=a) (w:=w.drew) ?_ ?_
   ·obtain⟨r,hr,hd⟩:=ht;exact wro_mem _ (Array.mem_toList_iff.2 (Array.mem_of_getElem? (rowOk r hr).at_)) hd
   ·refine⟨rfl,λr hr=>(by cases hr),λr hr=>?_,by simp,λj o hj=>?_,hh',⟨F.1,F.2.1,λt v hv _=>F.2.2 t v hv (λk=>k)⟩,R',.refl e h,rfl,λ_ _ _=>rfl,λ_=>0,λr hr=>(by cases hr),λr hr=>(by cases hr)⟩
    ·constructor
     ·intro k;simp[Array.getElem?_replicate]at k;split at k<;>simp at k
     ·rintro⟨k,_⟩;cases k
    ·simp[Array.getElem?_replicate]at hj;split at hj<;>simp at hj
   ·unfold unlN;exact Nat.le_trans (List.length_filter_le _ _) (ordE_len _ _)
end
section
variable {w0:World} {ih:IH} {ro:Option Nat} {n N:Nat} {ga gb:L3->H->KC->Ev.R} {wa wb:List Nat} {c d:Code}
theorem skip_law:CS w0 ro n N (λτ h K=>K .n τ h) [] .skip:=λ {e τ h K z a w Q} hh F R D Ro hQ=>wpIn_skip (hQ _ _ _ ⟨.n,e,τ,h,z,rfl,hh,F,R,.refl e h,D,λ_=>rfl,λ_ _ _=>rfl⟩)
theorem label_law {l:Nat} : CS w0 ro n N (λτ h K=>K .n τ h) [] (.label l):=λ {e τ h K z a w Q} hh F R D Ro hQ=>wpIn_label (hQ _ _ _ ⟨.n,e,τ,h,z,rfl,hh,F,R,.refl e h,D,λ_=>rfl,λ_ _ _=>rfl⟩)
theorem exit_law {id:Nat} : CS w0 ro n N (λτ h K=>K (.x id) τ h) [] (.exit id):=λ {e τ h K z a w Q} hh F R D Ro hQ=>wpIn_exit (hQ _ _ _ ⟨.x id,e,τ,h,z,rfl,hh,F,R,.refl e h,D,λ_=>rfl,λ_ _ _=>rfl⟩)
theorem ret_law:CS w0 ro n N (λτ h K=>K .r τ h) [] .ret:=λ {e τ h K z a w Q} hh F R D Ro hQ=>wpIn_ret (hQ _ _ _ ⟨.r,e,τ,h,z,rfl,hh,F,R,.refl e h,D,λ_=>rfl,λ_ _ _=>rfl⟩)
theorem seq_law (ha:CS w0 ro n N ga wa c) (hb:CS w0 ro n N gb wb d):CS w0 ro n N (λτ h K=>ga τ h λex τ h=>Ex.rec (motive:=λ_=>Ev.R) (gb τ h K) (λid=>K (.x id) τ h) (K .r τ h) ex) (app wa wb) (.seq c d):=λ {e τ h K z a w Q} hh F R D Ro hQ=>by
 have hs:∀ t,t∉app wa wb->t∉wa/\t∉wb:=λt ht=>by rw[jJ]at ht;simpa using ht
 refine wpIn_seq (ha hh F R D Ro λex a' w' o=>?_);obtain⟨x,e',τ',h',z',rfl,hk,F',R',Fr',D',ad,ag⟩:=o;have ag':∀ t,t<512->t∉app wa wb->(q3 t).g τ'=(q3 t).g τ:=λt ht hn=>ag t ht (hs t hn).1;have ad':1000∉app wa wb->a'.defers=a.defers:=λhn=>ad (hs _ hn).1;cases x with
 | n=>exact hb hk F' R' D' (Ro.keep Fr' R) λex a2 w2 o2=>hQ _ _ _ (o2.trans Fr' ag' (λt ht=>by rw[jJ];simp[ht]) ad')
 | x id=>exact hQ _ _ _ ⟨.x id,e',τ',h',z',rfl,hk,F',R',Fr',D',ad',ag'⟩
 | r=>exact hQ _ _ _ ⟨.r,e',τ',h',z',rfl,hk,F',R',Fr',D',ad',ag'⟩
theorem cond_law {y:Operand} (hy:okO n y=true) (ha:CS w0 ro n N ga wa c) (hb:CS w0 ro n N gb wb d):CS w0 ro n N (λτ h K=>asB ((evO y).v τ) λb=>Bool.rec (motive:=λ_=>Ev.R) (gb τ h K) (ga τ h K) b) (app wa wb) (.cond y c d):=λ {e τ h K z a w Q} hh F R D Ro hQ=>by
 obtain⟨b,hb1,hh⟩:=asB_law hh;have hv:=evO_law F hy (λt _ k=>k);rw[hb1]at hv;have hv':a.eval y=.bool b:=hv;cases b with
 | true=>exact wpIn_cond_true hv' (ha hh F R D Ro λex a2 w2 o2=>hQ _ _ _ (o2.trans (.refl e h) (λ_ _ _=>rfl) (λt ht=>by rw[jJ];simp[ht]) λ_=>rfl))
 | false=>exact wpIn_cond_false hv' (hb hh F R D Ro λex a2 w2 o2=>hQ _ _ _ (o2.trans (.refl e h) (λ_ _ _=>rfl) (λt ht=>by rw[jJ];simp[ht]) λ_=>rfl))
theorem block_law {id:Nat} (ha:CS w0 ro n N ga wa c):CS w0 ro n N (λτ h K=>ga τ h λex τ h=>Ex.rec (motive:=λ_=>Ev.R) (K .n τ h) (λi=>Bool.rec (motive:=λ_=>Ev.R) (K (.x i) τ h) (K .n τ h) (Nat.beq i id)) (K .r τ h) ex) wa (.block id c):=λ {e τ h K z a w Q} hh F R D Ro hQ=>by
 refine wpIn_block (ha hh F R D Ro λex a' w' o=>?_);obtain⟨x,e',τ',h',z',rfl,hk,F',R',Fr',D',ad,ag⟩:=o;cases x with
 | n=>exact hQ _ _ _ ⟨.n,e',τ',h',z',rfl,hk,F',R',Fr',D',ad,ag⟩
 | x i=>
  show(if i=id then Q .normal a' w' else Q (.exit i) a' w')
  have hk':(Bool.rec (motive:=λ_=>Ev.R) (K (.x i) τ' h') (K .n τ' h') (Nat.beq i id):Ev.R)=some z':=hk
  by_cases ci:i=id
  ·rw[if_pos ci];rw[show Nat.beq i id=true from by rw[ci];exact Nat.beq_refl id]at hk';exact hQ _ _ _ ⟨.n,e',τ',h',z',rfl,hk',F',R',Fr',D',ad,ag⟩
  ·rw[if_neg ci];rw[show Nat.beq i id=false from by rw[zT];simp[ci]]at hk';exact hQ _ _ _ ⟨.x i,e',τ',h',z',rfl,hk',F',R',Fr',D',ad,ag⟩
 | r=>exact hQ _ _ _ ⟨.r,e',τ',h',z',rfl,hk,F',R',Fr',D',ad,ag⟩
theorem scope_law (ha:CS w0 ro n N ga wa c):CS w0 ro n N ga wa (.scope c):=λ {e τ h K z a w Q} hh F R D Ro hQ=>by refine wpIn_scope (ha hh F R D Ro λex a' w' o=>?_);have hq:=hQ _ _ _ o;obtain⟨x,e',τ',h',z',rfl,_⟩:=o;cases x<;>exact hq
theorem loop_law (ha:CS w0 ro n N ga wa c) (k:Nat):CS w0 ro n N (λτ h K=>loopE k ga τ h K) wa (.loop c):=λ {e τ h K z a w Q} hh F R D Ro hQ=>by
 refine Go.Lw.wpIn_loop_ghost (λ(k:Nat) a' w=>∃ e' τ' h' z',loopE k ga τ' h' K=some z'/\qF e' n noZ τ' a'.tmps/\zq w0 e' h' w/\Fr e h e' h'/\Dfs N e' h' a'.defers/\(1000∉wa->a'.defers=a.defers)/\∀ t,t<512->t∉wa->(q3 t).g τ'=(q3 t).g τ) (λk=>k) (λk a1 w1 hI=>?_) k a w ⟨e,τ,h,z,hh,F,R,.refl e h,D,λ_=>rfl,λ_ _ _=>rfl⟩;obtain⟨e',τ',h',z',hk,F',R',Fr',D',ad,ag⟩:=hI;cases k with
 | zero=>cases hk
 | succ k=>
  have hk':ga τ' h' (λex τ h=>Ex.rec (motive:=λ_=>Ev.R) (loopE k ga τ h K) (λid=>K (.x id) τ h) (K .r τ h) ex)=some z':=hk
  refine ha hk' F' R' D' (Ro.keep Fr' R) λex a2 w2 o=>?_;obtain⟨x,e2,τ2,h2,z2,rfl,hk2,F2,R2,Fr2,D2,ad2,ag2⟩:=o;have adt:1000∉wa->a2.defers=a.defers:=λhn=>(ad2 hn).trans (ad hn);have agt:∀ t,t<512->t∉wa->(q3 t).g τ2=(q3 t).g τ:=λt ht hn=>(ag2 t ht hn).trans (ag t ht hn);cases x with
  | n=>exact⟨k,⟨e2,τ2,h2,z2,hk2,F2,R2,Fr'.trans Fr2,D2,adt,agt⟩,Nat.lt_succ_self k⟩
  | x i=>exact hQ _ _ _ ⟨.x i,e2,τ2,h2,z2,rfl,hk2,F2,R2,Fr'.trans Fr2,D2,adt,agt⟩
  | r=>exact hQ _ _ _ ⟨.r,e2,τ2,h2,z2,rfl,hk2,F2,R2,Fr'.trans Fr2,D2,adt,agt⟩
end
structure FrX (i:Nat) (e:Env) (h:H) (e':Env) (h':H):Prop where
 ext:Ext e e'
 nxt:h.nxt<=h'.nxt
 lo:h'.lo<=h.lo
 ac:h'.ac=h.ac
 new:∀ id,e'.dom id->e.dom id\/h.nxt<=id
 out:∀ id,id≠i->id<h.nxt->¬ e.dom id->hget h' id=hget h id
 prot:∀ id,id≠i->id<h.nxt->id<h'.lo->¬ h.act id->hget h' id=hget h id
 kp:∀ id,id≠i->id<h.nxt->jU (hget h id) (hget h' id)
section
variable {i:Nat} {e e' e'':Env} {h h' h'':H}
theorem Fr.x (F:Fr e h e' h'):FrX i e h e' h':=⟨F.ext,F.nxt,F.lo,F.ac,F.new,λid _=>F.out id,λid _=>F.prot id,λid _=>F.kp id⟩
theorem FrX.trans (a:FrX i e h e' h') (b:FrX i e' h' e'' h''):FrX i e h e'' h'':=by
 refine⟨a.ext.trans b.ext,Nat.le_trans a.nxt b.nxt,Nat.le_trans b.lo a.lo,b.ac.trans a.ac,λid hi=>?_,λid hx hi hd=>?_,λid hx hn hi hr=>?_,λid hx hn=>(a.kp id hx hn).trans (b.kp id hx (Nat.lt_of_lt_of_le hn a.nxt))⟩
 ·rcases b.new id hi with h1 | h1
  ·exact a.new id h1
  ·exact .inr (Nat.le_trans a.nxt h1)
 ·have hd':¬ e'.dom id:=λk=>by
   rcases a.new id k with h1 | h1
   ·exact hd h1
   ·omega
  rw[b.out id hx (Nat.lt_of_lt_of_le hi a.nxt) hd',a.out id hx hi hd]
 ·rw[b.prot id hx (Nat.lt_of_lt_of_le hn a.nxt) hi (by unfold H.act at hr⊢;rw[a.ac];exact hr),a.prot id hx hn (Nat.lt_of_lt_of_le hi b.lo) hr]
theorem Put.x {b:B} (P:Put h i b h') (top:h.nxt<=32768):FrX i e h e h':=
 ⟨.refl e,by rw[P.nxt];exact Nat.le_refl _,Nat.le_of_eq P.lo,P.ac,λ_ k=>.inl k,λid hx hi _=>by rw[P.get id (by omega),if_neg hx],λid hx hi _ _=>by rw[P.get id (by omega),if_neg hx],λid hx hi=>by rw[P.get id (by omega),if_neg hx];exact .refl _⟩
theorem FrX.fr (F:FrX i e h e' h') (hd:e.dom i) (hf:jU (hget h i) (hget h' i)) (hp:i<h'.lo->hget h' i=hget h i):Fr e h e' h':=
 ⟨F.ext,F.nxt,F.lo,F.ac,F.new,λid hi hnd=>F.out id (λk=>hnd (k▸hd)) hi hnd,λid hn hi hr=>by
  by_cases c:id=i
  ·subst c;exact hp hi
  ·exact F.prot id c hn hi hr,λid hn=>by
  by_cases c:id=i
  ·subst c;exact hf
  ·exact F.kp id c hn⟩
theorem lo_x {lo:Nat} (hl:lo<=h.lo):FrX i e h e (.mk h.nxt lo h.ac h.t):=
 ⟨.refl e,Nat.le_refl _,hl,rfl,λ_ k=>.inl k,λ_ _ _ _=>rfl,λ_ _ _ _ _=>rfl,λ_ _ _=>.refl _⟩
end
theorem bind_law {e:Env} {n:Nat} {z:List (AV×H)} {K:L3->Ev.R} : ∀ {ps:List Nat} {args:List AV} {us:List Value} {t:L3} {tmps:Array Value},bindE ps args t K=some z->(∀ p∈ps,p<n)->qF e n noZ t tmps->zB (Dn e) args us->
  ps.length=us.length/\∃ t',K t'=some z/\qF e n noZ t' ((ps.zip us).foldl (λtmps (p:Nat×Value)=>tmps.setIfInBounds p.1 p.2) tmps)
 | [],[],us,t,tmps,hh,_,F,ha=>by
  cases us with
  | nil=>exact⟨rfl,t,hh,F⟩
  | cons=>exact ha.elim
 | [],_::_,us,t,tmps,hh,_,F,ha=>by cases hh
 | _::_,[],us,t,tmps,hh,_,F,ha=>by cases hh
 | p::ps,v::args,us,t,tmps,hh,hp,F,ha=>by
  cases us with
  | nil=>exact ha.elim
  | cons u us=>
   have hp0:=hp p (by simp)
   obtain⟨τ',h1,h2⟩:=q3_set t v (Nat.lt_of_lt_of_le hp0 F.2.1);have hh':((q3 p).s t v λt=>bindE ps args t K)=some z:=hh;rw[h1]at hh';have F':qF e n noZ τ' (tmps.setIfInBounds p u):=qF.put (a:={ tmps:=tmps,defers:=[] }) F hp0 ha.1 h2 λ_ k _=>k;obtain⟨k1,k2⟩:=bind_law hh' (λq hq=>hp q (List.mem_cons_of_mem _ hq)) F' ha.2;exact⟨by simp[k1],k2⟩
def IHOk (w0:World) (ih:IH):Prop:=∀ (ro:Option Nat) (n N:Nat) (c:Code),okC n c=true->CS w0 ro n N (ih.run c) (wrC c) c
theorem kD {w:World} {b:Nat} {o:Obj} : w.grownBy (w.putObj b o) (some b):=⟨rfl,rfl,rfl,by simp,λk _ hne=>World.putObj_heap_other λc=>hne (by rw[c])⟩
section
variable {w0:World} {ih:IH}
theorem loB_le (id lo:Nat):loB id lo<=lo/\loB id lo<=id:=by
 unfold loB;cases hb:Nat.ble lo id with
 | true=>have:=Nat.le_of_ble_eq_true hb;simp[this]
 | false=>
  have h:¬ lo<=id:=λk=>by rw[Nat.ble_eq_true_of_le k]at hb;cases hb
  simp only[cond_false];omega
theorem rnd_law (iHo:IHOk w0 ih):YdOk w0 ih:=by
 intro id e h K z args us w ps a b t hb hh hd ha R;have ok:=R.ok id hd;rw[hb]at ok;obtain⟨r,r1,rfl,rfl,rfl,r5,r6,r7,r8,r9⟩:=ok;have hi:=R.zN hd;have hlow:=R.low id hd (by rw[hb];trivial);have hh1:(jc h id (.o (.v false r.params.toList r.assign r.body t)) λh=>bindE r.params.toList args t λt'=>ih.run r.assign t' h λex t1 h=>
  Ex.rec (motive:=λ_=>Ev.R) (jc h id (.o (.v true r.params.toList r.assign r.body t)) λh=>ih.run r.body t1 h λex _ h=>Ex.rec (motive:=λ_=>Ev.R) (jc h id (.o (.l r.params.toList r.assign r.body t)) λh=>K (.b true) h) (λi=>setLo h (loB id) h.ac λh=>jc h id (.o (.d (.x i))) λh=>K (.b false) h) (setLo h (loB id) h.ac λh=>jc h id (.o (.d .r)) λh=>K (.b false) h) ex) (λ_=>none) none ex)=some z:=hh;obtain⟨h1,P1,hh1⟩:=qN hh1 hi;obtain⟨hlen,t',hh1,F1⟩:=bind_law hh1 r6 r5 ha;have R1:zq w0 e h1 w:=R.put P1 hd (by rw[hb];trivial) (by rw[hb];exact λc=>c) (World.grownBy.refl w _) ⟨r,r1,rfl,rfl,rfl,r5,r6,r7,r8,r9⟩;refine⟨_,_,_,_,run_yield r1 (by simpa using hlen.symm),?_⟩;refine roundIn_of_wpIn trivial ?_;rw[foldl_zip];refine iHo (some (e.blk id)) r.tmps.size h1.nxt r.assign r7 (e:=e) (τ:=t') (h:=h1) (z:=z) (a:={ tmps:=_,defers:=[] }) (w:=w) hh1 F1 R1 ⟨Nat.le_refl _,[],rfl,List.nodup_nil,λi k=>by cases k⟩ (λl k=>⟨id,false,_,_,_,_,hd,Option.some.inj k,by rw[P1.get id hi,if_pos rfl]⟩) λex a1 w1 o=>?_;obtain⟨x,e2,t2,h2,z2,rfl,hk,F2,R2,Fr2,D2,_,ag2⟩:=o;cases x with
 | x i=>cases hk
 | r=>cases hk
 | n=>
  have hd2:=Fr2.ext.dom id hd
  have lt1:id<h1.nxt:=by rw[P1.nxt];exact R.lt id hd
  have g2:hget h2 id=.o (.v false r.params.toList r.assign r.body t):=by
   have g1:hget h1 id=.o (.v false r.params.toList r.assign r.body t):=by rw[P1.get id hi,if_pos rfl]
   rw[Fr2.mark id lt1 (by rw[g1];trivial),g1]
  obtain⟨h3,P3,hk⟩:=qN hk hi;have ok2:=R2.ok id hd2;rw[g2]at ok2;obtain⟨s,s1,s2,s3,s4,s5,s6,s7,s8⟩:=ok2;have eb:=Fr2.ext.blk id hd;have low2:=R2.low id hd2 (by rw[g2];trivial);rw[eb]at s1 low2;refine⟨_,run_beginRound s1 rfl,?_⟩;have R3:zq w0 e2 h3 (w1.putObj (e.blk id) (.loop { s with state:=.busy,pending:=none })):=R2.put P3 hd2 (by rw[g2];trivial) (by rw[g2];exact λc=>c) (by rw[eb];exact kD) ⟨s,by rw[eb];exact World.putObj_heap_same low2.2,s2,s3,s4,s5,s6,s7,s8⟩;have D3:Dfs h1.nxt e2 h3 a1.defers:=by obtain⟨d0,ids,d1,d2,d3⟩:=D2;refine⟨by rw[P3.nxt];exact d0,ids,d1,d2,λi hi'=>?_⟩;obtain⟨k1,k2,k3,k4⟩:=d3 i hi';refine⟨k1,k2,?_,k4⟩;rw[P3.get i (R2.zN k2),if_neg (λk=>by subst k;rw[g2]at k3;cases k3)];exact k3
  have top2:=R2.top
  have X3:FrX id e h e2 h3:=((P1.x R.top).trans Fr2.x).trans (P3.x top2)
  refine iHo (some (e.blk id)) r.tmps.size h1.nxt r.body r8 hk F2 R3 D3 (λl k=>⟨id,true,_,_,_,_,hd2,by rw[eb];exact Option.some.inj k,by rw[P3.get id hi,if_pos rfl]⟩) λex a4 w4 o=>?_;obtain⟨x,e4,t4,h4,z4,rfl,hk,F4,R4,Fr4,D4,_,ag4⟩:=o;have hd4:=Fr4.ext.dom id hd2;have g4:hget h4 id=.o (.v true r.params.toList r.assign r.body t):=by
   have g3:hget h3 id=.o (.v true r.params.toList r.assign r.body t):=by rw[P3.get id hi,if_pos rfl]
   rw[Fr4.mark id (by rw[P3.nxt];exact Nat.lt_of_lt_of_le lt1 Fr2.nxt) (by rw[g3];trivial),g3]
  have ok4:=R4.ok id hd4
  rw[g4]at ok4;obtain⟨q,q1,q2,q3',q4,q5,q6,q7,q8⟩:=ok4;have eb4:e4.blk id=e.blk id:=(Fr4.ext.blk id hd2).trans eb;have low4:=R4.low id hd4 (by rw[g4];trivial);rw[eb4]at q1 low4;have X4:FrX id e h e4 h4:=X3.trans Fr4.x;have hnf:∀ b,jU (hget h id) b:=by rw[hb];exact λ_=>trivial
  have fin:∀ (ex:Ex) (c:Code),exC ex=c->(setLo h4 (loB id) h4.ac λh=>jc h id (.o (.d ex)) λh=>K (.b false) h)=some z4->Out w0 e h K (.bool false) (w4.putObj (e.blk id) (.loop { q with state:=.done,pending:=some c })):=λex c hc hk=>by rw[setLo_eq]at hk;obtain⟨h6,P6,hk⟩:=qN hk hi;have R5:zq w0 e4 (.mk h4.nxt (loB id h4.lo) h4.ac h4.t) w4:=R4.same rfl λ_ _=>rfl;have R6:zq w0 e4 h6 (w4.putObj (e.blk id) (.loop { q with state:=.done,pending:=some c })):=R5.put P6 hd4 (show inB (hget h4 id) by rw[g4];trivial) (show ¬ hidK (hget h4 id) by rw[g4];exact λc=>c) (by rw[eb4];exact kD) ⟨q,by rw[eb4,hc];exact World.putObj_heap_same low4.2⟩;have X6:FrX id e h e4 h6:=(X4.trans (lo_x (loB_le id h4.lo).1)).trans (P6.x R5.top);refine⟨.b false,h6,e4,z4,hk,rfl,R6,X6.fr hd (hnf _) λhlt=>?_⟩;have l6:h6.lo=loB id h4.lo:=P6.lo;have:=(loB_le id h4.lo).2;omega
  cases x with
  | n=>
   obtain⟨h5,P5,hk⟩:=qN hk hi;have R5:zq w0 e4 h5 (w4.putObj (e.blk id) (.loop { q with state:=.ready,pending:=none })):=R4.put P5 hd4 (by rw[g4];trivial) (by rw[g4];exact λc=>c) (by rw[eb4];exact kD) ⟨q,by rw[eb4];exact World.putObj_heap_same low4.2,q2,q3',q4,q5,q6,q7,q8⟩;have X5:FrX id e h e4 h5:=X4.trans (P5.x R4.top);exact⟨_,_,run_endRound none q1,_,rfl,.b true,h5,e4,z4,hk,rfl,R5,X5.fr hd (hnf _) λ_=>by rw[P5.get id hi,if_pos rfl,hb]⟩
  | x i=>exact⟨_,_,run_endRound (some (.exit i)) q1,_,rfl,fin (.x i) _ rfl hk⟩
  | r=>exact⟨_,_,run_endRound (some .ret) q1,_,rfl,fin .r _ rfl hk⟩
end
section
variable {w0:World} {ih:IH} {e:Env} {h:H} {w:World} {n N:Nat} {ro:Option Nat}
theorem callF_law (FO:FnOk w0 ih) (R:zq w0 e h w) {x:AV} {v:Value} {args:List AV} {us:List Value} {K:KV} {z:List (AV×H)} (hh:callV x ih args h K=some z) (hy:notY x=true) (hx:Dn e x v) (ha:zB (Dn e) args us) :
  ∃ d f us',(Deferred.ofValue v ⟨us⟩).run Pr w=.ok d w/\(invoke d.target d.args).run Pr w=.ok (.enter f us') w/\Calls Pr f us' w λen w'=>∃ v,en=.returned v/\Out w0 e h K v w':=by
 have mk:∀ {f:FuncId} {fs cs:Array Value},zi Pr f->(Calls Pr f (fs++⟨us⟩++cs) w λen w'=>∃ v,en=.returned v/\Out w0 e h K v w')->
   ∃ d g us',(Deferred.ofValue (.func (.func f) fs cs) ⟨us⟩).run Pr w=.ok d w/\(invoke d.target d.args).run Pr w=.ok (.enter g us') w/\Calls Pr g us' w λen w'=>∃ v,en=.returned v/\Out w0 e h K v w':=λ {f fs cs} h1 h2=>
  ⟨{ target:=.fn (.func f) cs,args:=fs++⟨us⟩ },f,_,by simp only[Deferred.ofValue,Sem.run_pure],h1 _ _,h2⟩
 obtain⟨x,rfl,hh⟩:=qj hh;have hx':DnO e x v:=hx;cases x with
 | f id=>
  obtain⟨b,hb,hh⟩:=qJ (K:=λb=>(match b with | .f f fs cs=>(fncE f).g ih (app fs (app args cs)) h K | _=>none)) hh;obtain⟨hd,rfl,_⟩:=hx';have ok:=R.ok id hd;rw[hb]at ok;cases b with
  | f fn fs cs=>
   obtain⟨us1,us2,k1,k2,k3⟩:=ok;rw[k1];simp only[jJ]at hh;obtain⟨h1,h2⟩:=FO hh (k2.append (ha.append k3)) R;exact mk h1 (by simpa using h2)
  | _=>cases hh
 | y id=>cases hy
 | c u=>
  obtain⟨rfl,_⟩:=hx';replace hh:cvE v ih args h K=some z:=hh;unfold cvE at hh;split at hh
  ·rename_i f fs cs _ _;obtain⟨g1,hh2⟩:=zk hh;have g2:=Nat.eq_of_beq_eq_true g1;obtain rfl:fs=#[]:=Array.eq_empty_of_size_eq_zero (by omega);obtain rfl:cs=#[]:=Array.eq_empty_of_size_eq_zero (by omega);obtain⟨h1,h2⟩:=FO hh2 ha R;exact mk h1 (by simpa using h2)
  ·cases hh
 | _=>cases hh
theorem zq.lay (R:zq w0 e h w) {b:B} {h1:H} (P:New h b h1) {o:Obj} {f:Value} (c:Nat) (hin:inB b) (hr:refM b=Option.none) (hb:BOk (e.add h.nxt w.heap.size c f) h1 (w.alloc o) h.nxt b) :
  zq w0 (e.add h.nxt w.heap.size c f) h1 (w.alloc o)/\Fr e h (e.add h.nxt w.heap.size c f) h1/\¬ e.dom h.nxt/\hget h1 h.nxt=b:=by
 have R2:=R.push P
 have hid:¬ e.dom h.nxt:=λk=>Nat.lt_irrefl _ (R.lt _ k)
 have g:hget h1 h.nxt=b:=by rw[P.get _ P.lt,if_pos rfl]
 refine⟨R2.add hid (by rw[P.nxt];omega) (jI w _) (λ_=>⟨R.below.size,by simp,λj hj hi he=>by have:=(R2.low j hj hi).2;omega⟩) (by rw[g];exact hb) (λm hm=>by rw[g,hr]at hm;cases hm),(R.frNew P).add hid (Nat.le_refl _),hid,g⟩
theorem lend_law {id:Nat} {τ:L3} {K:KC} {z:List (AV×H)} (hh:lendE id τ h K=some z) (R:zq w0 e h w) (hd:e.dom id) {ps:List Nat} {a b:Code} {t:L3} :
  ∃ ex h',(exC ex=.skip->True)/\(lowH h id).lo<=id/\Put (lowH h id) id .x h'/\K ex τ h'=some z/\∃ w' j,(Instr.endLoop (e.blk id)).run Pr w=.ok j w'/\zq w0 e h' w'/\((j=none/\ex=.n)\/j=some (exC ex)):=by
 obtain⟨b,hb,hh⟩:=qJ hh;obtain⟨hlo,h',P,hk⟩:=jS hh (R.zN hd);have ok:=R.ok id hd;have RL:=R.low' id;rw[hb]at ok;have step:∀ r:Loop,w.heap[e.blk id]? = some (.loop r)->inB (hget h id)->¬ hidK (hget h id)->zq w0 e h' (w.putObj (e.blk id) (.loop { r with state:=.exhausted })):=λr hr h1 h2=>RL.put P hd h1 h2 kD trivial;cases b with
 | l ps a b t=>
  obtain⟨r,r1,_⟩:=ok;exact⟨.n,h',λ_=>trivial,hlo,P,hk,_,_,run_endLoop r1 (by simp),step _ r1 (by rw[hb];trivial) (by rw[hb];exact λc=>c),.inl ⟨rfl,rfl⟩⟩
 | d ex=>
  obtain⟨r,r1⟩:=ok;exact⟨ex,h',λ_=>trivial,hlo,P,hk,_,_,run_endLoop r1 (by simp),step _ r1 (by rw[hb];trivial) (by rw[hb];exact λc=>c),.inr rfl⟩
 | _=>cases hk
theorem range_func (FO:FnOk w0 ih) {g:Operand} {ps:Array Tmp} {as1 body:Code} (hg:okO n g=true) (hps:∀ p∈ps.toList,p<n) (ha:okC n as1=true) (hb:okC n body=true) :
  CS w0 ro n N (λτ h K=>newB h (.o .t) λ_ h=>newB h (.o (.l ps.toList as1 body τ)) λid h=>gd (notY ((evO g).v τ)) (callV ((evO g).v τ) ih [.x (.o (.y id))] h λ_ h=>lendE id τ h K)) [1000] (.rangeFunc g ps as1 body):=λ {e τ h K z a w Q} hh F R D Ro hQ=>by
 obtain⟨h1,N1,hh⟩:=newB_law hh;obtain⟨h2,N2,hh⟩:=newB_law hh;obtain⟨hy,hh⟩:=zk hh
 -- what is done once both blocks lie there
 have main:∀ (e1:Env) (w1:World) (mark:List Deferred) (df:Nat) (fn:FuncId),zq w0 e1 h1 w1->Fr e h e1 h1->Dfs N e1 h1 (mark++a.defers)->
   (Instr.enterLoop fn a.tmps ps as1 body (FW ro).round).run Pr w=.ok (w1.heap.size,mark) (w1.alloc (.loop { state:=.ready,pending:=none,fn:=fn,tmps:=a.tmps,params:=ps,assign:=as1,body:=body,defers:=df }))->
   ∃ (l:Nat) (mark:List Deferred) (w₁:World) (d:Deferred) (w₁':World) (f:FuncId) (args:Array Value) (w₂:World),
   (Instr.enterLoop fn a.tmps ps as1 body (FW ro).round).run Pr w=.ok (l,mark) w₁/\
   (resolve a.eval (rangeCall g l) 0).run Pr w₁=.ok d w₁'/\
   (∀ f',Target.leads Pr w₁' d.target d.args=some f'->(FW ro).fn f')/\
   (invoke d.target d.args).run Pr w₁'=.ok (.enter f args) w₂/\
   ((FW ro).depth.isSome=true->1<=0)/\
   CallsIn (FW ro) (0-1) Pr f args w₂ (rangePost (FW ro) 0 Pr l Q { a with defers:=mark++a.defers }):=λe1 w1 mark df fn R1 Fr1 D1 hent=>by
  have hsz:a.tmps.size=n:=F.1
  obtain⟨R2,Fr2,hid,g2⟩:=R1.lay N2 (c:=n) (f:=.nilFunc) (o:=.loop { state:=.ready,pending:=none,fn:=fn,tmps:=a.tmps,params:=ps,assign:=as1,body:=body,defers:=df }) trivial rfl
   ⟨{ state:=.ready,pending:=none,fn:=fn,tmps:=a.tmps,params:=ps,assign:=as1,body:=body,defers:=df },by rw[qh];exact World.alloc_heap_new _ _,rfl,rfl,rfl,(by show qF _ a.tmps.size noZ τ a.tmps;rw[hsz];exact F.ext (Fr1.ext.trans (kT λk=>Nat.lt_irrefl _ (R1.lt _ k)))),(by show ∀ p∈ps.toList,p<a.tmps.size;rw[hsz];exact hps),(by show okC a.tmps.size as1=true;rw[hsz];exact ha),(by show okC a.tmps.size body=true;rw[hsz];exact hb),(by show a.tmps.size=_;rw[hsz];exact(if_pos rfl).symm)⟩;have hd2:(e1.add h1.nxt w1.heap.size n .nilFunc).dom h1.nxt:=.inl rfl;have Frt:=Fr1.trans Fr2;have hv:=(evO_law F hg (λt _ k=>k)).ext Frt.ext;obtain⟨d,f,us',c1,c2,c3⟩:=callF_law FO R2 hh hy hv (us:=[.func (.yield w1.heap.size) #[] #[]]) ⟨⟨hd2,by rw[qh]⟩,trivial⟩;have e0:#[Operand.const (Value.func (.yield w1.heap.size) #[] #[])].map a.eval=⟨[.func (.yield w1.heap.size) #[] #[]]⟩:=by
   have e1:a.eval (.const (Value.func (.yield w1.heap.size) #[] #[]))=Value.func (.yield w1.heap.size) #[] #[]:=rfl
   simp[e1]
  refine⟨w1.heap.size,mark,_,d,_,f,us',_,hent,(by unfold resolve;simp only[e0];exact c1),λ_ _=>trivial,c2,FW_dep ro,jG.2 (c3.mono λen w3 k=>?_)⟩;obtain⟨v,rfl,x,h3,e3,z3,hk,_,R3,F3⟩:=k;have hd3:=F3.ext.dom _ hd2;have b3:e3.blk h1.nxt=w1.heap.size:=by rw[F3.ext.blk _ hd2,qh]
  obtain⟨ex,h4,_,hlo,P4,hk,w4,j,e1',R4,hj⟩:=lend_law hk R3 hd3 (ps:=[]) (a:=.skip) (b:=.skip) (t:=L3.e);rw[b3]at e1';have Fall:=Frt.trans F3;have X4:FrX h1.nxt e h e3 h4:=(Fall.trans (fr_low e3 h3 h1.nxt)).x.trans (P4.x R3.top);have n1:=N1.nxt;have Fr4:Fr e h e3 h4:=by refine⟨X4.ext,X4.nxt,X4.lo,X4.ac,X4.new,λid hi hnd=>X4.out id (by omega) hi hnd,λid hi hl2 hr=>X4.prot id (by omega) hi hl2 hr,λid hi=>X4.kp id (by omega) hi⟩
  have D3:Dfs N e3 h3 (mark++a.defers):=(D1.keep Fr2 R1).keep F3 R2
  have D4:Dfs N e3 h4 (mark++a.defers):=by
   obtain⟨d0,ids,d1,d2,d3⟩:=D1;obtain⟨d0',_⟩:=D3;refine⟨by rw[P4.nxt];exact d0',ids,?_,d2,λi hi=>?_⟩
   ·rw[d1];refine List.map_congr_left λi hi=>?_;rw[(Fr2.trans F3).ext.blk i (d3 i hi).2.1]
   ·obtain⟨k1,k2,k3,k4⟩:=d3 i hi;have hlt:=R1.lt i k2;have k5:=(Fr2.trans F3).mark i hlt (by rw[k3];trivial);refine⟨k1,(Fr2.trans F3).ext.dom i k2,?_,by rw[(Fr2.trans F3).ext.gh i k2];exact k4⟩;rw[P4.get i (R3.zN ((Fr2.trans F3).ext.dom i k2)),if_neg (by omega)];exact k5.trans k3
  have out:∀ ex':Ex,K ex' τ h4=some z3->OutC w0 n N e h τ [1000] a.defers K (exE ex') { a with defers:=mark++a.defers } w4:=λex' hk=>⟨ex',e3,τ,h4,z3,rfl,hk,F.ext Fr4.ext,R4,Fr4,D4,λk=>absurd (by simp) k,λ_ _ _=>rfl⟩
  refine⟨j,w4,e1',?_⟩;rcases hj with ⟨rfl,rfl⟩ | rfl
  ·exact hQ _ _ _ (out .n hk)
  ·cases ex with
   | n=>exact wpIn_skip (hQ _ _ _ (out .n hk))
   | x i=>exact wpIn_exit (hQ _ _ _ (out (.x i) hk))
   | r=>exact wpIn_ret (hQ _ _ _ (out .r hk))
 refine wpIn_rangeFunc λfn _=>?_;cases ro with
 | none=>
  obtain⟨R1,Fr1,hid,g1⟩:=R.lay N1 (c:=0) (f:=.nilFunc) (o:=.deferred (some [])) trivial rfl (λ_=>by rw[qh];exact World.alloc_heap_new _ _);refine main _ _ [mkD w.heap.size] w.heap.size fn R1 Fr1 ?_ (by rw[World.size_alloc];exact run_enterLoop_outer _ _ _ _ _);obtain⟨d0,ids,d1,d2,d3⟩:=D;refine⟨Nat.le_trans d0 Fr1.nxt,h.nxt::ids,?_,List.nodup_cons.2 ⟨λk=>hid (d3 _ k).2.1,d2⟩,λi hi=>?_⟩
  ·rw[List.map_cons,qh,d1];show mkD _::_=mkD _::_;refine congrArg _ (List.map_congr_left λi hi=>?_);rw[Fr1.ext.blk i (d3 i hi).2.1]
  ·rcases List.mem_cons.1 hi with rfl | hi
   ·exact⟨d0,.inl rfl,g1,if_pos rfl⟩
   ·obtain⟨k1,k2,k3,k4⟩:=d3 i hi;exact⟨k1,Fr1.ext.dom i k2,by rw[Fr1.mark i (R.lt i k2) (by rw[k3];trivial)];exact k3,by rw[Fr1.ext.gh i k2];exact k4⟩
 | some l0=>obtain⟨i0,bz,ps0,a0,b0,t0,k1,k2,k3⟩:=Ro l0 rfl;have ok:=R.ok i0 k1;rw[k3]at ok;obtain⟨r0,r1,_⟩:=ok;rw[k2]at r1;exact main e w [] _ fn (R.push N1) (R.frNew N1) (D.keep (R.frNew N1) R) (run_enterLoop_inner r1 _ _ _ _ _)
end
def Env.qL (e:Env) (i s:Nat):Env:={ e with gh:=λj=>if j=i then s else e.gh j }
section gh
variable {e:Env} {i s:Nat}
theorem ku:(e.qL i s).gh i=s:=if_pos rfl
theorem setG_ne {j:Nat} (h:j≠i):(e.qL i s).gh j=e.gh j:=if_neg h
theorem DnO_gh:DnO (e.qL i s)=DnO e:=by funext x v;cases x<;>rfl
theorem DnS_gh:DnS (e.qL i s)=DnS e:=by
 funext x v;cases x with
 | o x=>exact congrFun (congrFun DnO_gh x) v
 | _=>rfl
theorem DnC_gh:DnC (e.qL i s)=DnC e:=by funext x v;unfold DnC;rw[DnS_gh]
theorem DnT_gh:DnT (e.qL i s)=DnT e:=by
 funext x v;cases x with
 | inl x=>exact congrFun (congrFun DnS_gh x) v
 | inr l=>show(∃ vs,v=.agg ⟨vs⟩/\zB (DnC (e.qL i s)) l vs)=_;rw[DnC_gh];rfl
theorem Dn_gh:Dn (e.qL i s)=Dn e:=by
 funext x v;cases x with
 | x x=>exact congrFun (congrFun DnS_gh x) v
 | a l=>show(∃ vs,v=.agg ⟨vs⟩/\zB (DnC (e.qL i s)) l vs)=_;rw[DnC_gh];rfl
 | t l=>show(∃ vs,v=.tuple ⟨vs⟩/\zB (DnT (e.qL i s)) l vs)=_;rw[DnT_gh];rfl
theorem DnE_gh:DnE (e.qL i s)=DnE e:=by funext x v;unfold DnE;rw[Dn_gh]
theorem FRel_gh:qF (e.qL i s)=qF e:=by funext n Z τ t;unfold qF;rw[Dn_gh]
theorem TOk_gh:TOk (e.qL i s)=TOk e:=by funext n t cs;unfold TOk;rw[DnC_gh]
theorem MOk_gh:MOk (e.qL i s)=MOk e:=by funext l es c;unfold MOk;rw[DnE_gh]
theorem BOk_gh {h:H} {w:World} {j:Nat} {b:B} (hj:j≠i):BOk (e.qL i s) h w j b=BOk e h w j b:=by
 have g:=setG_ne (e:=e) (s:=s) hj
 have eb:(e.qL i s).blk=e.blk:=rfl
 have ed:(e.qL i s).dom=e.dom:=rfl
 have ec:(e.qL i s).cap=e.cap:=rfl
 have el:(e.qL i s).clo=e.clo:=rfl
 cases b with
 | o b=>cases b<;>simp only[BOk,OOk,g,eb,ed,ec,el,FRel_gh,MOk_gh,Dn_gh,DnE_gh]
 | _=>simp only[BOk,eb,ed,ec,el,TOk_gh]
theorem zq.regh {w0:World} {h:H} {w:World} (R:zq w0 e h w) (hb:e.dom i->BOk (e.qL i s) h w i (hget h i)):zq w0 (e.qL i s) h w:=
 ⟨R.below,R.top,R.lt,λj hj=>by
  by_cases c:j=i
  ·subst c;exact hb hj
  ·rw[BOk_gh c];exact R.ok j hj,R.low,R.inj,R.none,R.uniq⟩
theorem Ext.qL {e':Env} (x:Ext e e'):Ext (e.qL i s) (e'.qL i s):=
 ⟨x.dom,x.blk,x.cap,x.clo,λj hj=>by
  by_cases c:j=i
  ·subst c;rw[ku,ku]
  ·rw[setG_ne c,setG_ne c];exact x.gh j hj⟩
end gh
section back
variable {e e':Env}
theorem zB.backE (x:Ext e e'):∀ {l:List (AV×AV)} {es es':List MapEntry},zB (DnE e) l es->zB (DnE e') l es'->zB (DnE e) l es'
 | [],[],[],_,_=>trivial
 | _::_,_::_,_::_,⟨a,b⟩,⟨a',b'⟩=>⟨⟨a.1.back x a'.1,a.2.back x a'.2⟩,zB.backE x b b'⟩
 | [],_,_::_,_,k=>k.elim
 | [],_::_,_,k,_=>k.elim
 | _::_,[],_,k,_=>k.elim
 | _::_,_,[],_,k=>k.elim
theorem sub_known {p:AV×AV->MapEntry->Prop} : ∀ {l L:List (AV×AV)} {es:List MapEntry},l.Sublist L->zB p L es->∃ es',zB p l es'
 | _,_,es,.slnil,h=>⟨es,h⟩
 | _,_,[],.cons a s,h=>h.elim
 | _,_,_::_,.cons a s,h=>sub_known s h.2
 | _,_,[],.cons_cons a s,h=>h.elim
 | _,_,y::_,.cons_cons a s,h=>by obtain⟨es',k⟩:=sub_known s h.2;exact⟨y::es',h.1,k⟩
theorem MOk.back (x:Ext e e') {l:List (AV×AV)} {es es':List MapEntry} {c c':Nat} (k:MOk e l es c) (k':MOk e' l es' c'):MOk e l es' c':=⟨k.1.backE x k'.1,k'.2⟩
theorem TOk.back (x:Ext e e') {n:Nat} {t:TV} {cs cs':List Value} (k:TOk e n t cs) (k':TOk e' n t cs'):TOk e n t cs':=⟨k'.1,k'.2.1,λj hj=>by
 obtain⟨s,v,h1,h2,h3⟩:=k.2.2 j hj;obtain⟨s',v',h1',h2',h3'⟩:=k'.2.2 j hj;rw[h2]at h2';have:s=s':=by injection h2'
 subst this;exact⟨s,v',h1',h2,h3.back x h3'⟩⟩
theorem qF.back (x:Ext e e') {n:Nat} {τ:L3} {t t':Array Value} (k:qF e n noZ τ t) (k':qF e' n noZ τ t'):qF e n noZ τ t':=⟨k'.1,k'.2.1,λj v hv hz=>by
 have hj:j<t.size:=by rw[k.1,<-k'.1];exact(Array.getElem?_eq_some_iff.1 hv).1
 exact(k.2.2 j _ (Array.getElem?_eq_getElem hj) hz).back x (k'.2.2 j v hv hz)⟩
theorem BOk.back {h h':H} {w w':World} {id:Nat} {b:B} (hid:e.dom id) (x:Ext e e') (hm:∀ m,refM b=some m->hidK (hget h m)->(∃ g,hget h m=.o g/\∀ k y z,g=.g k y z->hget h' m=hget h m)) (k:BOk e h w id b) (k':BOk e' h' w' id b):BOk e h w' id b:=by
 have eb:=x.blk id hid
 have ec:=x.cap id hid
 have eg:=x.gh id hid
 cases b with
 | x=>trivial
 | c E n t=>
  obtain⟨cs,h1,h2,h3⟩:=k;obtain⟨cs',h1',h2',h3'⟩:=k';exact⟨cs',by rw[<-eb];exact h1',h2',h3.back x h3'⟩
 | r E n t=>
  obtain⟨cs,z,h1,h2,h3,h4,h5⟩:=k;obtain⟨cs',z',h1',h2',h3',h4',h5'⟩:=k';exact⟨cs',z',by rw[<-eb];exact h1',h2.back x h2',h3',by rw[<-ec];exact h4',by rw[<-ec];exact h5'⟩
 | o b=>
  cases b with
  | m l=>
   obtain⟨es,c,h1,h2⟩:=k;obtain⟨es',c',h1',h2'⟩:=k';exact⟨es',c',by rw[<-eb];exact h1',h2.back x h2'⟩
  | h=>trivial
  | g key gone L=>
   obtain⟨l,es,c,h1,h2,h3,⟨h4,es0,h5⟩,h6⟩:=k;obtain⟨l',es',c',h1',h2',h3',⟨h4',_⟩,h6'⟩:=k';obtain⟨es2,h7⟩:=sub_known h4' h5;exact⟨l',es',c',by rw[<-eb];exact h1',⟨h7.backE x h2'.1,h2'.2⟩,h3',⟨h4',es0,h5⟩,h6'⟩
  | f fn fs cs=>exact k
  | l ps a b t=>
   obtain⟨r,h1,h2,h3,h4,h5,h6,h7,h8,h9⟩:=k;obtain⟨r',h1',h2',h3',h4',h5',h6',h7',h8',h9'⟩:=k';have hs:r'.tmps.size=r.tmps.size:=by rw[h9',h9,eg]
   exact⟨r',by rw[<-eb];exact h1',h2',h3',h4',by rw[hs]at h5'⊢;exact h5.back x h5',h6',h7',h8',by rw[h9',eg]⟩
  | d ex=>
   obtain⟨r',h1'⟩:=k';exact⟨r',by rw[<-eb];exact h1'⟩
  | i m l=>
   obtain⟨h1,h2,es,c,⟨h3,h4,h5⟩,h6⟩:=k;obtain⟨h1',h2',es',c',⟨h3',h4',h5'⟩,h6'⟩:=k';exact⟨h1,h2,es',c',⟨by rw[<-x.blk _ h1];exact h3',by rw[<-eb,<-x.blk _ h1];exact h4',h5'⟩,h6.back x h6'⟩
  | b m l rem=>exact k.elim
  | c m key v l rem=>
   obtain⟨h1,h2,es,c,since,seen,en,⟨h3,h4,h5⟩,h6,h7,h8,h9,h10⟩:=k;obtain⟨h1',h2',es',c',since',seen',en',⟨h3',h4',h5'⟩,h6',h7',h8',h9',h10'⟩:=k';exact⟨h1,h2,es',c',since',seen',en',⟨by rw[<-x.blk _ h1];exact h3',by rw[<-eb,<-x.blk _ h1];exact h4',h5'⟩,h6.back x h6',h7',h8',h9',h10.1.back x h10'.1,h10.2.back x h10'.2⟩
  | j m l z=>
   obtain⟨h1,h2,es,c,since,seen,⟨h3,h4,h5⟩,h6,h7⟩:=k;obtain⟨h1',h2',es',c',since',seen',⟨h3',h4',h5'⟩,h6',h7'⟩:=k';exact⟨h1,h2,es',c',since',seen',⟨by rw[<-x.blk _ h1];exact h3',by rw[<-eb,<-x.blk _ h1];exact h4',h5'⟩,h6.back x h6',by rw[<-eg];exact h7'⟩
  | k m key v l keep z cur=>
   obtain⟨h1,gone,L,h2,es,c,since,seen,j,en,g1,g2,⟨h3,h4,h5⟩,h6,h7⟩:=k;obtain⟨h1',gone',L',h2',es',c',since',seen',j',en',g1',g2',⟨h3',h4',h5'⟩,h6',h7'⟩:=k';obtain⟨g,k1,k2⟩:=hm m rfl (by rw[h2];trivial);rw[h2]at k1;have k1':BO.g key gone L=g:=by injection k1
   have k3:=k2 _ _ _ k1'.symm
   rw[h2',h2]at k3;have:gone'=gone:=by injection k3 with k3;injection k3
   subst this;exact⟨h1,gone',L,h2,es',c',since',seen',j',en',g1',g2',⟨by rw[<-x.blk _ h1];exact h3',by rw[<-eb,<-x.blk _ h1];exact h4',h5'⟩,h6.back x h6',by rw[<-eg];exact h7'⟩
  | q m key v=>exact k.elim
  | z=>trivial
  | t=>
   have k2:e'.gh id=0->w'.heap[e'.blk id]? = some (.deferred (some [])):=k'
   show e.gh id=0->w'.heap[e.blk id]? = some (.deferred (some []))
   rw[<-eb,<-eg];exact k2
  | v bz ps a b t=>
   obtain⟨r,h1,h2,h3,h4,h5,h6,h7,h8,h9⟩:=k;obtain⟨r',h1',h2',h3',h4',h5',h6',h7',h8',h9'⟩:=k';have hs:r'.tmps.size=r.tmps.size:=by rw[h9',h9,eg]
   exact⟨r',by rw[<-eb];exact h1',h2',h3',h4',by rw[hs]at h5'⊢;exact h5.back x h5',h6',h7',h8',by rw[h9',eg]⟩
end back
end Go.Ev
