/- Texts that the last one of this claim imports. -/
import Derived.RangeFuncNested
import Derived.Lib.Join
import Derived.Lib.SlTrimSet
import Derived.Lib.Bytealg
import Derived.Test.YtmdcedioddchfaaGreatDoorQ4
set_option linter.unusedVariables false
set_option linter.unusedSimpArgs false
set_option linter.unusedSectionVars false
section
set_option linter.unusedVariables false
set_option linter.unusedSimpArgs false
set_option linter.constructorNameAsVariable false
namespace Go.Ev
open Go.Lw Go.RowKit
def Ops (e:Env) (τ:L3) (a:Act) (o:Op):Prop:=∀ y∈o.operands.toList,Dn e ((evO y).v τ) (a.eval y)
theorem jS {s:Sem Value} {q:Value} {w w':World} (h:s.run Pr w=.ok q w'):(do pure (Next.value (←s)):Sem Next).run Pr w=.ok (.value q) w':=by
 simp only[Sem.run_bind,h,Result.andThen_ok,Sem.run_pure]
theorem run_u {s:Sem Unit} {w w':World} (h:s.run Pr w=.ok () w'):(do s; pure Next.skip:Sem Next).run Pr w=.ok .skip w':=by
 simp only[Sem.run_bind,h,Result.andThen_ok,Sem.run_pure]
theorem blt_p {b:Builtin} {ts:List TypeId} {l:List Operand} {g:L3→Option AV} (hk:bltE b ts l=.p g) {τ:L3} {x:AV} (hg:g τ=some x) {e:Env} {us:List Value} (hl:zN (Dn e) (l.map fun o=>(evO o).v τ) us) (ty:TypeId) :
  ∃ v,Dn e x v∧∀ cs w,(builtin b ⟨ts⟩ ty cs ⟨us⟩).run Pr w=.ok (.value v) w:=by
 cases b with
 | len=>
  cases ts with
  | nil=>cases(show OK.z=.p g from hk)
  | cons T ts=>
   obtain⟨q,h1,h2⟩:=len_p (show lenK T l=.p g from hk) hg hl ts ty
   exact⟨q,h1,fun _ w=>jS (h2 w)⟩
 | cap=>
  cases ts with
  | nil=>cases(show OK.z=.p g from hk)
  | cons T ts=>
   have hk':(bif sliceT T then OK.p (fun τ=>evL l τ fun us=>ku us fun x=>asO x fun x=>cpO x)else .z)=.p g:=hk
   cases hT:sliceT T with
   | false=>rw[hT]at hk'; cases hk'
   | true=>
    rw[hT]at hk'; cases hk'
    obtain⟨y,hy,h'⟩:=kr (jr hg)
    rw[hy]at hl
    cases us with
    | nil=>exact hl.elim
    | cons u us=>
     cases us with
     | cons=>exact hl.2.elim
     | nil=>
      obtain⟨q,h1,h2⟩:=cap_law hT h' hl.1 ts ty
      exact⟨q,h1,fun _ w=>jS (h2 w)⟩
 | max=>
  cases(show OK.p (fun τ=>evL l τ fun us=>(match us with | x::r=>mmx true x r | []=>none))=.p g from hk)
  have h':=jr hg
  generalize (l.map fun o=>(evO o).v τ)=xs at h' hl
  cases xs with
  | nil=>cases h'
  | cons y xs=>
   cases us with
   | nil=>exact hl.elim
   | cons u us=>
    obtain⟨q,h1,h2⟩:=mmx_law (mx:=true) h' hl.1 hl.2
    exact⟨q,h1,fun _ w=>jS (s:=Builtin.max_ ⟨ts⟩ ty ⟨u::us⟩) (h2 w)⟩
 | min=>
  cases(show OK.p (fun τ=>evL l τ fun us=>(match us with | x::r=>mmx false x r | []=>none))=.p g from hk)
  have h':=jr hg
  generalize (l.map fun o=>(evO o).v τ)=xs at h' hl
  cases xs with
  | nil=>cases h'
  | cons y xs=>
   cases us with
   | nil=>exact hl.elim
   | cons u us=>
    obtain⟨q,h1,h2⟩:=mmx_law (mx:=false) h' hl.1 hl.2
    exact⟨q,h1,fun _ w=>jS (s:=Builtin.min_ ⟨ts⟩ ty ⟨u::us⟩) (h2 w)⟩
 | append=>
  cases ts with
  | nil=>cases(show OK.z=.p g from hk)
  | cons X ts=>
   cases ts with
   | nil=>cases(show OK.z=.p g from hk)
   | cons Y ts=>cases(show(OK.w _)=.p g from hk)
 | copy=>cases ts<;>cases(show(_:OK)=.p g from hk)
 | clear=>cases ts<;>cases(show(_:OK)=.p g from hk)
 | delete=>cases ts<;>cases(show(_:OK)=.p g from hk)
 | _=>cases(show OK.z=.p g from hk)
theorem blt_r {b:Builtin} {ts:List TypeId} {l:List Operand} {g:L3→H→Option AV} (hk:bltE b ts l=.r g) {τ:L3} {h:H} {x:AV} (hg:g τ h=some x) {w0:World} {e:Env} {w:World} (R:zG w0 e h w) {us:List Value} (hl:zN (Dn e) (l.map fun o=>(evO o).v τ) us) (ty:TypeId) :
  ∃ v,Dn e x v∧∀ cs,(builtin b ⟨ts⟩ ty cs ⟨us⟩).run Pr w=.ok (.value v) w:=by
 cases b with
 | len=>
  cases ts with
  | nil=>cases(show OK.z=.r g from hk)
  | cons T ts=>
   have hk':lenK T l=.r g:=hk
   unfold lenK at hk'
   split at hk'
   ·rename_i K V hT
    cases hk'
    obtain⟨y,hy,h'⟩:=kr (jr hg)
    rw[hy]at hl
    cases us with
    | nil=>exact hl.elim
    | cons u us=>
     cases us with
     | cons=>exact hl.2.elim
     | nil=>
      obtain⟨o,rfl,h2⟩:=qL h'
      split at h2
      ·rename_i id
       have h3:(blkO h id fun b=>(match b with | .m l=>nat (len l) fun n=>iLn n | _=>none))=some x:=h2
       obtain⟨bb,hb,h4⟩:=jg h3
       cases bb with
       | m lm=>
        have h5:(nat (len lm) fun n=>iLn n)=some x:=h4
        rw[nat_eq,qU]at h5
        obtain rfl:=xw h5
        have hd:e.dom id∧u=.map (some (e.blk id)):=hl.1
        obtain⟨hd,rfl⟩:=hd
        obtain⟨es,c,k1,k2⟩:=R.map hd hb
        refine⟨_,rfl,fun _=>jS (s:=Builtin.len_ ⟨T::ts⟩ ty ⟨[_]⟩) (q:=.int .i64 lm.length) ?_⟩
        simp[Builtin.len_,run_underlying hT,qN k1,goInt,k2.1.length]
       | _=>cases h4
      ·obtain rfl:=xw h2
       have hu:u=.map none:=hl.1.1
       subst hu
       refine⟨_,rfl,fun _=>jS (s:=Builtin.len_ ⟨T::ts⟩ ty ⟨[_]⟩) (q:=.int .i64 (0:Nat)) ?_⟩
       simp[Builtin.len_,run_underlying hT,goInt]
      ·cases h2
   ·cases hk'
   ·cases hk'
   ·cases hk'
 | cap=>
  cases ts with
  | nil=>cases(show OK.z=.r g from hk)
  | cons T ts=>
   have hk':(bif sliceT T then OK.p (fun τ=>evL l τ fun us=>ku us fun x=>asO x fun x=>cpO x)else .z)=.r g:=hk
   cases hT:sliceT T<;>rw[hT]at hk'<;>cases hk'
 | append=>
  cases ts with
  | nil=>cases(show OK.z=.r g from hk)
  | cons X ts=>
   cases ts with
   | nil=>cases(show OK.z=.r g from hk)
   | cons Y ts=>cases(show(OK.w _)=.r g from hk)
 | copy=>cases ts<;>cases(show(_:OK)=.r g from hk)
 | clear=>cases ts<;>cases(show(_:OK)=.r g from hk)
 | delete=>cases ts<;>cases(show(_:OK)=.r g from hk)
 | _=>cases(show(_:OK)=.r g from hk)
theorem blt_a {b:Builtin} {ts:List TypeId} {l:List Operand} {g:L3→Option Al} (hk:bltE b ts l=.a g):False:=by
 cases b with
 | len=>
  cases ts with
  | nil=>cases(show OK.z=.a g from hk)
  | cons T ts=>
   have hk':lenK T l=.a g:=hk
   unfold lenK at hk'
   split at hk'<;>cases hk'
 | cap=>
  cases ts with
  | nil=>cases(show OK.z=.a g from hk)
  | cons T ts=>
   have hk':(bif sliceT T then OK.p (fun τ=>evL l τ fun us=>ku us fun x=>asO x fun x=>cpO x)else .z)=.a g:=hk
   cases hT:sliceT T<;>rw[hT]at hk'<;>cases hk'
 | append=>
  cases ts with
  | nil=>cases(show OK.z=.a g from hk)
  | cons X ts=>
   cases ts with
   | nil=>cases(show OK.z=.a g from hk)
   | cons Y ts=>cases(show(OK.w _)=.a g from hk)
 | copy=>cases ts<;>cases(show(_:OK)=.a g from hk)
 | clear=>cases ts<;>cases(show(_:OK)=.a g from hk)
 | delete=>cases ts<;>cases(show(_:OK)=.a g from hk)
 | _=>cases(show(_:OK)=.a g from hk)
theorem calE_blt {c:Callee} {ts:List TypeId} {l:List Operand} (h:∀ g,calE c ts l≠.w g) (hz:calE c ts l≠.z):∃ b,c=.builtin b∧calE c ts l=bltE b ts l:=by
 cases c with
 | builtin b=>exact⟨b,rfl,rfl⟩
 | invoke r n=>exact absurd rfl hz
 | value f=>
  cases f with
  | tmp t=>exact absurd rfl (h _)
  | const v=>exact absurd rfl (h _)
  | func f=>exact absurd rfl (h _)
  | global g=>exact absurd rfl hz
theorem pure_law {O:Oper} {g:L3→Option AV} (hk:opK O.op=.p g) {τ:L3} {x:AV} (hg:g τ=some x) {e:Env} {a:Act} (ho:Ops e τ a O.op):∃ v,Dn e x v∧∀ w,(execOp a.eval O).run Pr w=.ok (.value v) w:=by
 obtain⟨dst,op,ty,pos,after,guard⟩:=O
 have hk:opK op=.p g:=hk
 have ho:Ops e τ a op:=ho
 have one:∀ y,op.operands=#[y]→Dn e ((evO y).v τ) (a.eval y):=fun y h=>ho y (by rw[h]; simp)
 have two:∀ y z,op.operands=#[y,z]→Dn e ((evO y).v τ) (a.eval y)∧Dn e ((evO z).v τ) (a.eval z):=fun y z h=>⟨ho y (by rw[h]; simp),ho z (by rw[h]; simp)⟩
 have fin:∀ {s:Sem Value} {q:Value},Dn e x q→Gives s q→∃ v,Dn e x v∧∀ w,(do pure (Next.value (←s)):Sem Next).run Pr w=.ok (.value v) w:=fun h1 h2=>⟨_,h1,fun w=>jS (h2 w)⟩
 cases op with
 | move y=>
  have hk':OK.p (fun τ=>frc ((evO y).v τ) some)=.p g:=hk
  cases hk'
  have hg':frc ((evO y).v τ) some=some x:=hg
  rw[xy]at hg'; cases hg'
  exact⟨_,one y rfl,fun w=>rfl⟩
 | pick c p q=>
  have hk':OK.p (fun τ=>asB ((evO c).v τ) fun z=>Bool.rec (motive:=fun _=>L3→Option AV) (fun τ=>frc ((evO q).v τ) some) (fun τ=>frc ((evO p).v τ) some) z τ)=.p g:=hk
  cases hk'
  have hc:Dn e ((evO c).v τ) (a.eval c):=ho c (by simp[Op.operands])
  have hp:Dn e ((evO p).v τ) (a.eval p):=ho p (by simp[Op.operands])
  have hq:Dn e ((evO q).v τ) (a.eval q):=ho q (by simp[Op.operands])
  obtain⟨b,hb,hg⟩:=asB_law hg
  rw[hb]at hc
  have hc':a.eval c=.bool b:=hc
  cases b with
  | true=>
   have hg':frc ((evO p).v τ) some=some x:=hg
   rw[xy]at hg'; cases hg'
   exact⟨_,hp,fun w=>by simp[execOp,hc',asBool]⟩
  | false=>
   have hg':frc ((evO q).v τ) some=some x:=hg
   rw[xy]at hg'; cases hg'
   exact⟨_,hq,fun w=>by simp[execOp,hc',asBool]⟩
 | build X ps=>
  have hk':OK.p (fun τ=>buildE X ps.toList τ)=.p g:=hk
  cases hk'
  obtain⟨q,h1,h2⟩:=build_law (a:=a) hg fun p hp=>ho p.2 (by simp only[Op.operands]; exact List.mem_map_of_mem hp)
  have e1:(ps.map fun(i,x)=>(i,a.eval x))=(ps.toList.map fun p=>(p.1,a.eval p.2)).toArray:=by
   apply Array.ext'; simp
  refine⟨q,h1,fun w=>?_⟩
  show(do pure (Next.value (←Instr.build X (ps.map fun(i,x)=>(i,a.eval x)))):Sem Next).run Pr w=_
  rw[e1]; exact jS (h2 w)
 | nilCheck y=>
  have hk':OK.p (fun τ=>nilE ((evO y).v τ))=.p g:=hk
  cases hk'
  obtain⟨h1,h2⟩:=nil_law hg (one y rfl)
  exact⟨_,h1,fun w=>h2 a y rfl _ rfl w⟩
 | binOp op X y z Y=>
  have hk':OK.p (fun τ=>(binE op X).g ((evO y).v τ) ((evO z).v τ))=.p g:=hk
  cases hk'
  obtain⟨h1,h2⟩:=two y z rfl
  obtain⟨q,h3,h4⟩:=bin_law hg h1 h2
  exact fin h3 (h4 y z)
 | unOp op X y=>
  have hk':OK.p (fun τ=>(unE op).g ((evO y).v τ))=.p g:=hk
  cases hk'
  obtain⟨q,h3,h4⟩:=un_law hg (one y rfl)
  exact fin h3 h4
 | convert S T y=>
  have hk':OK.p (fun τ=>(convE S T).g ((evO y).v τ))=.p g:=hk
  cases hk'
  obtain⟨q,h3,h4⟩:=conv_law hg (one y rfl)
  exact fin h3 h4
 | slice X y lo hi mx=>
  have hk':OK.p (fun τ=>sliceE ((evO y).v τ) X lo hi mx τ)=.p g:=hk
  cases hk'
  have hy:Dn e ((evO y).v τ) (a.eval y):=ho y (by simp[Op.operands])
  obtain⟨q,h3,h4⟩:=slice_law (a:=a) hg hy (fun o h=>ho o (by subst h; simp[Op.operands])) (fun o h=>ho o (by subst h; simp[Op.operands])) (fun o h=>ho o (by subst h; simp[Op.operands]))
  exact fin h3 h4
 | fieldAddr S y f=>
  have hk':OK.p (fun τ=>(jW S f).g ((evO y).v τ))=.p g:=hk
  cases hk'
  obtain⟨q,h3,h4⟩:=fieldAddr_law hg (one y rfl)
  exact fin h3 h4
 | field S y f=>
  have hk':OK.p (fun τ=>(fieldE S f).g ((evO y).v τ))=.p g:=hk
  cases hk'
  obtain⟨q,h3,h4⟩:=field_law hg (one y rfl)
  exact fin h3 h4
 | indexAddr X y z=>
  have hk':OK.p (fun τ=>indexAddrE X ((evO y).v τ) ((evO z).v τ))=.p g:=hk
  cases hk'
  obtain⟨h1,h2⟩:=two y z rfl
  obtain⟨q,h3,h4⟩:=indexAddr_law hg h1 h2
  exact fin h3 h4
 | index X y z=>
  have hk':OK.p (fun τ=>indexE X ((evO y).v τ) ((evO z).v τ))=.p g:=hk
  cases hk'
  obtain⟨h1,h2⟩:=two y z rfl
  obtain⟨q,h3,h4⟩:=index_law hg h1 h2
  exact fin h3 h4
 | extract y j=>
  have hk':OK.p (fun τ=>extE ((evO y).v τ) j)=.p g:=hk
  cases hk'
  obtain⟨q,h3,h4⟩:=ext_law hg (one y rfl)
  exact fin h3 h4
 | call c=>
  obtain⟨cal,⟨l⟩,⟨ts⟩⟩:=c
  have hk':calE cal ts l=.p g:=hk
  obtain⟨b,rfl,hb⟩:=calE_blt (fun g' h=>by rw[h]at hk'; cases hk') (fun h=>by rw[h]at hk'; cases hk')
  rw[hb]at hk'
  have hl:zN (Dn e) (l.map fun o=>(evO o).v τ) (l.map a.eval):=evL_all fun o h=>ho o (by simp[Op.operands,Call.operands,h])
  obtain⟨v,h1,h2⟩:=blt_p hk' hg hl ty
  refine⟨v,h1,fun w=>?_⟩
  simp only[execOp,resolve,invoke,Sem.run_bind,Sem.run_pure,Result.andThen_ok,List.map_toArray]
  exact h2 _ w
 | makeFunc fn fs cs=>
  have hk':mkfE fn fs.toList cs.toList=.p g:=hk
  unfold mkfE at hk'
  split at hk'<;>cases hk'
 | makeMap T r=>
  cases r<;>cases(show(_:OK)=.p g from hk)
 | next y s=>cases s<;>cases(show(_:OK)=.p g from hk)
 | _=>cases(show(_:OK)=.p g from hk)
theorem read_law {O:Oper} {g:L3→H→Option AV} (hk:opK O.op=.r g) {τ:L3} {h:H} {x:AV} (hg:g τ h=some x) {e:Env} {a:Act} (ho:Ops e τ a O.op) {w0 w:World} (R:zG w0 e h w):∃ v,Dn e x v∧(execOp a.eval O).run Pr w=.ok (.value v) w:=by
 obtain⟨dst,op,ty,pos,after,guard⟩:=O
 have hk:opK op=.r g:=hk
 have ho:Ops e τ a op:=ho
 cases op with
 | load T y=>
  cases(show OK.r (fun τ h=>(loadE T).g ((evO y).v τ) h)=.r g from hk)
  obtain⟨q,h1,h2⟩:=load_law R hg (ho y (by simp[Op.operands]))
  exact⟨q,h1,jS h2⟩
 | lookup X y z ok=>
  cases(show OK.r (fun τ h=>lookupE X ((evO y).v τ) ((evO z).v τ) ok h)=.r g from hk)
  obtain⟨q,h1,h2⟩:=lookup_law R hg (ho y (by simp[Op.operands])) (ho z (by simp[Op.operands]))
  exact⟨q,h1,jS h2⟩
 | entry y=>
  cases(show OK.r (fun τ h=>entryE ((evO y).v τ) h)=.r g from hk)
  obtain⟨q,h1,h2⟩:=entry_law R hg (ho y (by simp[Op.operands]))
  exact⟨q,h1,jS h2⟩
 | call c=>
  obtain⟨cal,⟨l⟩,⟨ts⟩⟩:=c
  have hk':calE cal ts l=.r g:=hk
  obtain⟨b,rfl,hb⟩:=calE_blt (fun g' h=>by rw[h]at hk'; cases hk') (fun h=>by rw[h]at hk'; cases hk')
  rw[hb]at hk'
  have hl:zN (Dn e) (l.map fun o=>(evO o).v τ) (l.map a.eval):=evL_all fun o h=>ho o (by simp[Op.operands,Call.operands,h])
  obtain⟨v,h1,h2⟩:=blt_r hk' hg R hl ty
  refine⟨v,h1,?_⟩
  simp only[execOp,resolve,invoke,Sem.run_bind,Sem.run_pure,Result.andThen_ok,List.map_toArray]
  exact h2 _
 | makeFunc fn fs cs=>
  have hk':mkfE fn fs.toList cs.toList=.r g:=hk
  unfold mkfE at hk'
  split at hk'<;>cases hk'
 | makeMap T r=>cases r<;>cases(show(_:OK)=.r g from hk)
 | next y s=>cases s<;>cases(show(_:OK)=.r g from hk)
 | _=>cases(show(_:OK)=.r g from hk)
theorem al_law {O:Oper} {g:L3→Option Al} (hk:opK O.op=.a g) {τ:L3} {al:Al} (hg:g τ=some al) {e:Env} {a:Act} (ho:Ops e τ a O.op) (w:World):∃ q w',(execOp a.eval O).run Pr w=.ok (.value q) w'∧AllocOk e w al q w':=by
 obtain⟨dst,op,ty,pos,after,guard⟩:=O
 have hk:opK op=.a g:=hk
 have ho:Ops e τ a op:=ho
 cases op with
 | alloc E=>
  cases(show OK.a (fun _=>(allocE E).g)=.a g from hk)
  obtain⟨q,w',h1,h2⟩:=allocE_law (e:=e) hg w
  exact⟨q,w',jS h1,h2⟩
 | box E y=>
  cases(show OK.a (fun τ=>boxE E ((evO y).v τ))=.a g from hk)
  obtain⟨q,w',h1,h2⟩:=boxE_law hg (ho y (by simp[Op.operands])) w
  exact⟨q,w',jS h1,h2⟩
 | buildSlice X m ps=>
  cases(show OK.a (fun τ=>jY X m ps.toList τ)=.a g from hk)
  obtain⟨q,w',h1,h2⟩:=buildSlice_law (a:=a) hg (fun p hp=>ho p.2 (by simp only[Op.operands]; exact List.mem_map_of_mem hp)) w
  have e1:(ps.map fun(i,x)=>(i,a.eval x))=(ps.toList.map fun p=>(p.1,a.eval p.2)).toArray:=by
   apply Array.ext'; simp
  refine⟨q,w',?_,h2⟩
  show(do pure (Next.value (←Instr.buildSlice X m (ps.map fun(i,x)=>(i,a.eval x)))):Sem Next).run Pr w=_
  rw[e1]; exact jS h1
 | makeSlice X y z=>
  cases(show OK.a (fun τ=>makeSliceE X ((evO y).v τ) ((evO z).v τ))=.a g from hk)
  obtain⟨q,w',h1,h2⟩:=makeSlice_law hg (ho y (by simp[Op.operands])) (ho z (by simp[Op.operands])) w
  exact⟨q,w',jS h1,h2⟩
 | makeFunc fn fs cs=>
  have hk':mkfE fn fs.toList cs.toList=.a g:=hk
  obtain⟨q,w',h1,h2⟩:=makeFunc_law hk' hg (a:=a) (fun o h=>ho o (by simp[Op.operands,h])) (fun o h=>ho o (by simp[Op.operands,h])) w
  have e1:fs.map a.eval=(fs.toList.map a.eval).toArray:=by apply Array.ext'; simp
  have e2:cs.map a.eval=(cs.toList.map a.eval).toArray:=by apply Array.ext'; simp
  refine⟨q,w',?_,h2⟩
  show(do pure (Next.value (←Instr.makeFunc fn (fs.map a.eval) (cs.map a.eval))):Sem Next).run Pr w=_
  rw[e1,e2]; exact jS h1
 | makeMap T r=>
  cases r with
  | some r=>cases(show(_:OK)=.a g from hk)
  | none=>
   cases(show OK.a (fun _=>some (.mk (.o (.m [])) fun id=>.x (.o (.m id))))=.a g from hk)
   cases hg
   obtain⟨q,w',h1,h2⟩:=makeMap_law e T w
   exact⟨q,w',jS h1,h2⟩
 | call c=>
  obtain⟨cal,⟨l⟩,⟨ts⟩⟩:=c
  have hk':calE cal ts l=.a g:=hk
  obtain⟨b,rfl,hb⟩:=calE_blt (fun g' h=>by rw[h]at hk'; cases hk') (fun h=>by rw[h]at hk'; cases hk')
  rw[hb]at hk'
  exact(blt_a hk').elim
 | next y s=>cases s<;>cases(show(_:OK)=.a g from hk)
 | _=>cases(show(_:OK)=.a g from hk)
end Go.Ev
end
section
set_option linter.unusedVariables false
set_option linter.unusedSimpArgs false
set_option linter.constructorNameAsVariable false
namespace Go.Ev
open Go.Lw Go.RowKit
/-! ### What the plan says -/
theorem lor_test (a b i:Nat):(Nat.lor a b).testBit i=(a.testBit i || b.testBit i):=Nat.testBit_or a b i
theorem shl_test (n i:Nat):(Nat.shiftLeft 1 n).testBit i=decide (n=i):=by
 have:Nat.shiftLeft 1 n=2 ^ n:=by rw[show Nat.shiftLeft 1 n=1 <<< n from rfl,Nat.shiftLeft_eq,Nat.one_mul]
 rw[this,Nat.testBit_two_pow]
theorem nth_eq:∀ (l:List Nat) (i:Nat),nth l i=l.getD i 0
 | [],_=>rfl
 | x::l,0=>rfl
 | x::l,i+1=>by simpa [nth]using nth_eq l i
def WtOk (ops:Array Oper) (i m:Nat):Prop:=∀ j,m.testBit j=true→Waits ops i j
theorem wtO_ok {ops:Array Oper} {o:Oper} {i:Nat} (ho:ops[i]? = some o) {done:List Nat} (hd:∀ j m,done[j]? = some m→WtOk ops j m):WtOk ops i (wtO o i done):=by
 unfold wtO
 have key:∀ (es:List Edge),(∀ e∈es,e∈o.after)→WtOk ops i (es.foldr (fun e m=>bif Region.binds .any e && Nat.blt e.on i then Nat.lor m (Nat.lor (Nat.shiftLeft 1 e.on) (nth done e.on))else m) 0):=by
  intro es
  induction es with
  | nil=>intro _ j hj; simp at hj
  | cons e es ih=>
   intro he j hj
   simp only[List.foldr_cons]at hj
   cases hc:(Region.binds .any e && Nat.blt e.on i)with
   | false=>rw[hc]at hj; exact ih (fun e' h'=>he e' (by simp[h'])) j hj
   | true=>
    rw[hc]at hj
    simp only[cond_true,lor_test,shl_test,Bool.or_eq_true,decide_eq_true_eq]at hj
    simp only[Bool.and_eq_true]at hc
    have hmem:=he e (by simp)
    rcases hj with hj | hj | hj
    ·exact ih (fun e' h'=>he e' (by simp[h'])) j hj
    ·exact .one ho hmem hc.1 hj
    ·rw[nth_eq]at hj
     cases hn:done[e.on]? with
     | none=>simp[List.getD,hn]at hj
     | some m=>
      have:done.getD e.on 0=m:=by simp[List.getD,hn]
      rw[this]at hj
      exact .more ho hmem hc.1 (hd _ _ hn j hj)
 exact key _ fun e he=>Array.mem_toList_iff.1 he
structure RwOk (ops:Array Oper) (r:Rw):Prop where
 at_:ops[r.i]? = some r.o
 wt:WtOk ops r.i r.wt
 lk:r.lk=bitsOf (r.o.looksAt ops)
 ds:r.ds=bitsOf r.o.dst.toList
 kd:r.kd=kdO (opK r.o.op)
theorem rows_ok {ops:Array Oper} : ∀ {l:List Oper} {i:Nat} {done:List Nat},(∀ j o,l[j]? = some o→ops[i+j]? = some o)→done.length=i→(∀ j m,done[j]? = some m→WtOk ops j m)→∀ r∈rows ops l i done,RwOk ops r
 | [],_,_,_,_,_,r,hr=>by cases hr
 | o::l,i,done,hl,hlen,hd,r,hr=>by
  have h0:ops[i]? = some o:=by simpa using hl 0 o rfl
  have hw:=wtO_ok h0 hd
  have hr':r∈(nat (wtO o i done) fun m=>({ i:=i,o:=o,wt:=m,lk:=bitsOf (o.looksAt ops),ds:=bitsOf o.dst.toList,kd:=kdO (opK o.op) } : Rw)::rows ops l (i+1) (done++[m])):=hr
  rw[nat_eq]at hr'
  rcases List.mem_cons.1 hr' with rfl | hr'
  ·exact⟨h0,hw,rfl,rfl,rfl⟩
  ·refine rows_ok (fun j o' hj=>?_) (by simp[hlen]) (fun j m hj=>?_) r hr'
   ·have:=hl (j+1) o' (by simpa using hj)
    rw[←this]; congr 1; omega
   ·by_cases c:j<done.length
    ·rw[List.getElem?_append_left c]at hj; exact hd j m hj
    ·rw[List.getElem?_append_right (by omega)]at hj
     have:j=i:=by
      have:=(List.getElem?_eq_some_iff.1 hj).1
      simp at this; omega
     subst this
     rw[hlen,Nat.sub_self]at hj
     simp at hj; subst hj; exact hw
theorem pick1_mem:∀ {l:List Rw} {m:Nat} {r:Rw},pick1 l m=some r→r∈l
 | [],_,_,h=>by cases h
 | s::l,m,r,h=>by
  have h':(bif !Nat.beq s.kd 3 && rdyB m s then some s else pick1 l m)=some r:=h
  cases hc:(!Nat.beq s.kd 3 && rdyB m s)with
  | true=>rw[hc]at h'; cases h'; simp
  | false=>rw[hc]at h'; exact List.mem_cons_of_mem _ (pick1_mem h')
theorem pick2_mem:∀ {l:List Rw} {m:Nat} {r:Rw},pick2 l m=some r→r∈l
 | [],_,_,h=>by cases h
 | s::l,m,r,h=>by
  have h':(bif rdyB m s then some s else pick2 l m)=some r:=h
  cases hc:rdyB m s with
  | true=>rw[hc]at h'; cases h'; simp
  | false=>rw[hc]at h'; exact List.mem_cons_of_mem _ (pick2_mem h')
theorem ordE_mem {l:List Rw} : ∀ {n m:Nat} {r:Rw},r∈ordE l n m→r∈l
 | 0,_,_,h=>by cases h
 | n+1,m,r,h=>by
  simp only[ordE]at h
  split at h
  ·rename_i s hs
   rcases List.mem_cons.1 h with rfl | h
   ·exact pick1_mem hs
   ·exact ordE_mem h
  ·split at h
   ·rename_i s hs
    rcases List.mem_cons.1 h with rfl | h
    ·exact pick2_mem hs
    ·exact ordE_mem h
   ·cases h
theorem plan_ok (ops:Array Oper):∀ r∈planE ops,RwOk ops r:=fun r hr=>
 rows_ok (ops:=ops) (l:=ops.toList) (i:=0) (done:=[]) (fun j o hj=>by simpa using hj) rfl (fun j m h=>by simp at h) r (ordE_mem hr)
theorem land0 {l k:List Nat} (h:Nat.beq (Nat.land (bitsOf l) (bitsOf k)) 0=true):∀ i∈k,i∉l:=by
 refine bits_apart l k ?_
 rw[qc]at h
 rw[beq_iff_eq]; exact of_decide_eq_true h
structure PairOk (ops:Array Oper) (r s:Rw):Prop where
 ne:r.i≠s.i
 wr:r.kd=3→Waits ops s.i r.i
 rd:∀ d,r.o.dst=some d→d∈s.o.looksAt ops→Waits ops s.i r.i∧s.wt.testBit r.i=true
 anti:∀ d,s.o.dst=some d→d∈r.o.looksAt ops→s.kd=3∧Waits ops s.i r.i∧s.wt.testBit r.i=true
 ds:∀ d,r.o.dst=some d→s.o.dst≠some d
theorem pair_ok {ops:Array Oper} {r s:Rw} (hr:RwOk ops r) (hs:RwOk ops s) (h:okPair r s=true):PairOk ops r s:=by
 simp only[okPair,Bool.and_eq_true,Bool.or_eq_true,Bool.not_eq_true']at h
 obtain⟨⟨⟨⟨h1,h2⟩,h3⟩,h4⟩,h5⟩:=h
 rw[qc,decide_eq_false_iff_not]at h1
 refine⟨h1,fun k=>?_,fun d hd hm=>?_,fun d hd hm=>?_,fun d hd hd'=>?_⟩
 ·rcases h2 with h2 | h2
  ·rw[qc,decide_eq_false_iff_not]at h2; exact absurd k h2
  ·exact hs.wt _ h2
 ·rcases h3 with h3 | h3
  ·rw[hs.lk,hr.ds]at h3
   exact absurd hm (land0 h3 d (by simp[hd]))
  ·exact⟨hs.wt _ h3,h3⟩
 ·rcases h4 with h4 | h4
  ·rw[hr.lk,hs.ds]at h4
   exact absurd hm (land0 h4 d (by simp[hd]))
  ·rw[qc,decide_eq_true_eq]at h4
   exact⟨h4.1,hs.wt _ h4.2,h4.2⟩
 ·rw[hr.ds,hs.ds]at h5
  exact land0 h5 d (by simp[hd']) (by simp[hd])
theorem okPlan_law {ops:Array Oper} : ∀ {l:List Rw} {m:Nat},(∀ r∈l,RwOk ops r)→okPlan l m=true→l.Pairwise (PairOk ops)∧(∀ r∈l,r.kd≠3→∀ d,r.o.dst=some d→d∉r.o.looksAt ops)∧
  (∀ r∈l,∀ e∈r.o.after,Region.binds .any e=true→r.wt.testBit e.on=true)∧∀ (pre post:List Rw) (r:Rw),l=pre++r::post→∀ j,r.wt.testBit j=true→m.testBit j=true∨∃ s∈pre,s.i=j
 | [],m,_,_=>⟨.nil,fun r hr=>by(cases hr),fun r hr=>by(cases hr),fun pre post r h=>by(cases pre<;>cases h)⟩
 | r::l,m,hl,h=>by
  simp only[okPlan,Bool.and_eq_true]at h
  obtain⟨⟨⟨h1,h2⟩,h3⟩,h4⟩:=h
  have hr:=hl r (by simp)
  obtain⟨i1,i2,i3,i4⟩:=okPlan_law (fun s hs=>hl s (by simp[hs])) h4
  simp only[okRow,Bool.and_eq_true,Bool.or_eq_true]at h1
  have sub:∀ j,r.wt.testBit j=true→m.testBit j=true:=fun j hj=>by
   rw[qc,decide_eq_true_eq]at h2
   have:(Nat.land r.wt m).testBit j=r.wt.testBit j:=by rw[h2]
   rw[show Nat.land r.wt m=r.wt &&& m from rfl,Nat.testBit_and,hj]at this
   simpa using this
  refine⟨.cons (fun s hs=>pair_ok hr (hl s (by simp[hs])) (List.all_eq_true.1 h3 s hs)) i1,fun s hs hk d hd=>?_,fun s hs e he hb=>?_,fun pre post s hp j hj=>?_⟩
  ·rcases List.mem_cons.1 hs with rfl | hs
   ·rcases h1.1 with k | k
    ·rw[qc,decide_eq_true_eq]at k; exact absurd k hk
    ·rw[hr.lk,hr.ds]at k
     exact land0 k d (by simp[hd])
   ·exact i2 s hs hk d hd
  ·rcases List.mem_cons.1 hs with rfl | hs
   ·have:=List.all_eq_true.1 h1.2 e (Array.mem_toList_iff.2 he)
    rw[hb]at this
    simpa using this
   ·exact i3 s hs e he hb
  ·cases pre with
   | nil=>
    simp at hp
    obtain⟨rfl,rfl⟩:=hp
    exact .inl (sub j hj)
   | cons q pre=>
    simp at hp
    obtain⟨rfl,rfl⟩:=hp
    rcases i4 pre post s rfl j hj with k | ⟨t,ht,htj⟩
    ·rw[lor_test,shl_test]at k
     simp only[Bool.or_eq_true,decide_eq_true_eq]at k
     rcases k with k | k
     ·exact .inl k
     ·exact .inr ⟨r,by simp,k⟩
    ·exact .inr ⟨t,by simp[ht],htj⟩
end Go.Ev
end
section
set_option linter.unusedVariables false
set_option linter.unusedSimpArgs false
set_option linter.constructorNameAsVariable false
namespace Go.Ev
open Go.Lw Go.RowKit
def SameAt (τ τ':L3) (o:Op):Prop:=∀ t,.tmp t∈o.operands.toList→(q3 t).g τ'=(q3 t).g τ
theorem evO_same {τ τ':L3} {o:Op} (h:SameAt τ τ' o) {y:Operand} (hy:y∈o.operands.toList):(evO y).v τ'=(evO y).v τ:=by
 cases y with
 | tmp t=>exact h t hy
 | const v=>rfl
 | global g=>rfl
 | func f=>rfl
theorem evL_same {Z:Type} {τ τ':L3} : ∀ {l:List Operand} {K:List AV→Option Z},(∀ y∈l,(evO y).v τ'=(evO y).v τ)→evL l τ' K=evL l τ K
 | [],K,_=>rfl
 | o::l,K,h=>by
  show(frc ((evO o).v τ') fun v=>evL l τ' fun r=>K (v::r))=frc ((evO o).v τ) fun v=>evL l τ fun r=>K (v::r)
  rw[xy,xy,h o (by simp)]
  exact evL_same fun y hy=>h y (by simp[hy])
theorem fillE_same {Z:Type} {X:TypeId} {τ τ':L3} : ∀ {ps:List (Nat×Operand)} {l:List Sc} {K:List Sc→Option Z},(∀ p∈ps,(evO p.2).v τ'=(evO p.2).v τ)→fillE X τ' ps l K=fillE X τ ps l K
 | [],l,K,_=>rfl
 | p::ps,l,K,h=>by
  have key:∀ τ,fillE X τ (p::ps) l K=Option.rec (motive:=fun _=>Option Z) none (fun z=>cellsOf ((evO p.2).v τ) fun cs=>gd (Nat.beq (len cs) z.2) (spl z.1 cs l fun l=>fillE X τ ps l K)) (plB X p.1):=fun τ=>rfl
  rw[key,key,h p (by simp)]
  cases plB X p.1 with
  | none=>rfl
  | some q=>
   have e:∀ l,fillE X τ' ps l K=fillE X τ ps l K:=fun l=>fillE_same fun y hy=>h y (by simp[hy])
   simp only[e]
theorem optI_same {Z:Type} {τ τ':L3} {o:Option Operand} {d:Nat} {K:Nat→Option Z} (h:∀ y,o=some y→(evO y).v τ'=(evO y).v τ):qB o τ' d K=qB o τ d K:=by
 cases o with
 | none=>rfl
 | some y=>
  show(asI ((evO y).v τ') fun _ n=>nn n fun n=>K n)=asI ((evO y).v τ) fun _ n=>nn n fun n=>K n
  rw[h y rfl]
theorem sliceE_same {x:AV} {X:TypeId} {lo hi mx:Option Operand} {τ τ':L3} (h1:∀ y,lo=some y→(evO y).v τ'=(evO y).v τ) (h2:∀ y,hi=some y→(evO y).v τ'=(evO y).v τ) (h3:∀ y,mx=some y→(evO y).v τ'=(evO y).v τ):sliceE x X lo hi mx τ'=sliceE x X lo hi mx τ:=by
 unfold sliceE
 congr 1
 have a1:∀ {d:Nat} {K:Nat→Option AV},qB lo τ' d K=qB lo τ d K:=optI_same h1
 have a2:∀ {d:Nat} {K:Nat→Option AV},qB hi τ' d K=qB hi τ d K:=optI_same h2
 have a3:∀ {d:Nat} {K:Nat→Option AV},qB mx τ' d K=qB mx τ d K:=optI_same h3
 cases x with
 | x s=>
  cases s with
  | p id off=>
   show(pa X fun q=>qB lo τ' 0 fun l=>qB hi τ' q.1 fun u=>qB mx τ' q.1 fun m=>gd (Nat.ble l u && Nat.ble u m && Nat.ble m q.1) (cut id off q.2.2.1 l u m))=(pa X fun q=>qB lo τ 0 fun l=>qB hi τ q.1 fun u=>qB mx τ q.1 fun m=>gd (Nat.ble l u && Nat.ble u m && Nat.ble m q.1) (cut id off q.2.2.1 l u m))
   simp only[a1,a2,a3]
  | o x=>
   cases x with
   | s id off len cap=>
    show(el X fun _ s=>qB lo τ' 0 fun l=>qB hi τ' len fun u=>qB mx τ' cap fun m=>gd (Nat.ble l u && Nat.ble u m && Nat.ble m cap) (cut id off s l u m))=(el X fun _ s=>qB lo τ 0 fun l=>qB hi τ len fun u=>qB mx τ cap fun m=>gd (Nat.ble l u && Nat.ble u m && Nat.ble m cap) (cut id off s l u m))
    simp only[a1,a2,a3]
   | w id off len ct=>
    cases mx with
    | none=>
     show(el X fun _ s=>qB lo τ' 0 fun l=>qB hi τ' len fun u=>(gd (Nat.ble l u && Nat.ble u len) (kI (Nat.blt l len || Nat.beq l 0) (nat (off+l*s) fun o=>nat (u-l) fun n=>nat (ct+l) fun c=>some (AV.x (.o (.w id o n c)))) (some (AV.x (.o .e))))))=(el X fun _ s=>qB lo τ 0 fun l=>qB hi τ len fun u=>(gd (Nat.ble l u && Nat.ble u len) (kI (Nat.blt l len || Nat.beq l 0) (nat (off+l*s) fun o=>nat (u-l) fun n=>nat (ct+l) fun c=>some (AV.x (.o (.w id o n c)))) (some (AV.x (.o .e))))))
     simp only[a1,a2]
    | some mo=>
     show(el X fun _ s=>qB lo τ' 0 fun l=>qB hi τ' len fun u=>qB (some mo) τ' 0 fun m=>gd (Nat.ble l u && Nat.ble u m && Nat.ble m len) (cut id off s l u m))=(el X fun _ s=>qB lo τ 0 fun l=>qB hi τ len fun u=>qB (some mo) τ 0 fun m=>gd (Nat.ble l u && Nat.ble u m && Nat.ble m len) (cut id off s l u m))
     simp only[a1,a2,a3]
   | e=>
    cases mx with
    | none=>
     show(el X fun _ _=>qB lo τ' 0 fun l=>qB hi τ' 0 fun u=>gd (Nat.beq (l+u) 0) (some (AV.x (.o .e))))=(el X fun _ _=>qB lo τ 0 fun l=>qB hi τ 0 fun u=>gd (Nat.beq (l+u) 0) (some (AV.x (.o .e))))
     simp only[a1,a2]
    | some mo=>
     show(el X fun _ _=>qB lo τ' 0 fun l=>qB hi τ' 0 fun u=>(none:Option AV))=(el X fun _ _=>qB lo τ 0 fun l=>qB hi τ 0 fun u=>(none:Option AV))
     simp only[a1,a2]
   | c v=>
    show slV v X lo hi mx τ'=slV v X lo hi mx τ
    unfold slV
    split
    ·simp only[a1,a2,a3]
    ·cases mx<;>simp only[a1,a2]
    ·rfl
   | _=>rfl
  | _=>rfl
 | _=>rfl
theorem evL_eq {Z:Type} {τ:L3} : ∀ {l:List Operand} {K:List AV→Option Z},evL l τ K=K (l.map fun o=>(evO o).v τ)
 | [],K=>rfl
 | o::l,K=>by
  have h':evL (o::l) τ K=(frc ((evO o).v τ) fun v=>evL l τ fun r=>K (v::r)):=rfl
  rw[h',xy,evL_eq]; rfl
theorem blt_same_p {b:Builtin} {ts:List TypeId} {l:List Operand} {g:L3→Option AV} (hk:bltE b ts l=.p g) {τ τ':L3} (h:∀ K:List AV→Option AV,evL l τ' K=evL l τ K):g τ'=g τ:=by
 cases b with
 | len=>
  cases ts with
  | nil=>cases(show OK.z=.p g from hk)
  | cons T ts=>
   have hk':lenK T l=.p g:=hk
   unfold lenK at hk'
   split at hk'
   ·cases hk'
   ·cases hk'; exact h _
   ·cases hk'; exact h _
   ·cases hk'
 | cap=>
  cases ts with
  | nil=>cases(show OK.z=.p g from hk)
  | cons T ts=>
   have hk':(bif sliceT T then OK.p (fun τ=>evL l τ fun us=>ku us fun x=>asO x fun x=>cpO x)else .z)=.p g:=hk
   cases hT:sliceT T<;>rw[hT]at hk'<;>cases hk'
   exact h _
 | max=>cases(show OK.p (fun τ=>evL l τ fun us=>(match us with | x::r=>mmx true x r | []=>none))=.p g from hk); exact h _
 | min=>cases(show OK.p (fun τ=>evL l τ fun us=>(match us with | x::r=>mmx false x r | []=>none))=.p g from hk); exact h _
 | append=>
  cases ts with
  | nil=>cases(show OK.z=.p g from hk)
  | cons X ts=>
   cases ts with
   | nil=>cases(show OK.z=.p g from hk)
   | cons Y ts=>cases(show(OK.w _)=.p g from hk)
 | copy=>cases ts<;>cases(show(_:OK)=.p g from hk)
 | clear=>cases ts<;>cases(show(_:OK)=.p g from hk)
 | delete=>cases ts<;>cases(show(_:OK)=.p g from hk)
 | _=>cases(show OK.z=.p g from hk)
theorem blt_r_form {b:Builtin} {ts:List TypeId} {l:List Operand} {g:L3→H→Option AV} (hk:bltE b ts l=.r g):g=fun τ h=>evL l τ fun us=>ku us fun x=>asO x fun x=>(match x with | .m id=>lnO x h | .c (.map none)=>iLn 0 | _=>none):=by
 cases b with
 | len=>
  cases ts with
  | nil=>cases(show OK.z=.r g from hk)
  | cons T ts=>
   have hk':lenK T l=.r g:=hk
   unfold lenK at hk'
   split at hk'
   ·cases hk'; rfl
   ·cases hk'
   ·cases hk'
   ·cases hk'
 | cap=>
  cases ts with
  | nil=>cases(show OK.z=.r g from hk)
  | cons T ts=>
   have hk':(bif sliceT T then OK.p (fun τ=>evL l τ fun us=>ku us fun x=>asO x fun x=>cpO x)else .z)=.r g:=hk
   cases hT:sliceT T<;>rw[hT]at hk'<;>cases hk'
 | append=>
  cases ts with
  | nil=>cases(show OK.z=.r g from hk)
  | cons X ts=>
   cases ts with
   | nil=>cases(show OK.z=.r g from hk)
   | cons Y ts=>cases(show(OK.w _)=.r g from hk)
 | copy=>cases ts<;>cases(show(_:OK)=.r g from hk)
 | clear=>cases ts<;>cases(show(_:OK)=.r g from hk)
 | delete=>cases ts<;>cases(show(_:OK)=.r g from hk)
 | _=>cases(show(_:OK)=.r g from hk)
theorem p_same {o:Op} {g:L3→Option AV} (hk:opK o=.p g) {τ τ':L3} (h:SameAt τ τ' o):g τ'=g τ:=by
 have ev:∀ y∈o.operands.toList,(evO y).v τ'=(evO y).v τ:=fun y hy=>evO_same h hy
 cases o with
 | move y=>cases(show OK.p (fun τ=>frc ((evO y).v τ) some)=.p g from hk); show frc ((evO y).v τ') some=frc ((evO y).v τ) some; rw[ev y (by simp[Op.operands])]
 | pick c p q=>
  cases(show OK.p (fun τ=>asB ((evO c).v τ) fun z=>Bool.rec (motive:=fun _=>L3→Option AV) (fun τ=>frc ((evO q).v τ) some) (fun τ=>frc ((evO p).v τ) some) z τ)=.p g from hk)
  show(asB ((evO c).v τ') fun z=>Bool.rec (motive:=fun _=>L3→Option AV) (fun τ=>frc ((evO q).v τ) some) (fun τ=>frc ((evO p).v τ) some) z τ')=(asB ((evO c).v τ) fun z=>Bool.rec (motive:=fun _=>L3→Option AV) (fun τ=>frc ((evO q).v τ) some) (fun τ=>frc ((evO p).v τ) some) z τ)
  rw[ev c (by simp[Op.operands])]
  congr 1
  funext z
  cases z
  ·show frc ((evO q).v τ') some=frc ((evO q).v τ) some; rw[ev q (by simp[Op.operands])]
  ·show frc ((evO p).v τ') some=frc ((evO p).v τ) some; rw[ev p (by simp[Op.operands])]
 | build X ps=>
  cases(show OK.p (fun τ=>buildE X ps.toList τ)=.p g from hk)
  show buildE X ps.toList τ'=buildE X ps.toList τ
  unfold buildE
  have:∀ l,(fillE X τ' ps.toList l fun l=>some (AV.a l))=fillE X τ ps.toList l fun l=>some (AV.a l):=fun l=>fillE_same fun p hp=>ev p.2 (by simp only[Op.operands]; exact List.mem_map_of_mem hp)
  simp only[this]
 | nilCheck y=>cases(show OK.p (fun τ=>nilE ((evO y).v τ))=.p g from hk); show nilE ((evO y).v τ')=nilE ((evO y).v τ); rw[ev y (by simp[Op.operands])]
 | binOp op X y z Y=>cases(show OK.p (fun τ=>(binE op X).g ((evO y).v τ) ((evO z).v τ))=.p g from hk); show(binE op X).g ((evO y).v τ') ((evO z).v τ')=(binE op X).g ((evO y).v τ) ((evO z).v τ); rw[ev y (by simp[Op.operands]),ev z (by simp[Op.operands])]
 | unOp op X y=>cases(show OK.p (fun τ=>(unE op).g ((evO y).v τ))=.p g from hk); show(unE op).g ((evO y).v τ')=(unE op).g ((evO y).v τ); rw[ev y (by simp[Op.operands])]
 | convert S T y=>cases(show OK.p (fun τ=>(convE S T).g ((evO y).v τ))=.p g from hk); show(convE S T).g ((evO y).v τ')=(convE S T).g ((evO y).v τ); rw[ev y (by simp[Op.operands])]
 | slice X y lo hi mx=>
  cases(show OK.p (fun τ=>sliceE ((evO y).v τ) X lo hi mx τ)=.p g from hk)
  show sliceE ((evO y).v τ') X lo hi mx τ'=sliceE ((evO y).v τ) X lo hi mx τ
  rw[ev y (by simp[Op.operands])]
  exact sliceE_same (fun o h=>ev o (by subst h; simp[Op.operands])) (fun o h=>ev o (by subst h; simp[Op.operands])) (fun o h=>ev o (by subst h; simp[Op.operands]))
 | fieldAddr S y f=>cases(show OK.p (fun τ=>(jW S f).g ((evO y).v τ))=.p g from hk); show(jW S f).g ((evO y).v τ')=(jW S f).g ((evO y).v τ); rw[ev y (by simp[Op.operands])]
 | field S y f=>cases(show OK.p (fun τ=>(fieldE S f).g ((evO y).v τ))=.p g from hk); show(fieldE S f).g ((evO y).v τ')=(fieldE S f).g ((evO y).v τ); rw[ev y (by simp[Op.operands])]
 | indexAddr X y z=>cases(show OK.p (fun τ=>indexAddrE X ((evO y).v τ) ((evO z).v τ))=.p g from hk); show indexAddrE X ((evO y).v τ') ((evO z).v τ')=indexAddrE X ((evO y).v τ) ((evO z).v τ); rw[ev y (by simp[Op.operands]),ev z (by simp[Op.operands])]
 | index X y z=>cases(show OK.p (fun τ=>indexE X ((evO y).v τ) ((evO z).v τ))=.p g from hk); show indexE X ((evO y).v τ') ((evO z).v τ')=indexE X ((evO y).v τ) ((evO z).v τ); rw[ev y (by simp[Op.operands]),ev z (by simp[Op.operands])]
 | extract y j=>cases(show OK.p (fun τ=>extE ((evO y).v τ) j)=.p g from hk); show extE ((evO y).v τ') j=extE ((evO y).v τ) j; rw[ev y (by simp[Op.operands])]
 | call c=>
  obtain⟨cal,⟨l⟩,⟨ts⟩⟩:=c
  have hk':calE cal ts l=.p g:=hk
  obtain⟨b,rfl,hb⟩:=calE_blt (fun g' h=>by rw[h]at hk'; cases hk') (fun h=>by rw[h]at hk'; cases hk')
  rw[hb]at hk'
  have hE:∀ K:List AV→Option AV,evL l τ' K=evL l τ K:=fun K=>evL_same fun y hy=>ev y (by simp[Op.operands,Call.operands,hy])
  exact blt_same_p hk' hE
 | makeFunc fn fs cs=>
  have hk':mkfE fn fs.toList cs.toList=.p g:=hk
  unfold mkfE at hk'
  split at hk'<;>cases hk'
 | makeMap T r=>cases r<;>cases(show(_:OK)=.p g from hk)
 | next y s=>cases s<;>cases(show(_:OK)=.p g from hk)
 | _=>cases(show(_:OK)=.p g from hk)
theorem r_same {o:Op} {g:L3→H→Option AV} (hk:opK o=.r g) {τ τ':L3} (h:SameAt τ τ' o) (m:H):g τ' m=g τ m:=by
 have ev:∀ y∈o.operands.toList,(evO y).v τ'=(evO y).v τ:=fun y hy=>evO_same h hy
 cases o with
 | load T y=>cases(show OK.r (fun τ h=>(loadE T).g ((evO y).v τ) h)=.r g from hk); show(loadE T).g ((evO y).v τ') m=(loadE T).g ((evO y).v τ) m; rw[ev y (by simp[Op.operands])]
 | lookup X y z ok=>cases(show OK.r (fun τ h=>lookupE X ((evO y).v τ) ((evO z).v τ) ok h)=.r g from hk); show lookupE X ((evO y).v τ') ((evO z).v τ') ok m=lookupE X ((evO y).v τ) ((evO z).v τ) ok m; rw[ev y (by simp[Op.operands]),ev z (by simp[Op.operands])]
 | entry y=>cases(show OK.r (fun τ h=>entryE ((evO y).v τ) h)=.r g from hk); show entryE ((evO y).v τ') m=entryE ((evO y).v τ) m; rw[ev y (by simp[Op.operands])]
 | call c=>
  obtain⟨cal,⟨l⟩,⟨ts⟩⟩:=c
  have hk':calE cal ts l=.r g:=hk
  obtain⟨b,rfl,hb⟩:=calE_blt (fun g' h=>by rw[h]at hk'; cases hk') (fun h=>by rw[h]at hk'; cases hk')
  rw[hb]at hk'
  have hE:∀ K:List AV→Option AV,evL l τ' K=evL l τ K:=fun K=>evL_same fun y hy=>ev y (by simp[Op.operands,Call.operands,hy])
  rw[blt_r_form hk']
  exact hE _
 | makeFunc fn fs cs=>
  have hk':mkfE fn fs.toList cs.toList=.r g:=hk
  unfold mkfE at hk'
  split at hk'<;>cases hk'
 | makeMap T r=>cases r<;>cases(show(_:OK)=.r g from hk)
 | next y s=>cases s<;>cases(show(_:OK)=.r g from hk)
 | _=>cases(show(_:OK)=.r g from hk)
theorem a_same {o:Op} {g:L3→Option Al} (hk:opK o=.a g) {τ τ':L3} (h:SameAt τ τ' o):g τ'=g τ:=by
 have ev:∀ y∈o.operands.toList,(evO y).v τ'=(evO y).v τ:=fun y hy=>evO_same h hy
 cases o with
 | alloc E=>cases(show OK.a (fun _=>(allocE E).g)=.a g from hk); rfl
 | box E y=>cases(show OK.a (fun τ=>boxE E ((evO y).v τ))=.a g from hk); show boxE E ((evO y).v τ')=boxE E ((evO y).v τ); rw[ev y (by simp[Op.operands])]
 | buildSlice X m ps=>
  cases(show OK.a (fun τ=>jY X m ps.toList τ)=.a g from hk)
  show jY X m ps.toList τ'=jY X m ps.toList τ
  unfold jY
  have:∀ (l:List Sc) (K:List Sc→Option Al),fillE X τ' ps.toList l K=fillE X τ ps.toList l K:=fun l K=>fillE_same fun p hp=>ev p.2 (by simp only[Op.operands]; exact List.mem_map_of_mem hp)
  simp only[this]
 | makeSlice X y z=>cases(show OK.a (fun τ=>makeSliceE X ((evO y).v τ) ((evO z).v τ))=.a g from hk); show makeSliceE X ((evO y).v τ') ((evO z).v τ')=makeSliceE X ((evO y).v τ) ((evO z).v τ); rw[ev y (by simp[Op.operands]),ev z (by simp[Op.operands])]
 | makeFunc fn fs cs=>
  have hk':mkfE fn fs.toList cs.toList=.a g:=hk
  unfold mkfE at hk'
  split at hk'
  ·rename_i f
   cases hk'
   have e1:∀ K:List AV→Option Al,evL fs.toList τ' K=evL fs.toList τ K:=fun K=>evL_same fun y hy=>ev y (by simp only[Op.operands,Array.toList_append,List.mem_append]; exact .inl hy)
   have e2:∀ K:List AV→Option Al,evL cs.toList τ' K=evL cs.toList τ K:=fun K=>evL_same fun y hy=>ev y (by simp only[Op.operands,Array.toList_append,List.mem_append]; exact .inr hy)
   simp only[e1,e2]
  ·cases hk'
 | makeMap T r=>
  cases r with
  | some r=>cases(show(_:OK)=.a g from hk)
  | none=>cases(show OK.a (fun _=>some (.mk (.o (.m [])) fun id=>.x (.o (.m id))))=.a g from hk); rfl
 | call c=>
  obtain⟨cal,⟨l⟩,⟨ts⟩⟩:=c
  have hk':calE cal ts l=.a g:=hk
  obtain⟨b,rfl,hb⟩:=calE_blt (fun g' h=>by rw[h]at hk'; cases hk') (fun h=>by rw[h]at hk'; cases hk')
  rw[hb]at hk'
  exact(blt_a hk').elim
 | next y s=>cases s<;>cases(show(_:OK)=.a g from hk)
 | _=>cases(show(_:OK)=.a g from hk)
theorem r_more {o:Op} {g:L3→H→Option AV} (hk:opK o=.r g) {τ:L3} {h h':H} (hm:∀ j,hget h j≠.x→hget h' j=hget h j) {x:AV} (hg:g τ h=some x):g τ h'=some x:=by
 cases o with
 | load T y=>cases(show OK.r (fun τ h=>(loadE T).g ((evO y).v τ) h)=.r g from hk); exact load_more hm hg
 | lookup X y z ok=>cases(show OK.r (fun τ h=>lookupE X ((evO y).v τ) ((evO z).v τ) ok h)=.r g from hk); exact lookup_more hm hg
 | entry y=>cases(show OK.r (fun τ h=>entryE ((evO y).v τ) h)=.r g from hk); exact entry_more hm hg
 | call c=>
  obtain⟨cal,⟨l⟩,⟨ts⟩⟩:=c
  have hk':calE cal ts l=.r g:=hk
  obtain⟨b,rfl,hb⟩:=calE_blt (fun g' h=>by rw[h]at hk'; cases hk') (fun h=>by rw[h]at hk'; cases hk')
  rw[hb]at hk'
  have hf:=blt_r_form hk'
  subst hf
  have hg':(evL l τ fun us=>ku us fun x=>asO x fun x=>(match x with | .m id=>lnO x h | .c (.map none)=>iLn 0 | _=>none))=some x:=hg
  show(evL l τ fun us=>ku us fun x=>asO x fun x=>(match x with | .m id=>lnO x h' | .c (.map none)=>iLn 0 | _=>none))=some x
  rw[evL_eq]at hg'⊢
  obtain⟨y,hy,h2⟩:=kr hg'
  rw[hy]
  obtain⟨o,rfl,h3⟩:=qL h2
  cases o with
  | m id=>
   have h4:(blkO h id fun b=>(match b with | .m l=>nat (len l) fun n=>iLn n | _=>none))=some x:=h3
   have h5:(blkO h' id fun b=>(match b with | .m l=>nat (len l) fun n=>iLn n | _=>none))=some x:=blkO_more hm h4
   exact h5
  | c v=>exact h3
  | _=>cases h3
 | makeFunc fn fs cs=>
  have hk':mkfE fn fs.toList cs.toList=.r g:=hk
  unfold mkfE at hk'
  split at hk'<;>cases hk'
 | makeMap T r=>cases r<;>cases(show(_:OK)=.r g from hk)
 | next y s=>cases s<;>cases(show(_:OK)=.r g from hk)
 | _=>cases(show(_:OK)=.r g from hk)
end Go.Ev
end
section
set_option linter.unusedVariables false
set_option linter.unusedSimpArgs false
set_option linter.constructorNameAsVariable false
namespace Go.Ev
open Go.Lw Go.RowKit
def SetF (τ τ':L3) (d:Option Nat) (x:AV):Prop:=∀ j,j<512→(q3 j).g τ'=if d=some j then x else (q3 j).g τ
theorem putE_law {d:Option Nat} {x:AV} {τ:L3} {h:H} {K:KO} {z:List (AV×H)} (hd:∀ i,d=some i→i<512) (hh:putE d x τ h K=some z):∃ τ',K τ' h=some z∧SetF τ τ' d x:=by
 cases d with
 | none=>exact⟨τ,hh,fun j _=>by simp⟩
 | some d=>
  obtain⟨τ',h1,h2⟩:=q3_set τ x (hd d rfl)
  have hh':((q3 d).s τ x fun τ=>K τ h)=some z:=hh
  rw[h1]at hh'
  refine⟨τ',hh',fun j hj=>?_⟩
  rw[h2 j hj]
  by_cases c:j=d
  ·subst c; simp
  ·rw[if_neg c,if_neg (fun k=>c (Option.some.inj k).symm)]
theorem dstOf_eq:∀ (l:List Oper) (j:Nat),dstOf l j=(l[j]?).bind (·.dst)
 | [],0=>rfl
 | [],j+1=>rfl
 | o::l,0=>rfl
 | o::l,j+1=>by
  show dstOf l j=_
  rw[dstOf_eq l j]; simp
noncomputable def wanted (all:List Oper) (o:Oper) (τ:L3):Option Bool:=match o.guard with
 | none=>some true
 | some g=>(match dstOf all g.1 with | some d=>wantB g.2 ((q3 d).g τ) | none=>none)
theorem oper_law {all:List Oper} {o:Oper} {ih:IH} {τ:L3} {h:H} {K:KO} {z:List (AV×H)} (hh:(operE all o).g ih τ h K=some z) :
  (wanted all o τ=some false∧putE o.dst .n τ h K=some z)∨(wanted all o τ=some true∧(stpE (opK o.op) o.dst).g ih τ h K=some z):=by
 unfold operE at hh
 unfold wanted
 cases hg:o.guard with
 | none=>rw[hg]at hh; exact .inr ⟨rfl,hh⟩
 | some g=>
  rw[hg]at hh
  cases hd:dstOf all g.1 with
  | none=>
   have hh':(Option.rec (motive:=fun _=>Re) (.mk fun _ _ _ _=>none) (fun d=>.mk fun ih τ h K=>obn (wantB g.2 ((q3 d).g τ)) fun b=>Bool.rec (motive:=fun _=>IH→L3→H→KO→R) (fun ih τ h K=>(skpE o.dst).g ih τ h K) (fun ih τ h K=>(stpE (opK o.op) o.dst).g ih τ h K) b ih τ h K) (dstOf all g.1):Re).g ih τ h K=some z:=hh
   rw[hd]at hh'; cases hh'
  | some d=>
   have hh':(Option.rec (motive:=fun _=>Re) (.mk fun _ _ _ _=>none) (fun d=>.mk fun ih τ h K=>obn (wantB g.2 ((q3 d).g τ)) fun b=>Bool.rec (motive:=fun _=>IH→L3→H→KO→R) (fun ih τ h K=>(skpE o.dst).g ih τ h K) (fun ih τ h K=>(stpE (opK o.op) o.dst).g ih τ h K) b ih τ h K) (dstOf all g.1):Re).g ih τ h K=some z:=hh
   rw[hd]at hh'
   obtain⟨b,hb,hh'⟩:=zO hh'
   cases b with
   | false=>exact .inl ⟨by simp only[hd]; exact hb,hh'⟩
   | true=>exact .inr ⟨by simp only[hd]; exact hb,hh'⟩
theorem wanted_law {ops:Array Oper} {o:Oper} {τ:L3} {b:Bool} (hw:wanted ops.toList o τ=some b) {e:Env} {n:Nat} {Z:Nat→Prop} {tmps:Array Value} (F:jc e n Z τ tmps) (hok:okP n ops o=true) (hZ:∀ d∈o.looksAt ops,¬ Z d) :
  Region.wanted o (yielded ops tmps)=b:=by
 unfold wanted at hw
 unfold Region.wanted
 cases hg:o.guard with
 | none=>rw[hg]at hw; cases hw; rfl
 | some g=>
  obtain⟨gi,want⟩:=g
  rw[hg]at hw
  simp only[dstOf_eq,Array.getElem?_toList]at hw
  simp only[okP,hg,Bool.and_eq_true]at hok
  have hok:=hok.2
  cases hog:ops[gi]? with
  | none=>rw[hog]at hok; cases hok
  | some od=>
   rw[hog]at hok hw
   cases hd:od.dst with
   | none=>simp only[hd]at hok; cases hok
   | some d=>
    simp only[hd]at hok
    simp only[Option.bind_some,hd]at hw
    have hdn:d<tmps.size:=by rw[F.1]; exact jI hok
    have hlook:d∈o.looksAt ops:=by
     unfold Oper.looksAt
     rw[hg]
     simp[hog,hd]
    have hv:=F.2.2 d _ (Array.getElem?_eq_getElem hdn) (hZ d hlook)
    have hy:yielded ops tmps gi=(match tmps[d]with | .bool b=>some b | _=>none):=by
     simp only[yielded,hog,Option.bind_some,hd,Array.getElem?_eq_getElem hdn]
     cases tmps[d]<;>rfl
    unfold wantB at hw
    split at hw
    ·rename_i c hc
     rw[hc]at hv
     have hv':tmps[d]=.bool c:=hv
     cases hw
     show(yielded ops tmps gi == some want)=_
     rw[hy,hv']
     cases c<;>cases want<;>rfl
    ·rename_i hc
     rw[hc]at hv
     have hv':tmps[d]=undef:=hv
     cases hw
     show(yielded ops tmps gi == some want)=_
     rw[hy,hv']
     cases want<;>rfl
    ·cases hw
theorem xq {ops:Array Oper} {o:Oper} {n:Nat} (h:okP n ops o=true):(∀ y∈o.op.operands.toList,okO n y=true)∧(∀ d,o.dst=some d→d<n)∧Nd o=true:=by
 simp only[okP,Bool.and_eq_true]at h
 obtain⟨⟨⟨h1,h2⟩,h3⟩,_⟩:=h
 refine⟨List.all_eq_true.1 h1,fun d hd=>?_,h3⟩
 rw[hd]at h2
 exact jI (by simpa using h2)
theorem ops_law {e:Env} {n:Nat} {Z:Nat→Prop} {τ:L3} {a:Act} {ops:Array Oper} {o:Oper} (F:jc e n Z τ a.tmps) (hok:okP n ops o=true) (hZ:∀ d∈o.looksAt ops,¬ Z d):Ops e τ a o.op:=fun y hy=>by
 refine evO_law F ((xq hok).1 y hy) fun t ht=>hZ t ?_
 subst ht
 unfold Oper.looksAt
 exact List.mem_append_left _ (List.mem_filterMap.2 ⟨.tmp t,hy,rfl⟩)
theorem looks_same {τ τ':L3} {ops:Array Oper} {o:Oper} (h:∀ t∈o.looksAt ops,(q3 t).g τ'=(q3 t).g τ):SameAt τ τ' o.op:=fun t ht=>h t (by
 unfold Oper.looksAt
 exact List.mem_append_left _ (List.mem_filterMap.2 ⟨.tmp t,ht,rfl⟩))
theorem jb {τ τ':L3} {ops:Array Oper} {o:Oper} (h:∀ t∈o.looksAt ops,(q3 t).g τ'=(q3 t).g τ):wanted ops.toList o τ'=wanted ops.toList o τ:=by
 unfold wanted
 cases hg:o.guard with
 | none=>rfl
 | some g=>
  simp only[dstOf_eq,Array.getElem?_toList]
  cases hd:(ops[g.1]?).bind (·.dst)with
  | none=>rfl
  | some d=>
   simp only
   rw[h d (by unfold Oper.looksAt; rw[hg]; obtain⟨g1,g2⟩:=g; simp only at hd⊢; rw[hd]; simp)]
def WOk (w0:World) (ih:IH):Prop:=∀ (O:Oper) (g:IH→L3→H→KV→R),opK O.op=.w g→∀ {e:Env} {τ:L3} {h:H} {K:KV} {z:List (AV×H)} {a:Act} {w:World},g ih τ h K=some z→Ops e τ a O.op→zG w0 e h w→opW Pr O a w fun a' w'=>∃ v,a'=a.put O.dst v∧Out w0 e h K v w'
def OutR (w0:World) (n:Nat) (e0:Env) (h0:H) (τ0:L3) (ds:List Deferred) (ws:Nat→Prop) (K:KO):Act→World→Prop:=fun a' w'=>∃ e' τ' h' z',K τ' h'=some z'∧jc e' n noZ τ' a'.tmps∧zG w0 e' h' w'∧Fr e0 h0 e' h'∧a'.defers=ds∧∀ t,t<512→¬ ws t→(q3 t).g τ'=(q3 t).g τ0
theorem SetF.keep {τ τ':L3} {d:Option Nat} {x:AV} (s:SetF τ τ' d x) {t:Nat} (ht:t<512) (hn:d≠some t):(q3 t).g τ'=(q3 t).g τ:=by rw[s t ht,if_neg hn]
theorem jc.set {e:Env} {n:Nat} {Z Z':Nat→Prop} {τ τ':L3} {a:Act} {d:Option Nat} {x:AV} {v:Value} (F:jc e n Z τ a.tmps) (s:SetF τ τ' d x) (hd:∀ i,d=some i→i<n) (hx:Dn e x v) (hz:∀ t,¬ Z' t→d≠some t→¬ Z t):jc e n Z' τ' (a.put d v).tmps:=by
 cases d with
 | none=>
  refine⟨F.1,F.2.1,fun t u hu ht=>?_⟩
  have hlt:t<a.tmps.size:=(Array.getElem?_eq_some_iff.1 hu).1
  rw[F.1]at hlt
  rw[s t (by have:=F.2.1; omega),if_neg (by simp)]
  exact F.2.2 t u hu (hz t ht (by simp))
 | some i=>
  refine F.put (hd i rfl) hx (fun j hj=>?_) fun t ht hne=>hz t ht (fun k=>hne (Option.some.inj k).symm)
  rw[s j hj]
  by_cases c:j=i
  ·subst c; simp
  ·rw[if_neg c,if_neg (fun k=>c (Option.some.inj k).symm)]
theorem put_defers (a:Act) (d:Option Nat) (v:Value):(a.put d v).defers=a.defers:=by cases d<;>rfl
theorem st_law {w0:World} {ih:IH} (W:WOk w0 ih) {ops:Array Oper} {o:Oper} {n:Nat} (hok:okP n ops o=true) {τ:L3} {h:H} {K:KO} {z:List (AV×H)} (hh:(operE ops.toList o).g ih τ h K=some z) {e:Env} {a:Act} {w:World} (F:jc e n noZ τ a.tmps) (R:zG w0 e h w) :
  stW Pr ops o a w (OutR w0 n e h τ a.defers (fun t=>o.dst=some t) K):=by
 obtain⟨k1,k2,k3⟩:=xq hok
 have h512:∀ i,o.dst=some i→i<512:=fun i hi=>Nat.lt_of_lt_of_le (k2 i hi) F.2.1
 -- from a value to what is left
 have fin:∀ {e':Env} {h':H} {x:AV} {v:Value} {w':World} {z':List (AV×H)},Fr e h e' h'→zG w0 e' h' w'→Dn e' x v→putE o.dst x τ h' K=some z'→OutR w0 n e h τ a.defers (fun t=>o.dst=some t) K (a.put o.dst v) w':=fun {e' h' x v w' z'} hf hr hx hp=>by
  obtain⟨τ',j1,j2⟩:=putE_law h512 hp
  exact⟨e',τ',h',z',j1,(F.ext hf.ext).set j2 k2 hx (fun _ _ _ h=>h),hr,hf,put_defers _ _ _,fun t ht hn=>j2.keep ht hn⟩
 rcases oper_law hh with ⟨hw,hp⟩ | ⟨hw,hp⟩
 ·have:=wanted_law hw F hok (fun _ _ h=>h)
  unfold stW
  rw[if_neg (by rw[this]; simp)]
  exact fin (.refl e h) R (show Dn e .n undef from rfl) hp
 ·have:=wanted_law hw F hok (fun _ _ h=>h)
  unfold stW
  rw[if_pos this]
  have hO:=ops_law F hok (fun _ _ h=>h)
  cases hk:opK o.op with
  | p g=>
   rw[hk]at hp
   obtain⟨x,hg,hp⟩:=zO (o:=g τ) (k:=fun v=>putE o.dst v τ h K) hp
   obtain⟨v,hv,hr⟩:=pure_law hk hg hO
   unfold opW
   rw[hr w]
   exact fin (.refl e h) R hv hp
  | r g=>
   rw[hk]at hp
   obtain⟨x,hg,hp⟩:=zO (o:=g τ h) (k:=fun v=>putE o.dst v τ h K) hp
   obtain⟨v,hv,hr⟩:=read_law hk hg hO R
   unfold opW
   rw[hr]
   exact fin (.refl e h) R hv hp
  | a g=>
   rw[hk]at hp
   obtain⟨al,hg,hp⟩:=zO (o:=g τ) (k:=fun al=>newB h al.b fun id h=>putE o.dst (al.v id) τ h K) hp
   obtain⟨q,w',hr,hA⟩:=al_law hk hg hO w
   obtain⟨x,h',e',z',j1,j2,j3,j4⟩:=R.alloc hA (K:=fun x h=>putE o.dst x τ h K) hp
   unfold opW
   rw[hr]
   exact fin j4 j3 j2 j1
  | w g=>
   rw[hk]at hp
   have hp':g ih τ h (fun v h=>putE o.dst v τ h K)=some z:=hp
   refine opW_mono (fun a' w' ⟨v,hv,hO⟩=>?_) (W o g hk hp' hO R)
   obtain⟨x,h',e',z',j1,j2,j3,j4⟩:=hO
   subst hv
   exact fin j4 j3 j2 j1
  | z=>rw[hk]at hp; cases hp
theorem OutR.trans {w0:World} {n:Nat} {e0 e:Env} {h0 h:H} {τ0 τ:L3} {ds:List Deferred} {ws ws':Nat→Prop} {K:KO} {a:Act} {w:World} (hf:Fr e0 h0 e h) (hs:∀ t,t<512→¬ ws t→(q3 t).g τ=(q3 t).g τ0) (hw:∀ t,ws' t→ws t) (o:OutR w0 n e h τ ds ws' K a w):OutR w0 n e0 h0 τ0 ds ws K a w:=by
 obtain⟨e',τ',h',z',j1,j2,j3,j4,j5,j6⟩:=o
 exact⟨e',τ',h',z',j1,j2,j3,hf.trans j4,j5,fun t ht hn=>(j6 t ht fun k=>hn (hw t k)).trans (hs t ht hn)⟩
theorem text_law {w0:World} {ih:IH} (W:WOk w0 ih) {ops:Array Oper} {n:Nat} (hok:∀ o∈ops.toList,okP n ops o=true) {K:KO} {ro:Option Nat} {Q:Exit→Act→World→Prop} : ∀ (l:List Oper) (k:Nat) {τ:L3} {h:H} {z:List (AV×H)} {e:Env} {a:Act} {w:World},
  (∀ j o,l[j]? = some o→ops[k+j]? = some o)→(opsE ops.toList l).g ih τ h K=some z→jc e n noZ τ a.tmps→zG w0 e h w→
  (∀ a' w',OutR w0 n e h τ a.defers (fun t=>t∈wro l) K a' w'→Q .normal a' w')→wpOpsIn (FW ro) 0 Pr ops Q (List.range' k l.length) a w
 | [],k,τ,h,z,e,a,w,_,hh,F,R,hQ=>by
  have:Q .normal a w:=hQ a w ⟨e,τ,h,z,hh,F,R,.refl e h,rfl,fun _ _ _=>rfl⟩
  simpa [wpOpsIn]using this
 | o::l,k,τ,h,z,e,a,w,hl,hh,F,R,hQ=>by
  have ho:ops[k]? = some o:=by simpa using hl 0 o rfl
  have hmem:o∈ops.toList:=Array.mem_toList_iff.2 (Array.mem_of_getElem? ho)
  have hh':(operE ops.toList o).g ih τ h (fun τ h=>(opsE ops.toList l).g ih τ h K)=some z:=hh
  rw[List.length_cons,List.range'_succ,wpOpsIn_cons]
  refine stW_wpOpIn ho (xq (hok o hmem)).2.2 (qI (fun a' w' hO=>?_) (st_law W (hok o hmem) hh' F R))
  obtain⟨e',τ',h',z',j1,j2,j3,j4,j5,j6⟩:=hO
  have hw:∀ t,t∈wro (o::l)↔o.dst=some t∨t∈wro l:=fun t=>by
   have:wro (o::l)=Option.rec (motive:=fun _=>List Nat) (wro l) (fun d=>d::wro l) o.dst:=rfl
   rw[this]
   cases o.dst with
   | none=>simp
   | some d=>simp[eq_comm]
  refine text_law W hok l (k+1) (fun j o' hj=>?_) j1 j2 j3 fun a2 w2 hO2=>hQ a2 w2 ?_
  ·have:=hl (j+1) o' (by simpa using hj)
   rw[←this]; congr 1; omega
  ·rw[j5]at hO2
   exact hO2.trans j4 (fun t ht hn=>j6 t ht fun k=>hn ((hw t).2 (.inl k))) fun t k=>(hw t).2 (.inr k)
end Go.Ev
end
section
set_option linter.unusedVariables false
set_option linter.unusedSimpArgs false
set_option linter.constructorNameAsVariable false
namespace Go.Ev
open Go.Lw Go.RowKit
theorem filter_less {γ:Type} {p q:γ→Bool} : ∀ {l:List γ} {x:γ},(∀ y∈l,p y=true→q y=true)→x∈l→q x=true→p x=false→(l.filter p).length<(l.filter q).length
 | y::l,x,h,hx,hq,hp=>by
  have sub:(l.filter p).length≤(l.filter q).length:=by
   have:∀ (m:List γ),(∀ y∈m,p y=true→q y=true)→(m.filter p).length≤(m.filter q).length:=by
    intro m
    induction m with
    | nil=>intro _; simp
    | cons z m ih=>
     intro hm
     have:=ih fun y hy=>hm y (by simp[hy])
     simp only[List.filter_cons]
     cases hpz:p z with
     | true=>rw[hm z (by simp) hpz]; simpa using this
     | false=>cases hqz:q z<;>simp<;>omega
   exact this l fun y hy=>h y (by simp[hy])
  rcases List.mem_cons.1 hx with rfl | hx
  ·simp only[List.filter_cons,hp,hq]
   simp; omega
  ·have:=filter_less (fun y hy=>h y (by simp[hy])) hx hq hp
   simp only[List.filter_cons]
   cases hpy:p y with
   | true=>rw[h y (by simp) hpy]; simpa using this
   | false=>cases hqy:q y<;>simp<;>omega
section
variable (w0:World) (ih:IH) (ops:Array Oper) (n:Nat) (K:KO) (e0:Env) (h0:H) (τ0:L3) (ds:List Deferred) (π:List Rw)
def PendOk (e:Env) (τ:L3) (h:H) (idOf:Nat→Nat) (r:Rw):Prop:=
 (wanted ops.toList r.o τ=some false∧∀ d,r.o.dst=some d→(q3 d).g τ=.n)∨
 (wanted ops.toList r.o τ=some true∧
  ((∃ g x,opK r.o.op=.p g∧g τ=some x∧∀ d,r.o.dst=some d→(q3 d).g τ=x)∨
   (∃ g x,opK r.o.op=.r g∧g τ h=some x∧∀ d,r.o.dst=some d→(q3 d).g τ=x)∨
   (∃ g al,opK r.o.op=.a g∧g τ=some al∧h0.nxt≤idOf r.i∧idOf r.i<h.nxt∧¬ e.dom (idOf r.i)∧hget h (idOf r.i)=al.b∧∀ d,r.o.dst=some d→(q3 d).g τ=al.v (idOf r.i))))
def isAl (τ:L3) (r:Rw):Prop:=wanted ops.toList r.o τ=some true∧∃ g,opK r.o.op=.a g
structure RS (pre rest Z:List Rw) (listed:Array Bool) (e:Env) (τ:L3) (h:H) (z:List (AV×H)) (a:Act) (w:World):Prop where
 hp:π=pre.reverse++rest
 hz:∀ r∈Z,r∈pre∧r.kd≠3
 hl:∀ r∈π,listed.getD r.i false=true↔(r∈pre∧r∉Z)
 size:listed.size=ops.size
 down:Down ops listed
 run:(runP ops.toList rest pre).g ih τ h K=some z
 F:jc e n (fun t=>∃ r∈Z,r.o.dst=some t) τ a.tmps
 R:zG w0 e h w
 fr:Fr e0 h0 e h
 ds:a.defers=ds
 agree:∀ t,t<512→(∀ r∈π,r.o.dst≠some t)→(q3 t).g τ=(q3 t).g τ0
 pend:∃ idOf:Nat→Nat,(∀ r∈Z,PendOk ops h0 e τ h idOf r)∧∀ r∈Z,∀ s∈Z,isAl ops τ r→isAl ops τ s→idOf r.i=idOf s.i→r=s
structure ky:Prop where
 row:∀ r∈π,RwOk ops r
 all:∀ i,i<ops.size→∃ r∈π,r.i=i
 pair:π.Pairwise (PairOk ops)
 self:∀ r∈π,r.kd≠3→∀ d,r.o.dst=some d→d∉r.o.looksAt ops
 edge:∀ r∈π,∀ e∈r.o.after,Region.binds .any e=true→r.wt.testBit e.on=true
 before:∀ (pre post:List Rw) (r:Rw),π=pre++r::post→∀ j,r.wt.testBit j=true→∃ s∈pre,s.i=j
 ok:∀ o∈ops.toList,okP n ops o=true
end
section
variable {w0:World} {ih:IH} {ops:Array Oper} {n:Nat} {K:KO} {e0:Env} {h0:H} {τ0:L3} {ds:List Deferred} {π:List Rw} {pre rest Z:List Rw} {listed:Array Bool} {e:Env} {τ:L3} {h:H} {z:List (AV×H)} {a:Act} {w:World}
theorem pair_at {α:Type} {p:α→α→Prop} {A B:List α} {r:α} (h:(A++r::B).Pairwise p):(∀ s∈A,p s r)∧∀ s∈B,p r s:=by
 rw[List.pairwise_append]at h
 exact⟨fun s hs=>h.2.2 s hs r (by simp),(List.pairwise_cons.1 h.2.1).1⟩
theorem ky.inj (P:ky ops n π) {r s:Rw} (hr:r∈π) (hs:s∈π) (h:r.i=s.i):r=s:=by
 obtain⟨A,B,rfl⟩:=List.append_of_mem hr
 obtain⟨h1,h2⟩:=pair_at P.pair
 rcases List.mem_append.1 hs with hs | hs
 ·exact absurd h.symm (h1 s hs).ne
 ·rcases List.mem_cons.1 hs with rfl | hs
  ·rfl
  ·exact absurd h (h2 s hs).ne
theorem ky.op (P:ky ops n π) {r:Rw} (hr:r∈π):okP n ops r.o=true:=P.ok _ (Array.mem_toList_iff.2 (Array.mem_of_getElem? (P.row r hr).at_))
theorem RS.mem_pre (S:RS w0 ih ops n K e0 h0 τ0 ds π pre rest Z listed e τ h z a w) {r:Rw} (hr:r∈pre):r∈π:=by rw[S.hp]; simp[hr]
theorem RS.mem_rest (S:RS w0 ih ops n K e0 h0 τ0 ds π pre rest Z listed e τ h z a w) {r:Rw} (hr:r∈rest):r∈π:=by rw[S.hp]; simp[hr]
theorem RS.sep (S:RS w0 ih ops n K e0 h0 τ0 ds π pre rest Z listed e τ h z a w) (P:ky ops n π) {r s:Rw} (hr:r∈pre) (hs:s∈rest):PairOk ops r s:=by
 have:=P.pair
 rw[S.hp,List.pairwise_append]at this
 exact this.2.2 r (by simpa using hr) s hs
theorem RS.unl (S:RS w0 ih ops n K e0 h0 τ0 ds π pre rest Z listed e τ h z a w) (P:ky ops n π) {r:Rw} (hr:r∈Z∨r∈rest):listed.getD r.i false=false:=by
 cases hl:listed.getD r.i false with
 | false=>rfl
 | true=>
  rcases hr with hr | hr
  ·exact absurd hr ((S.hl r (S.mem_pre (S.hz r hr).1)).1 hl).2
  ·exact absurd rfl (S.sep P ((S.hl r (S.mem_rest hr)).1 hl).1 hr).ne
theorem RS.looks (S:RS w0 ih ops n K e0 h0 τ0 ds π pre rest Z listed e τ h z a w) (P:ky ops n π) {r:Rw} (hr:r∈π) (hrd:r.i∈Region.ready .any ops listed) (hpos:r∈Z∨∃ B,rest=r::B):∀ d∈r.o.looksAt ops,¬ ∃ s∈Z,s.o.dst=some d:=by
 rintro d hd ⟨s,hs,hsd⟩
 have hsp:=(S.hz s hs).1
 have hsπ:=S.mem_pre hsp
 have wait:PairOk ops s r→False:=fun p=>by
  have:=ready_waits S.down (p.rd d hsd hd).1 hrd
  rw[S.unl P (.inl hs)]at this; cases this
 rcases hpos with hz | ⟨B,hB⟩
 ·by_cases c:s=r
  ·subst c; exact P.self s hsπ (S.hz s hs).2 d hsd hd
  ·obtain⟨A,B,hAB⟩:=List.append_of_mem hsπ
   have hp:=P.pair
   rw[hAB]at hp hr
   obtain⟨h1,h2⟩:=pair_at hp
   rcases List.mem_append.1 hr with hr | hr
   ·exact(S.hz s hs).2 ((h1 r hr).anti d hsd hd).1
   ·rcases List.mem_cons.1 hr with rfl | hr
    ·exact c rfl
    ·exact wait (h2 r hr)
 ·exact wait (S.sep P hsp (by rw[hB]; simp))
theorem kd_of {r:Rw} (h:RwOk ops r):(r.kd=3↔(∃ g,opK r.o.op=.w g)∨opK r.o.op=.z):=by
 rw[h.kd]
 cases opK r.o.op with
 | p g=>
   constructor; · intro k; cases k
   ·rintro(⟨g,k⟩ | k)<;>cases k
 | r g=>
   constructor; · intro k; cases k
   ·rintro(⟨g,k⟩ | k)<;>cases k
 | a g=>
   constructor; · intro k; cases k
   ·rintro(⟨g,k⟩ | k)<;>cases k
 | w g=>exact⟨fun _=>.inl ⟨g,rfl⟩,fun _=>rfl⟩
 | z=>exact⟨fun _=>.inr rfl,fun _=>rfl⟩
theorem run_cons {r:Rw} {l done:List Rw} : runP ops.toList (r::l) done=Bool.rec (motive:=fun _=>Re)
  (.mk fun i τ h K=>(operE ops.toList r.o).g i τ h fun τ h=>(runP ops.toList l (r::done)).g i τ h K)
  (.mk fun i τ h K=>(operE ops.toList r.o).g i τ h fun τ h=>gd ((rcksE ops.toList (pend r done)).g τ h) ((runP ops.toList l (r::done)).g i τ h K)) (Nat.beq r.kd 3):=rfl
end
end Go.Ev
end
section
set_option linter.unusedVariables false
set_option linter.unusedSimpArgs false
set_option linter.constructorNameAsVariable false
namespace Go.Ev
open Go.Lw Go.RowKit
section
variable {w0:World} {ih:IH} {ops:Array Oper} {n:Nat} {K:KO} {e0:Env} {h0:H} {τ0:L3} {ds:List Deferred} {π:List Rw} {pre rest Z:List Rw} {listed:Array Bool} {e:Env} {τ:L3} {h:H} {z:List (AV×H)} {a:Act} {w:World}
theorem looks_lt {o:Oper} {ops:Array Oper} {n:Nat} (hok:okP n ops o=true):∀ t∈o.looksAt ops,t<n:=by
 intro t ht
 simp only[okP,Bool.and_eq_true]at hok
 obtain⟨⟨⟨h1,_⟩,_⟩,h4⟩:=hok
 unfold Oper.looksAt at ht
 rcases List.mem_append.1 ht with ht | ht
 ·obtain⟨y,hy,hyt⟩:=List.mem_filterMap.1 ht
  have:=List.all_eq_true.1 h1 y hy
  cases y with
  | tmp s=>simp at hyt; subst hyt; exact jI this
  | _=>simp at hyt
 ·cases hg:o.guard with
  | none=>rw[hg]at ht; simp at ht
  | some g=>
   obtain⟨gi,wt⟩:=g
   rw[hg]at ht h4
   simp only at ht h4
   cases hog:ops[gi]? with
   | none=>rw[hog]at h4; cases h4
   | some od=>
    rw[hog]at ht h4
    simp only[Option.bind_some]at ht h4
    cases hd:od.dst with
    | none=>rw[hd]at ht; simp at ht
    | some d=>rw[hd]at ht h4; simp at ht; subst ht; exact jI h4
theorem PendOk.keep {idOf idOf':Nat→Nat} {r:Rw} {e':Env} {τ':L3} {h':H} (p:PendOk ops h0 e τ h idOf r) (hlook:∀ t∈r.o.looksAt ops,(q3 t).g τ'=(q3 t).g τ) (hdst:∀ d,r.o.dst=some d→(q3 d).g τ'=(q3 d).g τ)
  (hr:∀ g x,opK r.o.op=.r g→wanted ops.toList r.o τ=some true→g τ' h=some x→(∀ d,r.o.dst=some d→(q3 d).g τ=x)→g τ' h'=some x)
  (ha:isAl ops τ r→idOf' r.i=idOf r.i∧(idOf r.i<h.nxt→idOf r.i<h'.nxt)∧(idOf r.i<h.nxt→¬ e.dom (idOf r.i)→¬ e'.dom (idOf r.i)∧hget h' (idOf r.i)=hget h (idOf r.i))):PendOk ops h0 e' τ' h' idOf' r:=by
 have hs:=looks_same hlook
 have hw:=jb (ops:=ops) (o:=r.o) hlook
 rcases p with ⟨p1,p2⟩ | ⟨p1,p2 | p2 | p2⟩
 ·exact .inl ⟨hw.trans p1,fun d hd=>(hdst d hd).trans (p2 d hd)⟩
 ·obtain⟨g,x,g1,g2,g3⟩:=p2
  exact .inr ⟨hw.trans p1,.inl ⟨g,x,g1,by rw[p_same g1 hs]; exact g2,fun d hd=>(hdst d hd).trans (g3 d hd)⟩⟩
 ·obtain⟨g,x,g1,g2,g3⟩:=p2
  exact .inr ⟨hw.trans p1,.inr (.inl ⟨g,x,g1,hr g x g1 p1 (by rw[r_same g1 hs]; exact g2) g3,fun d hd=>(hdst d hd).trans (g3 d hd)⟩)⟩
 ·obtain⟨g,al,g1,g2,g3,g4,g5,g6,g7⟩:=p2
  obtain⟨k1,k2,k3⟩:=ha ⟨p1,g,g1⟩
  obtain⟨k4,k5⟩:=k3 g4 g5
  exact .inr ⟨hw.trans p1,.inr (.inr ⟨g,al,g1,by rw[a_same g1 hs]; exact g2,by rw[k1]; exact g3,by rw[k1]; exact k2 g4,by rw[k1]; exact k4,by rw[k1,k5]; exact g6,fun d hd=>by rw[k1]; exact(hdst d hd).trans (g7 d hd)⟩)⟩
theorem RS.adv {s:Rw} (S:RS w0 ih ops n K e0 h0 τ0 ds π pre (s::rest) Z listed e τ h z a w) (P:ky ops n π) (hk:s.kd≠3):∃ τ' h',RS w0 ih ops n K e0 h0 τ0 ds π (s::pre) rest (s::Z) listed e τ' h' z a w:=by
 have hsπ:=S.mem_rest (r:=s) (by simp)
 have hok:=P.op hsπ
 obtain⟨k1,k2,k3⟩:=xq hok
 have h512:∀ i,s.o.dst=some i→i<512:=fun i hi=>Nat.lt_of_lt_of_le (k2 i hi) S.F.2.1
 have hrun:=S.run
 rw[run_cons]at hrun
 have hb:Nat.beq s.kd 3=false:=by rw[qc,decide_eq_false_iff_not]; exact hk
 rw[hb]at hrun
 have hrun:(operE ops.toList s.o).g ih τ h (fun τ h=>(runP ops.toList rest (s::pre)).g ih τ h K)=some z:=hrun
 have hsZ:s∉Z:=fun k=>(S.sep P (S.hz s k).1 (by simp:s∈s::rest)).ne rfl
 obtain⟨idOf,hpend,hinj⟩:=S.pend
 -- the places of what waits are not those that s leaves
 have far:∀ r∈Z,(∀ t∈r.o.looksAt ops,s.o.dst≠some t)∧(∀ d,r.o.dst=some d→s.o.dst≠some d):=fun r hr=>by
  have p:=S.sep P (S.hz r hr).1 (by simp:s∈s::rest)
  exact⟨fun t ht hd=>hk (p.anti t hd ht).1,fun d hd=>p.ds d hd⟩
 have lk512:∀ r∈π,∀ t∈r.o.looksAt ops,t<512:=fun r hr t ht=>Nat.lt_of_lt_of_le (looks_lt (P.op hr) t ht) S.F.2.1
 have ds512:∀ r∈π,∀ d,r.o.dst=some d→d<512:=fun r hr d hd=>Nat.lt_of_lt_of_le ((xq (P.op hr)).2.1 d hd) S.F.2.1
 have mk:∀ {τ':L3} {h':H} {x:AV} {idOf':Nat→Nat},SetF τ τ' s.o.dst x→(runP ops.toList rest (s::pre)).g ih τ' h' K=some z→zG w0 e h' w→Fr e0 h0 e h'→(∀ j,hget h j≠.x→hget h' j=hget h j)→(∀ j,j<h.nxt→hget h' j=hget h j)→h.nxt≤h'.nxt→
   (∀ r∈Z,isAl ops τ r→idOf' r.i=idOf r.i)→PendOk ops h0 e τ' h' idOf' s→(∀ r∈Z,isAl ops τ r→isAl ops τ s→idOf' r.i≠idOf' s.i)→RS w0 ih ops n K e0 h0 τ0 ds π (s::pre) rest (s::Z) listed e τ' h' z a w:=fun {τ' h' x idOf'} hs hr hR hF hm hm2 hn hid hps hne=>by
  refine⟨by rw[S.hp]; simp,fun r hr=>?_,fun r hr=>?_,S.size,S.down,hr,⟨S.F.1,S.F.2.1,fun t v hv hz=>?_⟩,hR,hF,S.ds,fun t ht hall=>?_,idOf',fun r hr=>?_,fun r hr q hq ar aq hrq=>?_⟩
  ·rcases List.mem_cons.1 hr with rfl | hr
   ·exact⟨by simp,hk⟩
   ·exact⟨List.mem_cons_of_mem _ (S.hz r hr).1,(S.hz r hr).2⟩
  ·rw[S.hl r hr]
   constructor
   ·rintro⟨c1,c2⟩
    refine⟨List.mem_cons_of_mem _ c1,fun c=>?_⟩
    rcases List.mem_cons.1 c with rfl | c
    ·exact(S.sep P c1 (by simp:r∈r::rest)).ne rfl
    ·exact c2 c
   ·rintro⟨c1,c2⟩
    rcases List.mem_cons.1 c1 with rfl | c1
    ·exact absurd (by simp) c2
    ·exact⟨c1,fun c=>c2 (List.mem_cons_of_mem _ c)⟩
  ·have htn:t<n:=by have:=(Array.getElem?_eq_some_iff.1 hv).1; rw[S.F.1]at this; exact this
   rw[hs.keep (by have:=S.F.2.1; omega) fun k=>hz ⟨s,by simp,k⟩]
   exact S.F.2.2 t v hv fun⟨r,hr,hd⟩=>hz ⟨r,List.mem_cons_of_mem _ hr,hd⟩
  ·rw[hs.keep ht (hall s hsπ)]; exact S.agree t ht hall
  ·rcases List.mem_cons.1 hr with rfl | hr
   ·exact hps
   ·have hrπ:=S.mem_pre (S.hz r hr).1
    refine(hpend r hr).keep (fun t ht=>hs.keep (lk512 r hrπ t ht) ((far r hr).1 t ht)) (fun d hd=>hs.keep (ds512 r hrπ d hd) ((far r hr).2 d hd)) (fun g x' g1 _ g2 _=>r_more g1 hm g2) fun ar=>⟨hid r hr ar,fun c=>by omega,fun c1 c2=>⟨c2,hm2 _ c1⟩⟩
  ·have wS:∀ r∈Z,isAl ops τ' r→isAl ops τ r:=fun r hr ar=>⟨(jb (fun t ht=>hs.keep (lk512 r (S.mem_pre (S.hz r hr).1) t ht) ((far r hr).1 t ht))).symm.trans ar.1,ar.2⟩
   have wS':isAl ops τ' s→isAl ops τ s:=fun ar=>⟨(jb (fun t ht=>hs.keep (lk512 s hsπ t ht) fun k=>P.self s hsπ hk t k ht)).symm.trans ar.1,ar.2⟩
   rcases List.mem_cons.1 hr with hr1 | hr1
   ·rcases List.mem_cons.1 hq with hq1 | hq1
    ·rw[hr1,hq1]
    ·rw[hr1]at ar hrq
     exact absurd hrq.symm (hne q hq1 (wS q hq1 aq) (wS' ar))
   ·rcases List.mem_cons.1 hq with hq1 | hq1
    ·rw[hq1]at aq hrq
     exact absurd hrq (hne r hr1 (wS r hr1 ar) (wS' aq))
    ·have ar':=wS r hr1 ar
     have aq':=wS q hq1 aq
     exact hinj r hr1 q hq1 ar' aq' (by rw[←hid r hr1 ar',←hid q hq1 aq']; exact hrq)
 have self:∀ {τ':L3} {x:AV},SetF τ τ' s.o.dst x→∀ t∈s.o.looksAt ops,(q3 t).g τ'=(q3 t).g τ:=fun {τ' x} hs t ht=>hs.keep (lk512 s hsπ t ht) fun k=>P.self s hsπ hk t k ht
 have at_:∀ {τ':L3} {x:AV},SetF τ τ' s.o.dst x→∀ d,s.o.dst=some d→(q3 d).g τ'=x:=fun {τ' x} hs d hd=>by rw[hs d (h512 d hd),if_pos hd]
 have noAl:∀ {Q:Prop},(¬ ∃ g,opK s.o.op=.a g)→isAl ops τ s→Q:=fun h1 h2=>absurd h2.2 h1
 rcases oper_law hrun with ⟨hw,hp⟩ | ⟨hw,hp⟩
 ·obtain⟨τ',j1,j2⟩:=putE_law h512 hp
  exact⟨τ',h,mk (idOf':=idOf) j2 j1 S.R S.fr (fun _ _=>rfl) (fun _ _=>rfl) (Nat.le_refl _) (fun _ _ _=>rfl) (.inl ⟨(jb (self j2)).trans hw,at_ j2⟩) fun r hr ar asx k=>by
   have:=asx.1
   rw[hw]at this; cases this⟩
 ·cases hg:opK s.o.op with
  | p g=>
   rw[hg]at hp
   obtain⟨x,hx,hp⟩:=zO (o:=g τ) (k:=fun v=>putE s.o.dst v τ h fun τ h=>(runP ops.toList rest (s::pre)).g ih τ h K) hp
   obtain⟨τ',j1,j2⟩:=putE_law h512 hp
   exact⟨τ',h,mk (idOf':=idOf) j2 j1 S.R S.fr (fun _ _=>rfl) (fun _ _=>rfl) (Nat.le_refl _) (fun _ _ _=>rfl) (.inr ⟨(jb (self j2)).trans hw,.inl ⟨g,x,hg,by rw[p_same hg (looks_same (self j2))]; exact hx,at_ j2⟩⟩) fun r hr ar asx=>noAl (fun⟨g',k⟩=>by rw[hg]at k; cases k) asx⟩
  | r g=>
   rw[hg]at hp
   obtain⟨x,hx,hp⟩:=zO (o:=g τ h) (k:=fun v=>putE s.o.dst v τ h fun τ h=>(runP ops.toList rest (s::pre)).g ih τ h K) hp
   obtain⟨τ',j1,j2⟩:=putE_law h512 hp
   exact⟨τ',h,mk (idOf':=idOf) j2 j1 S.R S.fr (fun _ _=>rfl) (fun _ _=>rfl) (Nat.le_refl _) (fun _ _ _=>rfl) (.inr ⟨(jb (self j2)).trans hw,.inr (.inl ⟨g,x,hg,by rw[r_same hg (looks_same (self j2))]; exact hx,at_ j2⟩)⟩) fun r hr ar asx=>noAl (fun⟨g',k⟩=>by rw[hg]at k; cases k) asx⟩
  | a g=>
   rw[hg]at hp
   obtain⟨al,hx,hp⟩:=zO (o:=g τ) (k:=fun al=>newB h al.b fun id h=>putE s.o.dst (al.v id) τ h fun τ h=>(runP ops.toList rest (s::pre)).g ih τ h K) hp
   obtain⟨h',N,hp⟩:=newB_law hp
   obtain⟨τ',j1,j2⟩:=putE_law h512 hp
   have hx0:=S.R.none h.nxt N.lt (Nat.le_refl _)
   have hlt:∀ r∈Z,isAl ops τ r→idOf r.i<h.nxt:=fun r hr ar=>by
    obtain⟨ar1,g',ar2⟩:=ar
    rcases hpend r hr with ⟨p1,_⟩ | ⟨p1,p2 | p2 | p2⟩
    ·rw[ar1]at p1; cases p1
    ·obtain⟨_,_,k,_⟩:=p2; rw[ar2]at k; cases k
    ·obtain⟨_,_,k,_⟩:=p2; rw[ar2]at k; cases k
    ·obtain⟨_,_,_,_,_,k,_⟩:=p2; exact k
   have hi:∀ r∈Z,(if r.i=s.i then h.nxt else idOf r.i)=idOf r.i:=fun r hr=>if_neg (S.sep P (S.hz r hr).1 (by simp:s∈s::rest)).ne
   refine⟨τ',h',mk (idOf':=fun i=>if i=s.i then h.nxt else idOf i) j2 j1 (S.R.push N) (S.fr.trans (S.R.frNew N)) (N.keep hx0) (fun j hj=>?_) (by rw[N.nxt]; omega) (fun r hr _=>hi r hr) (.inr ⟨(jb (self j2)).trans hw,.inr (.inr ⟨g,al,hg,by rw[a_same hg (looks_same (self j2))]; exact hx,?_,?_,?_,?_,?_⟩)⟩) fun r hr ar asx=>?_⟩
   ·have:=N.lt
    rw[N.get j (by omega),if_neg (by omega)]
   ·simp only[if_true]; exact S.fr.nxt
   ·simp only[if_true]; rw[N.nxt]; omega
   ·simp only[if_true]; intro k; have:=S.R.lt _ k; omega
   ·simp only[if_true]; rw[N.get _ N.lt,if_pos rfl]
   ·simp only[if_true]; exact at_ j2
   ·simp only[if_true]
    rw[hi r hr]
    have:=hlt r hr ar
    omega
  | w g=>exact absurd ((kd_of (P.row s hsπ)).2 (.inl ⟨g,hg⟩)) hk
  | z=>exact absurd ((kd_of (P.row s hsπ)).2 (.inr hg)) hk
theorem getD_set_eq {l:Array Bool} {i:Nat} (h:i<l.size):(l.setIfInBounds i true).getD i false=true:=by simp[h]
theorem RS.exZ (S:RS w0 ih ops n K e0 h0 τ0 ds π pre rest Z listed e τ h z a w) (P:ky ops n π) {r:Rw} (hr:r∈Z) (hrd:r.i∈Region.ready .any ops listed) :
  ∃ Z',stW Pr ops r.o a w fun a' w'=>∃ e',RS w0 ih ops n K e0 h0 τ0 ds π pre rest Z' (listed.setIfInBounds r.i true) e' τ h z a' w':=by
 classical
 have hrπ:=S.mem_pre (S.hz r hr).1
 have hok:=P.op hrπ
 obtain⟨k1,k2,k3⟩:=xq hok
 have hlooks:=S.looks P hrπ hrd (.inl hr)
 obtain⟨idOf,hpend,hinj⟩:=S.pend
 let Z':=Z.filter fun s=>decide (s≠r)
 have hZ':∀ s,s∈Z'↔s∈Z∧s≠r:=fun s=>by simp[Z']
 refine⟨Z',?_⟩
 have h512:∀ d,r.o.dst=some d→d<512:=fun d hd=>Nat.lt_of_lt_of_le (k2 d hd) S.F.2.1
 -- from a value to the state behind
 have fin:∀ {e':Env} {x:AV} {v:Value} {w':World},Ext e e'→(∀ d,r.o.dst=some d→(q3 d).g τ=x)→Dn e' x v→zG w0 e' h w'→Fr e0 h0 e' h→(∀ s∈Z',isAl ops τ s→¬ e.dom (idOf s.i)→¬ e'.dom (idOf s.i))→
   ∃ e',RS w0 ih ops n K e0 h0 τ0 ds π pre rest Z' (listed.setIfInBounds r.i true) e' τ h z (a.put r.o.dst v) w':=fun {e' x v w'} hx hd hv hR hF hal=>by
  refine⟨e',S.hp,fun s hs=>S.hz s ((hZ' s).1 hs).1,fun s hs=>?_,by simp[S.size],S.down.set hrd,S.run,?_,hR,hF,(put_defers _ _ _).trans S.ds,S.agree,idOf,fun s hs=>?_,fun s hs t ht=>hinj s ((hZ' s).1 hs).1 t ((hZ' t).1 ht).1⟩
  ·by_cases c:s=r
   ·subst c
    have hlt:s.i<listed.size:=by rw[S.size]; exact(Array.getElem?_eq_some_iff.1 (P.row s hs).at_).1
    rw[getD_set_eq hlt]
    exact⟨fun _=>⟨(S.hz s hr).1,fun k=>((hZ' s).1 k).2 rfl⟩,fun _=>rfl⟩
   ·have hne:r.i≠s.i:=fun k=>c (P.inj hrπ hs k).symm
    rw[getD_set_ne false hne,S.hl s hs,hZ']
    constructor
    ·rintro⟨c1,c2⟩; exact⟨c1,fun k=>c2 k.1⟩
    ·rintro⟨c1,c2⟩; exact⟨c1,fun k=>c2 ⟨k,c⟩⟩
  ·refine(S.F.ext hx).set (x:=x) (fun j hj=>?_) k2 hv fun t hz hne=>?_
   ·by_cases c:r.o.dst=some j
    ·rw[if_pos c]; exact hd j c
    ·rw[if_neg c]
   ·rintro⟨s,hs,hsd⟩
    by_cases c:s=r
    ·subst c; exact hne hsd
    ·exact hz ⟨s,(hZ' s).2 ⟨hs,c⟩,hsd⟩
  ·refine(hpend s ((hZ' s).1 hs).1).keep (fun _ _=>rfl) (fun _ _=>rfl) (fun g x' _ _ g2 _=>g2) fun asx=>⟨rfl,id,fun c1 c2=>⟨hal s hs asx c2,rfl⟩⟩
 rcases hpend r hr with ⟨hw,hd⟩ | ⟨hw,hp⟩
 ·have:=wanted_law hw S.F hok hlooks
  unfold stW
  rw[if_neg (by rw[this]; simp)]
  exact fin (.refl e) hd (show Dn e .n undef from rfl) S.R S.fr fun _ _ _ k=>k
 ·have:=wanted_law hw S.F hok hlooks
  unfold stW
  rw[if_pos this]
  have hO:=ops_law S.F hok hlooks
  rcases hp with ⟨g,x,g1,g2,g3⟩ | ⟨g,x,g1,g2,g3⟩ | ⟨g,al,g1,g2,g3,g4,g5,g6,g7⟩
  ·obtain⟨v,hv,hr'⟩:=pure_law g1 g2 hO
   unfold opW
   rw[hr' w]
   exact fin (.refl e) g3 hv S.R S.fr fun _ _ _ k=>k
  ·obtain⟨v,hv,hr'⟩:=read_law g1 g2 hO S.R
   unfold opW
   rw[hr']
   exact fin (.refl e) g3 hv S.R S.fr fun _ _ _ k=>k
  ·obtain⟨q,w',hr',hb,hrf,hA⟩:=al_law g1 g2 hO w
   obtain⟨bk,c,f,a1,a2,a3⟩:=hA _ g5
   unfold opW
   rw[hr']
   have hs:=S.R.below.size
   refine fin (xA g5) g7 a3 (S.R.add g5 g4 hb (fun k=>?_) (by rw[g6]; exact a2 h) (fun m hm=>by rw[g6,hrf]at hm; cases hm)) (S.fr.add g5 g3) fun s hs' asx k1 k2=>?_
   ·rw[g6]at k
    have:=a1 k
    refine⟨by omega,this.2,fun j hj hi he=>?_⟩
    have:=(S.R.low j hj hi).2
    omega
   ·rcases k2 with k2 | k2
    ·have:=hinj s ((hZ' s).1 hs').1 r hr asx ⟨hw,g,g1⟩ k2
     exact((hZ' s).1 hs').2 this
    ·exact k1 k2
end
end Go.Ev
end
section
set_option linter.unusedVariables false
set_option linter.unusedSimpArgs false
set_option linter.constructorNameAsVariable false
namespace Go.Ev
open Go.Lw Go.RowKit
theorem beq_bytes {a b:ByteArray} (h:(a == b)=true):a=b:=by
 have h2:(a.data == b.data)=true:=h
 exact ByteArray.ext (eq_of_beq h2)
theorem scB_eq {x y:Sc} (h:scB x y=true):x=y:=by
 unfold scB at h
 split at h<;>try simp only[Bool.and_eq_true,qc,decide_eq_true_eq,ieqB_eq]at h
 ·rename_i k a k' b
  have:k'=k:=kNo_inj (by rw[qc]; exact decide_eq_true h.1)
  rw[this,h.2]
 ·rw[eq_of_beq h]
 ·rw[h.1,h.2]
 ·obtain⟨⟨⟨h1,h2⟩,h3⟩,h4⟩:=h; rw[h1,h2,h3,h4]
 ·obtain⟨⟨⟨h1,h2⟩,h3⟩,h4⟩:=h; rw[h1,h2,h3,h4]
 ·rw[h]
 ·rw[h]
 ·rw[h]
 ·rfl
 ·rw[beq_bytes h]
 ·rfl
 ·rfl
 ·rfl
 ·rfl
 ·rfl
 ·rename_i f a b f' a' b'
  obtain⟨⟨h1,h2⟩,h3⟩:=h
  obtain rfl:a=#[]:=Array.eq_empty_of_size_eq_zero (by omega)
  obtain rfl:b=#[]:=Array.eq_empty_of_size_eq_zero (by omega)
  obtain rfl:a'=#[]:=Array.eq_empty_of_size_eq_zero (by omega)
  obtain rfl:b'=#[]:=Array.eq_empty_of_size_eq_zero (by omega)
  rw[show f=f' from h1]
 ·cases h
theorem scL_eq:∀ {l m:List Sc},scL l m=true→l=m
 | [],[],_=>rfl
 | [],_::_,h=>by cases h
 | _::_,[],h=>by cases h
 | x::l,y::m,h=>by
  have h':(scB x y && scL l m)=true:=h
  simp only[Bool.and_eq_true]at h'
  rw[scB_eq h'.1,scL_eq h'.2]
theorem sumB_eq {x y:Sc ⊕ List Sc} (h:sumB x y=true):x=y:=by
 unfold sumB at h
 split at h
 ·rw[scB_eq h]
 ·rw[scL_eq h]
 ·cases h
theorem sumL_eq:∀ {l m:List (Sc ⊕ List Sc)},sumL l m=true→l=m
 | [],[],_=>rfl
 | [],_::_,h=>by cases h
 | _::_,[],h=>by cases h
 | x::l,y::m,h=>by
  have h':(sumB x y && sumL l m)=true:=h
  simp only[Bool.and_eq_true]at h'
  rw[sumB_eq h'.1,sumL_eq h'.2]
theorem avB_eq {x y:AV} (h:avB x y=true):x=y:=by
 unfold avB at h
 split at h
 ·rw[scB_eq h]
 ·rw[scL_eq h]
 ·rw[sumL_eq h]
 ·cases h
theorem pend_mem {r:Rw} : ∀ {done:List Rw} {s:Rw},s∈done→s.kd=1→r.wt.testBit s.i=false→s∈pend r done
 | [],s,h,_,_=>by cases h
 | t::done,s,h,h1,h2=>by
  have e:pend r (t::done)=bif Nat.beq t.kd 1 && !Nat.testBit r.wt t.i then t::pend r done else pend r done:=rfl
  rw[e]
  rcases List.mem_cons.1 h with rfl | h
  ·rw[h2,h1]; simp
  ·have:=pend_mem (r:=r) h h1 h2
   cases(Nat.beq t.kd 1 && !Nat.testBit r.wt t.i)with
   | true=>exact List.mem_cons_of_mem _ this
   | false=>exact this
theorem rcks_law {all:List Oper} {τ:L3} {h:H} : ∀ {l:List Rw},(rcksE all l).g τ h=true→∀ r∈l,(rckE all r.o).g τ h=true
 | [],_,r,hr=>by cases hr
 | s::l,hh,r,hr=>by
  have e:(rcksE all (s::l)).g τ h=((rckE all s.o).g τ h && (rcksE all l).g τ h):=rfl
  rw[e,Bool.and_eq_true]at hh
  rcases List.mem_cons.1 hr with rfl | hr
  ·exact hh.1
  ·exact rcks_law hh.2 r hr
theorem rdK_law {g:L3→H→Option AV} {d:Option Nat} {τ:L3} {h:H} (hh:(rdK (.r g) d).g τ h=true):∃ i,d=some i∧g τ h=some ((q3 i).g τ):=by
 cases d with
 | none=>cases hh
 | some i=>
  have hh':Option.rec (motive:=fun _=>Bool) false (fun v=>avB v ((q3 i).g τ)) (g τ h)=true:=hh
  cases hg:g τ h with
  | none=>rw[hg]at hh'; cases hh'
  | some v=>rw[hg]at hh'; exact⟨i,rfl,by rw[avB_eq hh']⟩
theorem rck_law {all:List Oper} {o:Oper} {g:L3→H→Option AV} (hk:opK o.op=.r g) {τ:L3} {h:H} (hh:(rckE all o).g τ h=true) (hw:wanted all o τ=some true):∃ i,o.dst=some i∧g τ h=some ((q3 i).g τ):=by
 unfold rckE at hh
 unfold wanted at hw
 split at hh
 ·rw[hk]at hh; exact rdK_law hh
 ·rename_i gg hg
  rw[hg]at hw
  simp only at hw
  split at hh
  ·rename_i d hd
   rw[hd]at hw
   simp only at hw
   have hh2:Option.rec (motive:=fun _=>Bool) false (fun b=>Bool.rec (motive:=fun _=>Bool) true ((rdK (opK o.op) o.dst).g τ h) b) (wantB gg.2 ((q3 d).g τ))=true:=hh
   rw[hw]at hh2
   have hh':(rdK (opK o.op) o.dst).g τ h=true:=hh2
   rw[hk]at hh'; exact rdK_law hh'
  ·cases hh
section
variable {w0:World} {ih:IH} {ops:Array Oper} {n:Nat} {K:KO} {e0:Env} {h0:H} {τ0:L3} {ds:List Deferred} {π:List Rw} {pre rest Z:List Rw} {listed:Array Bool} {e:Env} {τ:L3} {h:H} {z:List (AV×H)} {a:Act} {w:World}
theorem RS.exW {s:Rw} (S:RS w0 ih ops n K e0 h0 τ0 ds π pre (s::rest) Z listed e τ h z a w) (P:ky ops n π) (W:WOk w0 ih) (hk:s.kd=3) (hrd:s.i∈Region.ready .any ops listed) :
  stW Pr ops s.o a w fun a' w'=>∃ e' τ' h' z',RS w0 ih ops n K e0 h0 τ0 ds π (s::pre) rest Z (listed.setIfInBounds s.i true) e' τ' h' z' a' w':=by
 have hsπ:=S.mem_rest (r:=s) (by simp)
 have hok:=P.op hsπ
 obtain⟨k1,k2,k3⟩:=xq hok
 have h512:∀ i,s.o.dst=some i→i<512:=fun i hi=>Nat.lt_of_lt_of_le (k2 i hi) S.F.2.1
 have hlooks:=S.looks P hsπ hrd (.inr ⟨rest,rfl⟩)
 have hrun:=S.run
 rw[run_cons]at hrun
 have hb:Nat.beq s.kd 3=true:=by rw[qc,decide_eq_true_eq]; exact hk
 rw[hb]at hrun
 have hrun:(operE ops.toList s.o).g ih τ h (fun τ h=>gd ((rcksE ops.toList (Ev.pend s pre)).g τ h) ((runP ops.toList rest (s::pre)).g ih τ h K))=some z:=hrun
 have hsZ:s∉Z:=fun k=>(S.sep P (S.hz s k).1 (by simp:s∈s::rest)).ne rfl
 obtain⟨idOf,hpend,hinj⟩:=S.pend
 have nowait:∀ r∈Z,¬ Waits ops s.i r.i:=fun r hr k=>by
  have:=ready_waits S.down k hrd
  rw[S.unl P (.inl hr)]at this; cases this
 have far:∀ r∈Z,(∀ t∈r.o.looksAt ops,s.o.dst≠some t)∧(∀ d,r.o.dst=some d→s.o.dst≠some d):=fun r hr=>by
  have p:=S.sep P (S.hz r hr).1 (by simp:s∈s::rest)
  exact⟨fun t ht hd=>nowait r hr (p.anti t hd ht).2.1,fun d hd=>p.ds d hd⟩
 have lk512:∀ r∈π,∀ t∈r.o.looksAt ops,t<512:=fun r hr t ht=>Nat.lt_of_lt_of_le (looks_lt (P.op hr) t ht) S.F.2.1
 have ds512:∀ r∈π,∀ d,r.o.dst=some d→d<512:=fun r hr d hd=>Nat.lt_of_lt_of_le ((xq (P.op hr)).2.1 d hd) S.F.2.1
 have fin:∀ {e':Env} {h':H} {x:AV} {v:Value} {w':World} {z':List (AV×H)},Fr e h e' h'→zG w0 e' h' w'→Dn e' x v→putE s.o.dst x τ h' (fun τ h=>gd ((rcksE ops.toList (Ev.pend s pre)).g τ h) ((runP ops.toList rest (s::pre)).g ih τ h K))=some z'→
   ∃ e' τ' h' z',RS w0 ih ops n K e0 h0 τ0 ds π (s::pre) rest Z (listed.setIfInBounds s.i true) e' τ' h' z' (a.put s.o.dst v) w':=fun {e' h' x v w' z'} hf hR hx hp=>by
  obtain⟨τ',j1,j2⟩:=putE_law h512 hp
  obtain⟨j3,j4⟩:=zw j1
  have same:∀ r∈Z,∀ t∈r.o.looksAt ops,(q3 t).g τ'=(q3 t).g τ:=fun r hr t ht=>j2.keep (lk512 r (S.mem_pre (S.hz r hr).1) t ht) ((far r hr).1 t ht)
  refine⟨e',τ',h',z',by rw[S.hp]; simp,fun r hr=>⟨List.mem_cons_of_mem _ (S.hz r hr).1,(S.hz r hr).2⟩,fun r hr=>?_,by simp[S.size],S.down.set hrd,j4,?_,hR,S.fr.trans hf,(put_defers _ _ _).trans S.ds,fun t ht hall=>?_,idOf,fun r hr=>?_,fun r hr q hq ar aq hrq=>hinj r hr q hq ⟨(jb (same r hr)).symm.trans ar.1,ar.2⟩ ⟨(jb (same q hq)).symm.trans aq.1,aq.2⟩ hrq⟩
  ·by_cases c:r=s
   ·subst c
    have hlt:r.i<listed.size:=by rw[S.size]; exact(Array.getElem?_eq_some_iff.1 (P.row r hr).at_).1
    rw[getD_set_eq hlt]
    exact⟨fun _=>⟨by simp,hsZ⟩,fun _=>rfl⟩
   ·have hne:s.i≠r.i:=fun k=>c (P.inj hsπ hr k).symm
    rw[getD_set_ne false hne,S.hl r hr]
    constructor
    ·rintro⟨c1,c2⟩; exact⟨List.mem_cons_of_mem _ c1,c2⟩
    ·rintro⟨c1,c2⟩; exact⟨(List.mem_cons.1 c1).resolve_left c,c2⟩
  ·exact(S.F.ext hf.ext).set j2 k2 hx fun t hz _=>hz
  ·rw[j2.keep ht (hall s hsπ)]; exact S.agree t ht hall
  ·have hrπ:=S.mem_pre (S.hz r hr).1
   refine(hpend r hr).keep (same r hr) (fun d hd=>j2.keep (ds512 r hrπ d hd) ((far r hr).2 d hd)) (fun g x' g1 gw g2 gd'=>?_) fun asx=>⟨rfl,fun c=>Nat.lt_of_lt_of_le c hf.nxt,fun c1 c2=>⟨fun c=>?_,hf.out _ c1 c2⟩⟩
   ·have hkd:r.kd=1:=by rw[(P.row r hrπ).kd,g1]; rfl
    have hbit:s.wt.testBit r.i=false:=by
     cases hb:s.wt.testBit r.i with
     | false=>rfl
     | true=>exact absurd ((P.row s hsπ).wt _ hb) (nowait r hr)
    have hr1:=rcks_law j3 r (pend_mem (S.hz r hr).1 hkd hbit)
    obtain⟨i,i1,i2⟩:=rck_law g1 hr1 ((jb (same r hr)).trans gw)
    rw[i2,j2.keep (ds512 r hrπ i i1) ((far r hr).2 i i1),gd' i i1]
   ·rcases hf.new _ c with c | c
    ·exact c2 c
    ·omega
 rcases oper_law hrun with ⟨hw,hp⟩ | ⟨hw,hp⟩
 ·have:=wanted_law hw S.F hok hlooks
  unfold stW
  rw[if_neg (by rw[this]; simp)]
  exact fin (.refl e h) S.R (show Dn e .n undef from rfl) hp
 ·have:=wanted_law hw S.F hok hlooks
  unfold stW
  rw[if_pos this]
  have hO:=ops_law S.F hok hlooks
  rcases(kd_of (P.row s hsπ)).1 hk with ⟨g,hg⟩ | hg
  ·rw[hg]at hp
   have hp':g ih τ h (fun v h=>putE s.o.dst v τ h (fun τ h=>gd ((rcksE ops.toList (Ev.pend s pre)).g τ h) ((runP ops.toList rest (s::pre)).g ih τ h K)))=some z:=hp
   refine opW_mono (fun a' w' ⟨v,hv,hO⟩=>?_) (W s.o g hg hp' hO S.R)
   obtain⟨x,h',e',z',j1,j2,j3,j4⟩:=hO
   subst hv
   exact fin j4 j3 j2 j1
  ·rw[hg]at hp; cases hp
theorem RS.advTo (P:ky ops n π):∀ {A:List Rw} {pre Z:List Rw} {τ:L3} {h:H} {r:Rw} {B:List Rw},RS w0 ih ops n K e0 h0 τ0 ds π pre (A++r::B) Z listed e τ h z a w→(∀ s∈A,s.kd≠3)→∃ pre' Z' τ' h',RS w0 ih ops n K e0 h0 τ0 ds π pre' (r::B) Z' listed e τ' h' z a w
 | [],pre,Z,τ,h,r,B,S,_=>⟨pre,Z,τ,h,S⟩
 | s::A,pre,Z,τ,h,r,B,S,hA=>by
  obtain⟨τ',h',S'⟩:=RS.adv (rest:=A++r::B) S P (hA s (by simp))
  exact RS.advTo P S' fun t ht=>hA t (by simp[ht])
def unlN (π:List Rw) (listed:Array Bool):Nat:=(π.filter fun r=>!listed.getD r.i false).length
theorem unl_set (P:ky ops n π) {r:Rw} (hr:r∈π) (hsz:listed.size=ops.size) (h:listed.getD r.i false=false):unlN π (listed.setIfInBounds r.i true)<unlN π listed:=by
 refine filter_less (x:=r) (fun y hy hq=>?_) hr (by simp[h]) ?_
 ·by_cases c:y.i=r.i
  ·rw[c]at hq⊢
   have hlt:r.i<listed.size:=by rw[hsz]; exact(Array.getElem?_eq_some_iff.1 (P.row r hr).at_).1
   rw[getD_set_eq hlt]at hq; cases hq
  ·rwa[getD_set_ne false (fun k=>c k.symm)]at hq
 ·have hlt:r.i<listed.size:=by rw[hsz]; exact(Array.getElem?_eq_some_iff.1 (P.row r hr).at_).1
  rw[getD_set_eq hlt]; rfl
theorem RS.done (S:RS w0 ih ops n K e0 h0 τ0 ds π pre rest Z listed e τ h z a w) (P:ky ops n π) (hall:∀ r∈π,listed.getD r.i false=true):OutR w0 n e0 h0 τ0 ds (fun t=>∃ r∈π,r.o.dst=some t) K a w:=by
 have hr:rest=[]:=by
  cases rest with
  | nil=>rfl
  | cons r B=>
   have hrπ:=S.mem_rest (r:=r) (by simp)
   have:=S.unl P (r:=r) (.inr (by simp))
   rw[hall r hrπ]at this; cases this
 have hZ:Z=[]:=by
  cases Z with
  | nil=>rfl
  | cons r B=>
   have hrπ:=S.mem_pre (S.hz r (by simp)).1
   have:=S.unl P (r:=r) (.inl (by simp))
   rw[hall r hrπ]at this; cases this
 subst hr
 subst hZ
 exact⟨e,τ,h,z,S.run,⟨S.F.1,S.F.2.1,fun t v hv _=>S.F.2.2 t v hv fun⟨r,hr,_⟩=>by cases hr⟩,S.R,S.fr,S.ds,fun t ht hn=>S.agree t ht fun r hr hd=>hn ⟨r,hr,hd⟩⟩
theorem getD_tf {l:Array Bool} {i:Nat} (h:l.getD i true=false):l.getD i false=false:=by
 unfold Array.getD at h⊢
 split
 ·rename_i c; rw[dif_pos c]at h; exact h
 ·rfl
theorem getD_ft {l:Array Bool} {i:Nat} (hi:i<l.size) (h:l.getD i false=false):l.getD i true=false:=by
 unfold Array.getD at h⊢
 rw[dif_pos hi]at h⊢; exact h
theorem RS.none_ready (S:RS w0 ih ops n K e0 h0 τ0 ds π pre rest Z listed e τ h z a w) (P:ky ops n π) (h0':Region.ready .any ops listed=[]):∀ r∈π,listed.getD r.i false=true:=by
 have key:∀ (k:Nat) (A B:List Rw),A.length=k→π=A++B→∀ r∈A,listed.getD r.i false=true:=by
  intro k
  induction k with
  | zero=>
   intro A B hk _ r hr
   rw[List.length_eq_zero_iff.1 hk]at hr; cases hr
  | succ k ih=>
   intro A B hk hp s hs
   rcases List.eq_nil_or_concat A with rfl | ⟨A,r,rfl⟩
   ·cases hs
   ·have hA:=ih A (r::B) (by simpa using hk) (by rw[hp]; simp)
    rw[List.concat_eq_append]at hs hp
    rcases List.mem_append.1 hs with hs | hs
    ·exact hA s hs
    ·obtain rfl:s=r:=by simpa using hs
     cases hl:listed.getD s.i false with
     | true=>rfl
     | false=>
      have hsπ:s∈π:=by rw[hp]; simp
      have hat:=(P.row s hsπ).at_
      have:s.i∈Region.ready .any ops listed:=mem_ready.2 ⟨getD_ft (by rw[S.size]; exact(Array.getElem?_eq_some_iff.1 hat).1) hl,s.o,hat,fun e he hb=>by
       obtain⟨q,hq,hqi⟩:=P.before A B s (by rw[hp]; simp) e.on (P.edge s hsπ e he hb)
       rw[←hqi]; exact hA q hq⟩
      rw[h0']at this; cases this
 intro r hr
 exact key _ π [] rfl (by simp) r hr
theorem RS.any (P:ky ops n π) (W:WOk w0 ih) {Qn:Act→World→Prop} (hQ:∀ a w,OutR w0 n e0 h0 τ0 ds (fun t=>∃ r∈π,r.o.dst=some t) K a w→Qn a w):∀ (fuel:Nat) {pre rest Z:List Rw} {listed:Array Bool} {e:Env} {τ:L3} {h:H} {z:List (AV×H)} {a:Act} {w:World},
  RS w0 ih ops n K e0 h0 τ0 ds π pre rest Z listed e τ h z a w→unlN π listed≤fuel→anyW Pr ops Qn fuel listed a w:=by
 intro fuel
 induction fuel with
 | zero=>
  intro pre rest Z listed e τ h z a w S hu
  have hall:∀ r∈π,listed.getD r.i false=true:=fun r hr=>by
   cases hl:listed.getD r.i false with
   | true=>rfl
   | false=>
    have:r∈π.filter fun r=>!listed.getD r.i false:=List.mem_filter.2 ⟨hr,by simp[hl]⟩
    have:=List.length_pos_of_mem this
    unfold unlN at hu
    omega
  refine⟨List.eq_nil_iff_forall_not_mem.2 fun i hi=>?_,hQ a w (S.done P hall)⟩
  obtain⟨hl,o,ho,_⟩:=mem_ready.1 hi
  have hl:=getD_tf hl
  obtain⟨r,hr,hri⟩:=P.all i (Array.getElem?_eq_some_iff.1 ho).1
  have:=hall r hr
  rw[hri,hl]at this; cases this
 | succ fuel IH=>
  intro pre rest Z listed e τ h z a w S hu
  refine⟨fun hr=>hQ a w (S.done P (S.none_ready P hr)),fun i hi=>?_⟩
  obtain⟨hl,o,ho,_⟩:=mem_ready.1 hi
  have hl:=getD_tf hl
  obtain⟨r,hr,hri⟩:=P.all i (Array.getElem?_eq_some_iff.1 ho).1
  have hro:r.o=o:=by
   have:=(P.row r hr).at_
   rw[hri,ho]at this
   exact(Option.some.inj this).symm
  subst hri
  subst hro
  refine⟨r.o,ho,?_⟩
  have hlt:=unl_set P hr S.size hl
  have fromZ:∀ {pre rest Z:List Rw} {τ:L3} {h:H},RS w0 ih ops n K e0 h0 τ0 ds π pre rest Z listed e τ h z a w→r∈Z→stW Pr ops r.o a w (anyW Pr ops Qn fuel (listed.setIfInBounds r.i true)):=fun {pre rest Z τ h} S hz=>by
   obtain⟨Z',hs⟩:=S.exZ P hz hi
   exact qI (fun a' w' ⟨e',S'⟩=>IH S' (by omega)) hs
  have hpos:r∈Z∨r∈rest:=by
   have hr':=hr
   rw[S.hp]at hr'
   rcases List.mem_append.1 hr' with c | c
   ·by_cases cz:r∈Z
    ·exact .inl cz
    ·have:=(S.hl r hr).2 ⟨by simpa using c,cz⟩
     rw[hl]at this; cases this
   ·exact .inr c
  rcases hpos with hz | hz
  ·exact fromZ S hz
  ·obtain⟨A,B,hAB⟩:=List.append_of_mem hz
   subst hAB
   have hA:∀ s∈A,s.kd≠3:=fun s hs k=>by
    have hp:=P.pair
    rw[S.hp,List.pairwise_append]at hp
    have hp2:=(pair_at hp.2.1).1 s hs
    have:=ready_waits S.down (hp2.wr k) hi
    rw[S.unl P (.inr (by simp[hs]))]at this; cases this
   obtain⟨pre',Z',τ',h',S'⟩:=S.advTo P hA
   by_cases hk:r.kd=3
   ·exact qI (fun a' w' ⟨e2,τ2,h2,z2,S2⟩=>IH S2 (by omega)) (S'.exW P W hk hi)
   ·obtain⟨τ2,h2,S2⟩:=S'.adv P hk
    exact fromZ S2 (by simp)
end
end Go.Ev
end
section
set_option linter.unusedVariables false
set_option linter.unusedSimpArgs false
set_option linter.constructorNameAsVariable false
namespace Go.Ev
open Go.Lw Go.RowKit
theorem app_zero {w:World} {X Y E s:Nat} {z:Value} {by_:Nat} {v:Value} {news:List Value} (A:App w X Y E s z by_ v 0 news) (ts:List TypeId) (ty:TypeId) (p:Option Addr) (l c:Nat) (hr:l≤c) :
  (Builtin.append_ ⟨X::Y::ts⟩ ty ⟨[.slice p l c,v]⟩).run Pr w=.ok (.slice p l c) w:=by
 have hn:news=[]:=by
  have:=A.size
  rw[Nat.zero_mul]at this
  exact List.length_eq_zero_iff.1 this
 subst hn
 cases p with
 | some p=>exact app_room A ts ty p l c (m:=0) (by omega) (w':=w) (by simp[storeCells])
 | none=>
  obtain⟨i,hi,hz,hsz,hb⟩:=A.i
  obtain⟨d,hd,hni⟩:=A.y
  have hl:=A.len w
  have hc:=A.cells w rfl
  simp[Builtin.append_,run_underlying A.hX,run_underlying hd,sizeOf,typeInfo,hi,hl,hr,hsz,hc]
theorem app_zeros {w:World} {X Y E s:Nat} {z:Value} {by_ m:Nat} {i:TypeInfo} {k0 kk:IntKind} (hX:Pr.underlying X=some (.slice E)) (hi:Pr.info? E=some i) (hz:i.zero=some z) (hsz:i.size=s) (hb:i.bytes=by_)
  (hY:Pr.underlying Y=some (.int k0)) (hm:0<m) (hpos:0<s) (hmb:m*by_≤281474976710656) (h63:m≤9223372036854775807) (hfit:Builtin.nextslicecap m 0*by_≤281474976710656) (ts:List TypeId) (ty:TypeId) :
  (Builtin.append_ ⟨X::Y::ts⟩ ty ⟨[.slice none 0 0,.int kk m]⟩).run Pr w=.ok (.slice (some ⟨w.heap.size,0,none⟩) m (grownCap w m 0 E)) (w.drew.alloc (LC ((Builtin.zeroCells z.cells m).toList++(Builtin.zeroCells z.cells (grownCap w m 0 E-m)).toList) E)):=by
 have hw:IntKind.i64.wrap (m:Int)=m:=IntWalk.i64_in _ (by omega)
 have n1:¬ ((m:Int)<0):=by omega
 have n2:¬ (281474976710656<(m:Int)*(by_:Int)):=by
  have:((m*by_:Nat):Int)≤281474976710656:=by omega
  push_cast at this; omega
 have n3:¬ (m≤0):=by omega
 have n4:¬ (9223372036854775807<(m:Int)):=by omega
 have n5:¬ (281474976710656<Builtin.nextslicecap m 0*by_):=by omega
 have n6:¬ (m=0∨s=0):=by omega
 simp[Builtin.append_,run_underlying hX,run_underlying hY,sizeOf,typeInfo,zeroValue,asInt,asIntOf,hi,hz,hsz,hb,hw,n1,n2,n3,n4,n5,n6,Question.forced,newRow,grownCap,LC,Builtin.firstCells]
 have m1:¬ m=0:=by omega
 have m2:¬ m*s=0:=by have:=Nat.mul_pos hm hpos; omega
 rw[if_neg m1,if_neg m2]
 congr 3
 apply Array.ext'
 simp
section
variable {w0:World} {e:Env} {h:H} {w:World}
theorem str_src (e:Env) (w:World) (s:ByteArray):Src e w (.string s) 1 s.size (s.toList.map fun b=>.i .u8 (.ofNat b.toNat)):=by
 refine⟨fun w'=>by simp[Builtin.lenOf],fun n hn=>⟨(s.toList.take n).map fun b=>.int .u8 b.toNat,?_,?_,fun w' _=>?_⟩,?_⟩
 ·rw[ByteArray.toList_eq]; simp; omega
 ·rw[Nat.mul_one,←List.map_take]
  refine zN.of_at (by simp) fun j x y hx hy=>?_
  simp only[List.getElem?_map,Option.map_eq_some_iff]at hx hy
  obtain⟨b,hb,rfl⟩:=hx
  obtain⟨b',hb',rfl⟩:=hy
  rw[hb]at hb'; cases hb'
  exact⟨rfl,rfl⟩
 ·simp only[Builtin.firstCells,Sem.run_pure]
  congr 1
  apply Array.ext'
  rw[ByteArray.toList_eq]
  simp[ByteArray.data_extract]
 ·rw[ByteArray.toList_eq]; simp
theorem appW_law (R:zG w0 e h w) {X Y:TypeId} {E s:Nat} {x:AV} {u v:Value} {m:Nat} {new:List Sc} {K:AV→H→Ev.R} {z:List (AV×H)} (hX:Pr.underlying X=some (.slice E)) {ag:Bool} (hE:tkB Pr E=some (ag,s)) (hY:∃ d,Pr.underlying Y=some d∧∀ k,d≠.int k) (hsz:szB E=true)
  (hx:Dn e x u) (S:Src e w v s m new) (hh:appW E s x m new h K=some z) (ts:List TypeId) (ty:TypeId):∃ q w',(Builtin.append_ ⟨X::Y::ts⟩ ty ⟨[u,v]⟩).run Pr w=.ok q w'∧Out w0 e h K q w':=by
 cases m with
 | zero=>
  have h':(asO x fun x=>apZ x h K)=some z:=hh
  obtain⟨o,rfl,h'⟩:=qL h'
  obtain⟨i,zv,hi,hz,hby,hpos,zc⟩:=szB_law hsz
  obtain⟨i',hi',hse⟩:=tk_info hE
  rw[hi]at hi'; cases hi'
  obtain⟨news,n1,n2,n3⟩:=S.cells 0 (Nat.le_refl _)
  have A:App w X Y E s zv i.bytes v 0 news:=⟨hX,⟨i,hi,hz,hse,rfl⟩,hY,S.len,n3,n1⟩
  have fin:∀ p l c,u=.slice p l c→l≤c→K (.x (.o o)) h=some z→∃ q w',(Builtin.append_ ⟨X::Y::ts⟩ ty ⟨[u,v]⟩).run Pr w=.ok q w'∧Out w0 e h K q w':=fun p l c hu hl hk=>by
   refine⟨u,w,?_,_,h,e,z,hk,hx,R,.refl e h⟩
   rw[hu]; exact app_zero A ts ty p l c hl
  cases o with
  | s id off l c=>
   obtain⟨h1,h2⟩:=zw (show gd (Nat.ble l c) (K (.x (.o (.s id off l c))) h)=some z from h')
   exact fin _ l c hx.2 (Nat.le_of_ble_eq_true h1) h2
  | w id off l c=>exact fin _ l _ hx.2.1 (by have:=hx.2.2; omega) h'
  | e=>obtain⟨a,c,hu⟩:=hx; exact fin a 0 c hu (Nat.zero_le _) h'
  | c q=>
   have h2:nlV q (K (.x (.o (.c q))) h)=some z:=h'
   unfold nlV at h2
   split at h2
   ·exact fin none 0 0 hx.1 (Nat.le_refl _) h2
   ·cases h2
  | _=>cases h'
 | succ m=>
  obtain⟨h1,h2⟩:=zw (show gd (Nat.ble ((m+1)*s) 4096) (asO x fun x=>apO x E s (m+1) new h K)=some z from hh)
  obtain⟨o,rfl,h2⟩:=qL h2
  exact apO_law R hX hE hY hsz (by omega) (Nat.le_of_ble_eq_true h1) hx S h2 ts ty
theorem dn_unit (e:Env):Dn e (.t []) (.tuple #[]):=⟨[],rfl,trivial⟩
theorem zero_cells {l:List Sc} {us:List Value} {zv:Value} (hc:zv.cells=⟨us⟩) (hu:zN (DnC e) l us) (m:Nat):zN (DnC e) (repL l m) (Builtin.zeroCells zv.cells m).toList:=by
 have:=rep_law hu m
 rw[hu.length]at this
 unfold Builtin.zeroCells
 rw[hc]
 simpa using this
theorem apd_int (R:zG w0 e h w) {X Y:TypeId} {x y:AV} {u v:Value} {K:AV→H→Ev.R} {z:List (AV×H)} {E s:Nat} {ag:Bool} {zl:List Sc} {k0:IntKind} (hX:Pr.underlying X=some (.slice E)) (hE:tkB Pr E=some (ag,s)) (hsz:szB E=true) (hY:Pr.underlying Y=some (.int k0)) (hz0:(zeroE E).g=some zl)
  (h4:(asI y fun _ n=>nn n fun m=>gd (Nat.beq (len zl) s && Nat.blt 0 m && Nat.ble (m*s) 4096) (asO x fun x=>(match x with | .c v=>nlV v (nat m fun m=>newV h (rowN E (repL zl m)) (fun id=>.x (.o (.w id 0 m 0))) K) | _=>none)))=some z)
  (hx:Dn e x u) (hy:Dn e y v) (ts:List TypeId) (ty:TypeId):∃ q w',(Builtin.append_ ⟨X::Y::ts⟩ ty ⟨[u,v]⟩).run Pr w=.ok q w'∧Out w0 e h K q w':=by
 obtain⟨kk,n,rfl,h4⟩:=ja h4
 obtain⟨m,rfl,h4⟩:=nn_law h4
 obtain⟨g1,h4⟩:=zw h4
 simp only[Bool.and_eq_true,qc,decide_eq_true_eq,qU,Nat.blt_eq,Nat.ble_eq]at g1
 obtain⟨o,rfl,h4⟩:=qL h4
 obtain rfl:v=_:=hy
 cases o with
 | c q=>
  have h5:nlV q (nat m fun m=>newV h (rowN E (repL zl m)) (fun id=>.x (.o (.w id 0 m 0))) K)=some z:=h4
  obtain⟨rfl,_⟩:=hx
  unfold nlV at h5
  split at h5
  ·rw[nat_eq]at h5
   obtain⟨b,hb,hk⟩:=zO h5
   obtain⟨t,rfl,t1,t2⟩:=rowN_law hb
   obtain⟨i,zv,hi,hz,hby,hpos,zc⟩:=szB_law hsz
   obtain⟨i',hi',hse⟩:=tk_info hE
   rw[hi]at hi'; cases hi'
   rw[hse]at hpos zc
   obtain⟨zv',us,z1,z2,z3⟩:=zero_law e hz0
   obtain⟨i2,hi2,hz2⟩:=zeroB_info z1
   rw[hi]at hi2; cases hi2
   rw[hz]at hz2; cases hz2
   have mle:m≤m*s:=Nat.le_mul_of_pos_right m hpos
   have hmb:m*i.bytes≤4096*1073741824:=Nat.mul_le_mul (by omega) hby
   have hfit:Builtin.nextslicecap m 0*i.bytes≤281474976710656:=growslice_fits (by omega) (by omega)
   have hrun:=app_zeros (w:=w) (kk:=kk) hX hi hz hse rfl hY g1.1.2 hpos (by omega) (by omega) hfit ts ty
   refine⟨_,_,hrun,R.alloc (al:=⟨_,fun id=>.x (.o (.w id 0 m 0))⟩) ?_ hk⟩
   have hge:=grownCap_ge w m 0 E
   have hle:=grownCap_le_maxLen w m 0 E (by unfold maxLen; omega)
   refine⟨(Below.refl w.heap.size w).drew.trans (kg w.drew _),rfl,fun id hid=>⟨w.heap.size,grownCap w m 0 E,.nilFunc,fun _=>⟨Nat.le_refl _,by simp⟩,fun h=>?_,?_⟩⟩
   ·have xx:=xA (e:=e) (bk:=w.heap.size) (c:=grownCap w m 0 E) (f:=.nilFunc) hid
    refine⟨(Builtin.zeroCells zv.cells m).toList++(Builtin.zeroCells zv.cells (grownCap w m 0 E-m)).toList,(ag,s),?_,?_,hE,?_,by rw[jv]; exact hle⟩
    ·rw[qJ]; exact heap_alloc_new w.drew _
    ·exact TOk.fresh' ((zero_cells z2 z3 m).mono fun _ _=>DnC.ext xx) rfl t1 t2
    ·rw[jv]
     simp only[List.length_append,Array.length_toList,size_zeroCells,zc]
     rw[←Nat.add_mul]
     congr 1
     omega
   ·refine⟨.inl rfl,?_,?_⟩
    ·rw[jv,Nat.sub_zero,adr,qJ]
    ·rw[jv]; omega
  ·exact absurd h5 (by simp)
 | _=>exact absurd (show(none:Option (List (AV×H)))=some z from h4) (by simp)
theorem apd_str (R:zG w0 e h w) {X Y:TypeId} {x y:AV} {u v:Value} {K:AV→H→Ev.R} {z:List (AV×H)} {E s:Nat} {ag:Bool} (hX:Pr.underlying X=some (.slice E)) (hE:tkB Pr E=some (ag,s)) (hsz:szB E=true) (hY:Pr.underlying Y=some .string)
  (hh:gd (isB E && Nat.beq s 1) (asO y fun y=>(match y with | .c v=>stV v fun m new=>appW E s x m new h K | _=>none))=some z)
  (hx:Dn e x u) (hy:Dn e y v) (ts:List TypeId) (ty:TypeId):∃ q w',(Builtin.append_ ⟨X::Y::ts⟩ ty ⟨[u,v]⟩).run Pr w=.ok q w'∧Out w0 e h K q w':=by
 obtain⟨g1,h3⟩:=zw hh
 simp only[Bool.and_eq_true,qc,decide_eq_true_eq]at g1
 obtain⟨o,rfl,h3⟩:=qL h3
 obtain⟨g1,rfl⟩:=g1
 cases o with
 | c q=>
  have h4:stV q (fun m new=>appW E 1 x m new h K)=some z:=h3
  obtain⟨rfl,_⟩:=hy
  cases v with
  | string str=>
   have h5:(nat str.size fun n=>appW E 1 x n (str.toList.map fun b=>.i .u8 (.ofNat b.toNat)) h K)=some z:=h4
   rw[nat_eq]at h5
   exact appW_law R hX hE ⟨_,hY,fun k c=>by cases c⟩ hsz hx (str_src e w str) h5 ts ty
  | _=>exact absurd (show(none:Option (List (AV×H)))=some z from h4) (by simp)
 | _=>exact absurd (show(none:Option (List (AV×H)))=some z from h3) (by simp)
theorem apd_law (R:zG w0 e h w) {X Y:TypeId} {x y:AV} {u v:Value} {K:AV→H→Ev.R} {z:List (AV×H)} (hh:(apdE X Y).g x y h K=some z) (hx:Dn e x u) (hy:Dn e y v) (ts:List TypeId) (ty:TypeId):∃ q w',(Builtin.append_ ⟨X::Y::ts⟩ ty ⟨[u,v]⟩).run Pr w=.ok q w'∧Out w0 e h K q w':=by
 unfold apdE at hh
 cases hX:elB X with
 | none=>rw[hX]at hh; cases hh
 | some E=>
  rw[hX]at hh
  have hXE:Pr.underlying X=some (.slice E.1)∧∃ ag,tkB Pr E.1=some (ag,E.2):=by
   unfold elB at hX
   split at hX
   ·rename_i E' hu
    cases ht:tkB Pr E' with
    | none=>rw[ht]at hX; cases hX
    | some q=>rw[ht]at hX; cases hX; exact⟨hu,q.1,ht⟩
   ·cases hX
  obtain⟨hXu,ag,hE⟩:=hXE
  have hh2:(Bool.rec (motive:=fun _=>Ap) (.mk fun _ _ _ _=>none) (Nat.rec (motive:=fun _=>Ap) (Option.rec (motive:=fun _=>Ap) (.mk fun _ _ _ _=>none) (fun z=>.mk fun x y h K=>asI y fun _ n=>nn n fun m=>gd (Nat.beq (len z) E.2 && Nat.blt 0 m && Nat.ble (m*E.2) 4096) (asO x fun x=>(match x with | .c v=>nlV v (nat m fun m=>newV h (rowN E.1 (repL z m)) (fun id=>.x (.o (.w id 0 m 0))) K) | _=>none))) (zeroE E.1).g)
    (fun k _=>Nat.rec (motive:=fun _=>Ap) (.mk fun x y h K=>gd (isB E.1 && Nat.beq E.2 1) (asO y fun y=>(match y with | .c v=>stV v fun m new=>appW E.1 E.2 x m new h K | _=>none)))
     (fun k _=>Nat.rec (motive:=fun _=>Ap) (.mk fun x y h K=>asO y fun y=>cellsS y E.2 h fun m new=>appW E.1 E.2 x m new h K) (fun _ _=>.mk fun _ _ _ _=>none) k) k) (apK Y)) (szB E.1):Ap).g x y h K=some z:=hh
  cases hsz:szB E.1 with
  | false=>rw[hsz]at hh2; cases hh2
  | true=>
   rw[hsz]at hh2
   unfold apK at hh2
   split at hh2
   ·rename_i k0 hY
    have h3:(Option.rec (motive:=fun _=>Ap) (.mk fun _ _ _ _=>none) (fun z=>.mk fun x y h K=>asI y fun _ n=>nn n fun m=>gd (Nat.beq (len z) E.2 && Nat.blt 0 m && Nat.ble (m*E.2) 4096) (asO x fun x=>(match x with | .c v=>nlV v (nat m fun m=>newV h (rowN E.1 (repL z m)) (fun id=>.x (.o (.w id 0 m 0))) K) | _=>none))) (zeroE E.1).g:Ap).g x y h K=some z:=hh2
    cases hz0:(zeroE E.1).g with
    | none=>rw[hz0]at h3; cases h3
    | some zl=>
     rw[hz0]at h3
     exact apd_int R hXu hE hsz hY hz0 h3 hx hy ts ty
   ·rename_i hY
    exact apd_str R hXu hE hsz hY hh2 hx hy ts ty
   ·rename_i A hY
    have h3:(asO y fun y=>cellsS y E.2 h fun m new=>appW E.1 E.2 x m new h K)=some z:=hh2
    obtain⟨o,rfl,h3⟩:=qL h3
    obtain⟨m,l,h4,S⟩:=cellsS_law R hy h3
    exact appW_law R hXu hE ⟨_,hY,fun k c=>by cases c⟩ hsz hx S h4 ts ty
   ·cases hh2
theorem copy_law (R:zG w0 e h w) {X:TypeId} {x y:AV} {u v:Value} {K:AV→H→Ev.R} {z:List (AV×H)} (hh:copyE X x y h K=some z) (hx:Dn e x u) (hy:Dn e y v) (ts:List TypeId) (ty:TypeId):∃ q w',(Builtin.copy_ ⟨X::ts⟩ ty ⟨[u,v]⟩).run Pr w=.ok q w'∧Out w0 e h K q w':=by
 obtain⟨E,s,ag,hX,hE,hh⟩:=el_law hh
 obtain⟨o,rfl,hh⟩:=qL hh
 obtain⟨m,new,hh,S⟩:=cellsS_law R hy hh
 obtain⟨o2,rfl,hh⟩:=qL hh
 have hsz:=Go.Lw.run_sizeOf hE
 have cp:∀ id off l c,e.dom id→u=.slice (some (adr e id off)) l c→cpE id off l m s new h K=some z→∃ q w',(Builtin.copy_ ⟨X::ts⟩ ty ⟨[u,v]⟩).run Pr w=.ok q w'∧Out w0 e h K q w':=fun id off l c hd hu hk=>by
  have h1:(nat (bif Nat.ble l m then l else m) fun q=>Nat.rec (motive:=fun _=>Ev.R) (obn (iLn 0) fun v=>K v h) (fun _ _=>tke new (q*s) fun new=>storeL id off new h fun h=>obn (iLn q) fun v=>K v h) q)=some z:=hk
  rw[nat_eq]at h1
  have hq:(bif Nat.ble l m then l else m)=Nat.min m l:=by
   cases hc:Nat.ble l m with
   | true=>have:=Nat.le_of_ble_eq_true hc; show l=Nat.min m l; exact(Nat.min_eq_right this).symm
   | false=>
    have:¬ l≤m:=fun k=>by rw[Nat.ble_eq_true_of_le k]at hc; cases hc
    show m=Nat.min m l; exact(Nat.min_eq_left (by omega)).symm
  rw[hq]at h1
  have hlen:=S.len w
  obtain⟨us,u1,u2,u3⟩:=S.cells (Nat.min m l) (Nat.min_le_left _ _)
  have hrun:∀ w',(storeCells (adr e id off) us).run Pr w=.ok () w'→(Builtin.copy_ ⟨X::ts⟩ ty ⟨[u,v]⟩).run Pr w=.ok (.int .i64 (Nat.min m l:Nat)) w':=fun w' hs=>by
   subst hu
   simp[Builtin.copy_,run_underlying hX,hlen,hsz,u3 w rfl,hs,goInt]
  cases hn:Nat.min m l with
  | zero=>
   rw[hn]at h1 u1 hrun
   have hus:us=[]:=List.length_eq_zero_iff.1 (by rw[u1]; omega)
   subst hus
   obtain⟨r,hr,hk⟩:=zO (o:=iLn 0) (k:=fun v=>K v h) h1
   obtain rfl:=xw hr
   exact⟨_,w,hrun w (by simp[storeCells]),_,h,e,z,hk,rfl,R,.refl e h⟩
  | succ n=>
   rw[hn]at h1 u1 u2 hrun
   obtain⟨t1,hk⟩:=tke_law (K:=fun new=>storeL id off new h fun h=>obn (iLn (n+1)) fun v=>K v h) h1
   obtain⟨w',r1,h2,e2,z2,k1,k2,k3⟩:=storeL_law R hd u2 hk
   obtain⟨r,hr,hk⟩:=zO k1
   obtain rfl:=xw hr
   exact⟨_,w',hrun w' r1,_,h2,e2,z2,hk,rfl,k2,k3⟩
 cases o2 with
 | s id off l c=>exact cp id off l c hx.1 hx.2 hh
 | w id off l c=>exact cp id off l _ hx.1 hx.2.1 hh
 | c q=>
  have h2:nlV q (obn (iLn 0) fun v=>K v h)=some z:=hh
  obtain⟨rfl,_⟩:=hx
  unfold nlV at h2
  split at h2
  ·obtain⟨r,hr,hk⟩:=zO h2
   obtain rfl:=xw hr
   have hlen:=S.len w
   obtain⟨us,u1,u2,u3⟩:=S.cells 0 (Nat.zero_le _)
   refine⟨.int .i64 (0:Nat),w,?_,_,h,e,z,hk,rfl,R,.refl e h⟩
   simp[Builtin.copy_,run_underlying hX,hlen,hsz,u3 w rfl,goInt]
  ·cases h2
 | _=>cases hh
theorem clear_law (R:zG w0 e h w) {X:TypeId} {x:AV} {u:Value} {K:AV→H→Ev.R} {z:List (AV×H)} (hh:(asO x fun x=>clO x X h K)=some z) (hx:Dn e x u) (ts:List TypeId) (ty:TypeId):∃ q w',(Builtin.clear_ ⟨X::ts⟩ ty ⟨[u]⟩).run Pr w=.ok q w'∧Out w0 e h K q w':=by
 obtain⟨o,rfl,hh⟩:=qL hh
 have cl:∀ id off l c,e.dom id→u=.slice (some (adr e id off)) l c→clE id off l X h K=some z→∃ q w',(Builtin.clear_ ⟨X::ts⟩ ty ⟨[u]⟩).run Pr w=.ok q w'∧Out w0 e h K q w':=fun id off l c hd hu hk=>by
  subst hu
  obtain⟨E,s,ag,hX,hE,hk⟩:=el_law hk
  obtain⟨q,hq,hk⟩:=zO hk
  obtain⟨zv,us,z1,z2,z3⟩:=zero_law e hq
  cases l with
  | zero=>
   have hk':K (.t []) h=some z:=hk
   exact⟨_,w,by simp[Builtin.clear_,run_underlying hX],_,h,e,z,hk',dn_unit e,R,.refl e h⟩
  | succ l=>
   obtain⟨h1,hk⟩:=zw (show gd (Nat.beq (len q) s) (storeL id off (repL q (l+1)) h fun h=>K (.t []) h)=some z from hk)
   obtain⟨w',r1,h2,e2,z2',k1,k2,k3⟩:=storeL_law R hd (zero_cells z2 z3 (l+1)) hk
   refine⟨.tuple #[],w',?_,_,h2,e2,z2',k1,dn_unit e2,k2,k3⟩
   simp[Builtin.clear_,run_underlying hX,run_zero z1,r1]
 cases o with
 | s id off l c=>exact cl id off l c hx.1 hx.2 hh
 | w id off l c=>exact cl id off l _ hx.1 hx.2.1 hh
 | c q=>
  have h2:nlV q (el X fun _ _=>K (.t []) h)=some z:=hh
  obtain⟨rfl,_⟩:=hx
  unfold nlV at h2
  split at h2
  ·obtain⟨E,s,ag,hX,hE,hk⟩:=el_law h2
   exact⟨_,w,by simp[Builtin.clear_,run_underlying hX],_,h,e,z,hk,dn_unit e,R,.refl e h⟩
  ·cases h2
 | _=>cases hh
end
end Go.Ev
end
section
set_option linter.unusedVariables false
set_option linter.unusedSimpArgs false
set_option linter.constructorNameAsVariable false
namespace Go.Ev
open Go.Lw Go.RowKit
theorem zN.eraseIdx {α β:Type} {p:α→β→Prop} : ∀ {l:List α} {m:List β} (i:Nat),zN p l m→zN p (l.eraseIdx i) (m.eraseIdx i)
 | [],[],_,_=>by simp[zN]
 | _::_,_::_,0,⟨_,b⟩=>by simpa using b
 | _::_,_::_,i+1,⟨a,b⟩=>by simpa using ⟨a,b.eraseIdx i⟩
 | [],_::_,_,k=>k.elim
 | _::_,[],_,k=>k.elim
theorem MOk.erase {e:Env} {l:List (AV×AV)} {es:List MapEntry} {c:Nat} (h:MOk e l es c) (i:Nat):MOk e (l.eraseIdx i) (es.eraseIdx i) c:=
 ⟨h.1.eraseIdx i,(List.Sublist.map _ (List.eraseIdx_sublist es i)).nodup h.2.1,fun en hen=>h.2.2 en ((List.eraseIdx_sublist es i).subset hen)⟩
/-! ### Keys told apart -/
theorem eqL_true:∀ {n:Nat} {l m:List Sc},nums l=true→eqL n l m=some true→l=m
 | 0,[],[],_,_=>rfl
 | 0,[],_::_,_,h=>by cases h
 | 0,_::_,_,_,h=>by cases h
 | n+1,[],_,_,h=>by cases h
 | n+1,_::_,[],_,h=>by cases h
 | n+1,x::l,y::m,hn,h=>by
  have h':eqI x y (fun b=>kI b (eqL n l m) (some false))=some true:=h
  cases x with
  | i k a=>
   have hn':nums l=true:=hn
   cases y with
   | i k' b=>
    obtain⟨h1,h2⟩:=zw (show gd (Nat.beq (kNo k) (kNo k')) ((fun b=>kI b (eqL n l m) (some false)) (ieqB a b))=some true from h')
    obtain rfl:=kNo_inj h1
    rw[ieqB_eq]at h2
    by_cases c:a=b
    ·subst c
     have h3:kI (decide (a=a)) (eqL n l m) (some false)=some true:=h2
     rw[decide_eq_true rfl]at h3
     rw[eqL_true hn' h3]
    ·have h3:kI (decide (a=b)) (eqL n l m) (some false)=some true:=h2
     rw[decide_eq_false c]at h3
     cases h3
   | _=>cases h'
  | _=>cases hn
def KeyA (n:Nat) (y:AV):Prop:=(n=0∧∃ k a,y=.i k a)∨∃ l,n=l.length+1∧y=.a l∧nums l=true
theorem keyK_form {Z:Type} {z:Z} {n:Nat} {y:AV} {K:AV→Option Z} (h:kV n y K=some z):KeyA n y:=by
 cases n with
 | zero=>
  obtain⟨k,a,rfl,_⟩:=ja (show(asI y fun k a=>K (.i k a))=some z from h)
  exact .inl ⟨rfl,k,a,rfl⟩
 | succ n=>
  obtain⟨l,rfl,h2⟩:=kK (show(asA y fun l=>gd (Nat.beq (len l) n && nums l) (K (.a l)))=some z from h)
  obtain⟨h1,_⟩:=zw h2
  simp only[Bool.and_eq_true,qc,decide_eq_true_eq,qU]at h1
  exact .inr ⟨l,by rw[h1.1],rfl,h1.2⟩
theorem KeyA.same {n:Nat} {y key:AV} (hy:KeyA n y) (h:kC n y key=some true):y=key:=by
 rcases hy with ⟨rfl,k,a,rfl⟩ | ⟨l,rfl,rfl,hn⟩
 ·obtain⟨s,t,hs,rfl,h2⟩:=xx_law (show(xx (.i k a) key fun x y=>eqI x y some)=some true from h)
  cases hs
  cases t with
  | i k' b=>
   obtain⟨h1,h3⟩:=zw (show gd (Nat.beq (kNo k) (kNo k')) (some (ieqB a b))=some true from h2)
   obtain rfl:=kNo_inj h1
   rw[ieqB_eq]at h3
   have:a=b:=by simpa using h3
   rw[this]
  | _=>cases h2
 ·obtain⟨l',hl,h2⟩:=kK (show(asA (.a l) fun l1=>asA key fun m=>gd (Nat.beq (len l1) l.length && Nat.beq (len m) l.length) (eqL l.length l1 m))=some true from h)
  cases hl
  obtain⟨m,rfl,h3⟩:=kK h2
  obtain⟨_,h4⟩:=zw h3
  rw[eqL_true hn h4]
theorem KeyA.shp {n:Nat} {y:AV} (hy:KeyA n y):shpK y=some n:=by
 rcases hy with ⟨rfl,k,a,rfl⟩ | ⟨l,rfl,rfl,hn⟩
 ·rfl
 ·show some (Nat.succ (len l))=_
  rw[qU]
theorem keyE_shp {m n:Nat} {a b:AV} {r:Bool} (h:kC m a b=some r) (hs:shpK a=some n):m=n:=by
 cases m with
 | zero=>
  obtain⟨s,t,rfl,_,_⟩:=xx_law (show(xx a b fun x y=>eqI x y some)=some r from h)
  cases s with
  | i k x=>cases hs; rfl
  | _=>cases hs
 | succ m=>
  obtain⟨l,rfl,h2⟩:=kK (show(asA a fun l=>asA b fun m'=>gd (Nat.beq (len l) m && Nat.beq (len m') m) (eqL m l m'))=some r from h)
  obtain⟨m',_,h3⟩:=kK h2
  obtain⟨h4,_⟩:=zw h3
  simp only[Bool.and_eq_true,qc,decide_eq_true_eq,qU]at h4
  have hs':some (Nat.succ (len l))=some n:=hs
  rw[qU]at hs'
  have:=Option.some.inj hs'
  omega
theorem neK_cons {n:Nat} {k:AV} {p:AV×AV} {l:List (AV×AV)} (h:neK n k (p::l)=true):kC n k p.1=some false∧kC n p.1 k=some false∧neK n k l=true:=by
 have h':(match kC n k p.1,kC n p.1 k with | some false,some false=>neK n k l | _,_=>false)=true:=h
 split at h'
 ·rename_i h1 h2; exact⟨h1,h2,h'⟩
 ·cases h'
theorem neK_mem {n:Nat} {k:AV} : ∀ {l:List (AV×AV)},neK n k l=true→∀ p∈l,kC n k p.1=some false∧kC n p.1 k=some false
 | [],_,p,hp=>by cases hp
 | q::l,h,p,hp=>by
  obtain⟨h1,h2,h3⟩:=neK_cons h
  rcases List.mem_cons.1 hp with rfl | hp
  ·exact⟨h1,h2⟩
  ·exact neK_mem h3 p hp
theorem neK_of {n:Nat} {k:AV} : ∀ {l:List (AV×AV)},(∀ p∈l,kC n k p.1=some false∧kC n p.1 k=some false)→neK n k l=true
 | [],_=>rfl
 | q::l,h=>by
  obtain⟨h1,h2⟩:=h q (by simp)
  show(match kC n k q.1,kC n q.1 k with | some false,some false=>neK n k l | _,_=>false)=true
  rw[h1,h2]
  exact neK_of fun p hp=>h p (by simp[hp])
theorem dstK_cons {p:AV×AV} {l:List (AV×AV)} (h:dstK (p::l)=true):∃ n,shpK p.1=some n∧neK n p.1 l=true∧dstK l=true:=by
 have h':(match shpK p.1 with | some n=>neK n p.1 l && dstK l | none=>false)=true:=h
 split at h'
 ·rename_i n hn
  simp only[Bool.and_eq_true]at h'
  exact⟨n,hn,h'.1,h'.2⟩
 ·cases h'
theorem dstK_sub {l m:List (AV×AV)} (hs:l.Sublist m) (h:dstK m=true):dstK l=true:=by
 induction hs with
 | slnil=>rfl
 | cons a hs ih=>exact ih (dstK_cons h).choose_spec.2.2
 | cons_cons a hs ih=>
  obtain⟨n,h1,h2,h3⟩:=dstK_cons h
  rename_i l1 l2
  show(match shpK a.1 with | some n=>neK n a.1 l1 && dstK l1 | none=>false)=true
  rw[h1]
  simp only[Bool.and_eq_true]
  exact⟨neK_of fun p hp=>neK_mem h2 p (hs.subset hp),ih h3⟩
theorem dstK_hit {n:Nat} {y:AV} (hy:KeyA n y) (hyy:kC n y y=some true):∀ {l:List (AV×AV)} {i:Nat} {p:AV×AV},dstK l=true→l[i]? = some p→p.1=y→hit (kC n) y l=some (some i)
 | [],i,p,_,hp,_=>by simp at hp
 | q::l,0,p,_,hp,hpy=>by
  simp at hp; subst hp
  rw[hit_cons (b:=true) (by rw[hpy]; exact hyy)]; rfl
 | q::l,i+1,p,h,hp,hpy=>by
  obtain⟨nq,h1,h2,h3⟩:=dstK_cons h
  have hp':l[i]? = some p:=by simpa using hp
  have hne:=(neK_mem h2 p (List.mem_of_getElem? hp')).2
  rw[hpy]at hne
  obtain rfl:=keyE_shp hne hy.shp
  rw[hit_cons (b:=false) hne,dstK_hit hy hyy h3 hp' hpy]; rfl
/-! ### What is left of a map -/
theorem born_ne {L:List MapEntry} {b:Nat} (h:b∉L.map (·.born)):L.filter (fun x=>x.born != b)=L:=by
 rw[List.filter_eq_self]
 intro x hx
 simp only[bne_iff_ne,ne_eq]
 exact fun k=>h (List.mem_map.2 ⟨x,hx,k⟩)
theorem erase_filter:∀ {L:List MapEntry} {i:Nat} {en:MapEntry},L[i]? = some en→(L.map (·.born)).Nodup→L.eraseIdx i=L.filter (fun x=>x.born != en.born)
 | [],i,en,h,_=>by simp at h
 | x::L,0,en,h,hn=>by
  simp at h; subst h
  simp only[List.map_cons,List.nodup_cons]at hn
  simp[born_ne hn.1]
 | x::L,i+1,en,h,hn=>by
  simp only[List.map_cons,List.nodup_cons]at hn
  have h':L[i]? = some en:=by simpa using h
  have hne:x.born≠en.born:=fun k=>hn.1 (by rw[k]; exact List.mem_map.2 ⟨en,List.mem_of_getElem? h',rfl⟩)
  simp[hne,erase_filter h' hn.2]
theorem kU (S:Array Nat) (x:MapEntry) (k:Bool) (zs:List (MapEntry×Bool)):jy S ((x,k)::zs)=if (k || !S.contains x.born)=true then x::jy S zs else jy S zs:=by
 unfold jy
 rw[List.filter_cons]
 simp only
 split<;>simp
theorem leftJ_born {S:Array Nat} {es:List MapEntry} {ks:List Bool} {b:Nat} (h:b∉es.map (·.born)):b∉(jy S (es.zip ks)).map (·.born):=fun k=>by
 obtain⟨x,hx,hb⟩:=List.mem_map.1 k
 unfold jy at hx
 obtain⟨z,hz,rfl⟩:=List.mem_map.1 hx
 exact h (List.mem_map.2 ⟨z.1,(List.of_mem_zip (List.mem_filter.1 hz).1).1,hb⟩)
theorem leftJ_erase {S:Array Nat} : ∀ {es:List MapEntry} {ks:List Bool} {j:Nat} {en:MapEntry},es[j]? = some en→j<ks.length→(es.map (·.born)).Nodup→S.contains en.born=true→
  jy S (es.zip (ks.set j false))=(jy S (es.zip (ks.set j true))).filter (fun x=>x.born != en.born)
 | [],_,j,en,h,_,_,_=>by simp at h
 | x::es,[],j,en,_,h,_,_=>by simp at h
 | x::es,k::ks,0,en,h,_,hn,hS=>by
  simp at h; subst h
  simp only[List.map_cons,List.nodup_cons]at hn
  simp only[List.set_cons_zero,List.zip_cons_cons,kU,hS]
  simp[born_ne (leftJ_born hn.1)]
 | x::es,k::ks,j+1,en,h,hj,hn,hS=>by
  simp only[List.map_cons,List.nodup_cons]at hn
  have h':es[j]? = some en:=by simpa using h
  have hne:x.born≠en.born:=fun k=>hn.1 (by rw[k]; exact List.mem_map.2 ⟨en,List.mem_of_getElem? h',rfl⟩)
  have ih:=leftJ_erase (S:=S) (ks:=ks) h' (by simpa using hj) hn.2 hS
  simp only[List.set_cons_succ,List.zip_cons_cons,kU,ih]
  split
  ·simp[hne]
  ·rfl
theorem leftJ_step {S:Array Nat} : ∀ {es:List MapEntry} {ks:List Bool} {j:Nat} {en:MapEntry},es[j]? = some en→j<ks.length→(es.map (·.born)).Nodup→S.contains en.born=false→
  jy (S.push en.born) (es.zip (ks.set j true))=jy S (es.zip ks)
 | [],_,j,en,h,_,_,_=>by simp at h
 | x::es,[],j,en,_,h,_,_=>by simp at h
 | x::es,k::ks,0,en,h,_,hn,hS=>by
  simp at h; subst h
  simp only[List.map_cons,List.nodup_cons]at hn
  have rest:jy (S.push x.born) (es.zip ks)=jy S (es.zip ks):=by
   unfold jy
   congr 1
   apply List.filter_congr
   intro z hz
   have:z.1.born≠x.born:=fun k=>hn.1 (List.mem_map.2 ⟨z.1,(List.of_mem_zip hz).1,k⟩)
   simp[Array.contains_push,this]
  simp only[List.set_cons_zero,List.zip_cons_cons,kU,hS,rest]
  simp
 | x::es,k::ks,j+1,en,h,hj,hn,hS=>by
  simp only[List.map_cons,List.nodup_cons]at hn
  have h':es[j]? = some en:=by simpa using h
  have hne:x.born≠en.born:=fun k=>hn.1 (by rw[k]; exact List.mem_map.2 ⟨en,List.mem_of_getElem? h',rfl⟩)
  have ih:=leftJ_step (S:=S) (ks:=ks) h' (by simpa using hj) hn.2 hS
  have hc:(S.push en.born).contains x.born=S.contains x.born:=by simp[Array.contains_push,hne]
  simp only[List.set_cons_succ,List.zip_cons_cons,kU,ih,hc]
section
variable {w0:World} {e:Env} {h:H} {w:World}
def eraseO (r:Option Nat) (es:List MapEntry):List MapEntry:=match r with
 | none=>es
 | some i=>es.eraseIdx i
theorem run_delete {X kt et:TypeId} {n:Nat} (hX:Pr.underlying X=some (.map kt et)) (hn:kiB kt=some n) {k:AV} {kv:Value} (hkv:Dn e k kv) (hV:KeyV n kv) {l:List (AV×AV)} {es:List MapEntry} {c b:Nat} {r:Option Nat} (hh:hit (kC n) k l=some r) (hl:zN (DnE e) l es)
  (hb:w.heap[b]? = some (.map ⟨es⟩ c)) (ts:List TypeId) (ty:TypeId) :
  (Builtin.delete_ ⟨X::ts⟩ ty ⟨[.map (some b),kv]⟩).run Pr w=.ok (.tuple #[]) (w.putObj b (.map ⟨eraseO r es⟩ c)):=by
 have hf:=find_law hn hkv hV hh hl w
 have hc:=key_check hn hV es.isEmpty w
 have hset:∀ o',(setObj b o').run Pr w=.ok () (w.putObj b o'):=fun o'=>run_setMap o' hb
 cases r with
 | none=>simp[Builtin.delete_,run_underlying hX,qN hb,hc,hf,found,hset,eraseO]
 | some j=>
  obtain⟨p,en,e1,e2,e3⟩:=hit_key (kt:=kt) hkv hh hl
  have hlt:j<es.length:=(List.getElem?_eq_some_iff.1 e2).1
  simp[Builtin.delete_,run_underlying hX,qN hb,hc,hf,found,e2,hset,Array.eraseIdxIfInBounds,hlt,eraseO]
theorem sameI_nf:∀ (us:List Value),jL us us≠some false
 | [],h=>by simp[jL]at h
 | u::us,h=>by
  cases u with
  | int k a=>
   simp only[jL,if_true]at h
   exact sameI_nf us h
  | _=>simp[jL]at h
theorem KeyEq.ne {kt:TypeId} {n:Nat} {u v:Value} (h:KeyEq kt n u v false):u≠v:=fun c=>by
 cases h with
 | int k a b hn hu hv hb=>
  rw[hu,hv]at c
  cases c
  simp at hb
 | agg m us vs hn hu hv hl hs=>
  rw[hu,hv]at c
  cases c
  exact sameI_nf _ hs
theorem dstK_ne:∀ {l:List (AV×AV)} {i j:Nat} {p q:AV×AV},dstK l=true→l[i]? = some p→l[j]? = some q→i≠j→∃ m,kC m p.1 q.1=some false
 | [],i,j,p,q,_,hp,_,_=>by simp at hp
 | x::l,0,0,p,q,_,_,_,hij=>absurd rfl hij
 | x::l,0,j+1,p,q,h,hp,hq,_=>by
  obtain⟨n,h1,h2,h3⟩:=dstK_cons h
  simp at hp; subst hp
  exact⟨n,(neK_mem h2 q (List.mem_of_getElem? (by simpa using hq))).1⟩
 | x::l,i+1,0,p,q,h,hp,hq,_=>by
  obtain⟨n,h1,h2,h3⟩:=dstK_cons h
  simp at hq; subst hq
  exact⟨n,(neK_mem h2 p (List.mem_of_getElem? (by simpa using hp))).2⟩
 | x::l,i+1,j+1,p,q,h,hp,hq,hij=>by
  obtain⟨n,h1,h2,h3⟩:=dstK_cons h
  exact dstK_ne h3 (by simpa using hp) (by simpa using hq) (by omega)
theorem KeyA.val {n:Nat} {y:AV} (hy:KeyA n y) {e:Env} {u v:Value} (hu:Dn e y u) (hv:Dn e y v):u=v:=by
 rcases hy with ⟨rfl,k,a,rfl⟩ | ⟨l,rfl,rfl,hn⟩
 ·rw[show u=.int k a from hu,show v=.int k a from hv]
 ·obtain⟨us,rfl,h1⟩:=hu
  obtain⟨vs,rfl,h2⟩:=hv
  have:∀ {l:List Sc} {us vs:List Value},nums l=true→zN (DnC e) l us→zN (DnC e) l vs→us=vs:=by
   intro l
   induction l with
   | nil=>
    intro us vs _ h1 h2
    cases us with
    | cons=>exact h1.elim
    | nil=>cases vs with
     | cons=>exact h2.elim
     | nil=>rfl
   | cons s l ih=>
    intro us vs hn h1 h2
    cases us with
    | nil=>exact h1.elim
    | cons u us=>
     cases vs with
     | nil=>exact h2.elim
     | cons v vs=>
      cases s with
      | i k a=>
       have hn':nums l=true:=hn
       rw[show u=.int k a from h1.1.1,show v=.int k a from h2.1.1,ih hn' h1.2 h2.2]
      | _=>cases hn
  rw[this hn h1 h2]
theorem del_law (R:zG w0 e h w) {X:TypeId} {x y:AV} {mu kv:Value} {K:H→Ev.R} {z:List (AV×H)} (hh:delE X x y h K=some z) (hx:Dn e x mu) (hy:Dn e y kv) (ts:List TypeId) (ty:TypeId) :
  ∃ w',(Builtin.delete_ ⟨X::ts⟩ ty ⟨[mu,kv]⟩).run Pr w=.ok (.tuple #[]) w'∧OutU w0 e h K w':=by
 obtain⟨m,hm,hh⟩:=zO hh
 obtain⟨kt,et,zv,hX,hn,he,hz,hzz⟩:=mapK_law hm
 have hA:=keyK_form hh
 obtain⟨hV,hh⟩:=keyK_law hh hy
 obtain⟨id,rfl,hh⟩:=asM_law hh
 obtain⟨b,hb,hh⟩:=jg hh
 obtain⟨hd,rfl⟩:=hx
 cases b with
 | m l=>
  obtain⟨l',ho,hh⟩:=zO (o:=delM m.eq y l) (k:=fun l=>xm h id (.o (.m l)) K) hh
  rw[he]at ho
  obtain⟨es,c,h1,h2⟩:=R.map hd hb
  obtain⟨rr,k1,k2⟩:=delM_hit ho
  refine⟨_,run_delete hX hn hy hV k1 h2.1 h1 ts ty,map_put R hd hb ?_ hh⟩
  cases rr with
  | none=>rw[show l'=l from k2]; exact h2
  | some i=>rw[show l'=l.eraseIdx i from k2]; exact h2.erase i
 | g key gone L=>
  obtain⟨bb,ho,hh⟩:=zO (o:=m.eq y key) (k:=fun b=>gd (b && !gone && okW h id) (jF h id (.o (.g key true L)) K)) hh
  obtain⟨g1,hh2⟩:=zw hh
  simp only[Bool.and_eq_true,Bool.not_eq_true']at g1
  obtain⟨⟨rfl,rfl⟩,gw⟩:=g1
  rw[he]at ho
  obtain rfl:=hA.same ho
  have ok:=R.ok id hd
  rw[hb]at ok
  obtain⟨l,es,c,k1,k2,k3,⟨kS,kE⟩,k4⟩:=ok
  obtain⟨i,p,p1,p2⟩:=k4 rfl
  have hit1:=dstK_hit hA ho k3 p1 p2
  obtain⟨p',eni,q1,q2,q3⟩:=hit_key (kt:=kt) hy hit1 k2.1
  rw[p1]at q1; cases q1
  obtain⟨h',P,hk⟩:=jl hh2 (R.zY hd)
  have hin:inB (hget h id):=by rw[hb]; trivial
  have hlow:=R.low id hd hin
  have hg:w.grownBy (w.putObj (e.blk id) (.map ⟨es.eraseIdx i⟩ c)) (some (e.blk id)):=⟨rfl,rfl,rfl,by simp,fun k hk hne=>World.putObj_heap_other fun c=>hne (by rw[c])⟩
  refine⟨_,run_delete hX hn hy hV hit1 k2.1 k1 ts ty,h',e,z,hk,R.putR P hd hin (fun j hj hne hr=>?_) hg ⟨l.eraseIdx i,es.eraseIdx i,c,World.putObj_heap_same hlow.2,k2.erase i,dstK_sub (List.eraseIdx_sublist l i) k3,⟨(List.eraseIdx_sublist l i).trans kS,kE⟩,fun k=>by cases k⟩ (fun m k=>by cases k),R.frPut P hd (okW_law gw) (by rw[hb]; trivial)⟩
  have ok:=R.ok j hj
  cases hbj:hget h j with
  | x=>rw[hbj]at hr; cases hr
  | c=>rw[hbj]at hr; cases hr
  | r=>rw[hbj]at hr; cases hr
  | o q=>
   rw[hbj]at hr ok
   cases q with
   | i m' l'=>cases hr; obtain⟨_,h2,_⟩:=ok; rw[hb]at h2; cases h2
   | b m' l' rem=>exact ok.elim
   | c m' k v l' rem=>cases hr; obtain⟨_,h2,_⟩:=ok; rw[hb]at h2; cases h2
   | j m' l' z=>cases hr; obtain⟨_,h2,_⟩:=ok; rw[hb]at h2; cases h2
   | k m' key' v l' keep z cur=>
    cases hr
    obtain⟨_,gone,L',h2,es',c',since,seen,j',en,g1,g2,⟨h3,h4,h5⟩,h6,h7,h8⟩:=ok
    rw[hb]at h2; cases h2
    rw[k1]at h3
    simp only[Option.some.injEq,Obj.map.injEq,Array.mk.injEq]at h3
    obtain⟨rfl,rfl⟩:=h3
    have hlen:=h6.1.length
    simp only[List.length_map]at hlen
    have hj':j'<l'.length:=(List.getElem?_eq_some_iff.1 g2).1
    have hS:(seen.push en.born).contains en.born=true:=by simp[Array.contains_push]
    have hs:((l'.map (·.2)).set j' (!false))[j']? = some true:=by rw[List.getElem?_set_self (by simpa using hj')]; rfl
    have hmem:=leftJ_mem (seen:=seen.push en.born) g1 hs
    obtain⟨i',hi'⟩:=List.mem_iff_getElem?.1 hmem
    have hE:DnE e (y,v) en:=h6.1.at (by rw[List.getElem?_map,g2]; rfl) g1
    have hen:eni=en:=by
     by_cases ci:i=i'
     ·subst ci; rw[q2]at hi'; exact Option.some.inj hi'
     ·have hil:i'<l.length:=by rw[k2.1.length]; exact(List.getElem?_eq_some_iff.1 hi').1
      obtain⟨mm,hmm⟩:=dstK_ne k3 p1 (List.getElem?_eq_getElem hil) ci
      have d1:=(k2.1.at p1 q2).1
      have d2:=(k2.1.at (List.getElem?_eq_getElem hil) hi').1
      have:=(keyE_law (kt:=kt) hmm d1 d2).ne
      exact absurd (by rw[q3]; exact hA.val hy hE.1) this
    have hneb:e.blk j≠e.blk id:=fun k=>hne (R.inj j id hj hd (by rw[hbj]; trivial) hin k)
    refine⟨hd,true,_,by rw[P.get id (R.zY hd),if_pos rfl],es',_,since,seen,j',en,g1,g2,⟨?_,?_,h5⟩,h6,h7,h8⟩
    ·rw[World.putObj_heap_same hlow.2]
     show some (Obj.map ⟨List.eraseIdx _ i⟩ _)=_
     rw[erase_filter q2 k2.2.1,hen]
     exact congrArg (fun L=>some (Obj.map ⟨L⟩ _)) (leftJ_erase (ks:=l'.map (·.2)) g1 (by simpa using hj') h6.2.1 hS).symm
    ·rw[World.putObj_heap_other fun c=>hneb c]; exact h4
   | _=>cases hr
 | _=>cases hh
end
end Go.Ev
end
section
set_option linter.unusedVariables false
set_option linter.unusedSimpArgs false
set_option linter.constructorNameAsVariable false
namespace Go.Ev
open Go.Lw Go.RowKit
theorem both_law {a b:Ev.R} {z:List (AV×H)} (h:both a b=some z):∃ p q,a=some p∧b=some q:=by
 obtain⟨p,hp,h⟩:=zO h
 obtain⟨q,hq,_⟩:=zO h
 exact⟨p,q,hp,hq⟩
theorem eachB_law {K:AV×AV→List (AV×AV)→Ev.R} : ∀ {rem pre:List (AV×AV)} {z:List (AV×H)},eachB pre rem K=some z→∀ (A B:List (AV×AV)) (p:AV×AV),rem=A++p::B→∃ z',K p (pre++A++B)=some z'
 | [],pre,z,_,A,B,p,hr=>by cases A<;>cases hr
 | x::r,pre,z,h,A,B,p,hr=>by
  obtain⟨z1,z2,h1,h2⟩:=both_law (show both (K x (app pre r)) (eachB (app pre [x]) r K)=some z from h)
  cases A with
  | nil=>
   cases hr
   rw[ko]at h1
   exact⟨z1,by simpa using h1⟩
  | cons y A=>
   cases hr
   obtain⟨z',hz'⟩:=eachB_law h2 A B p rfl
   rw[ko]at hz'
   exact⟨z',by simpa using hz'⟩
theorem eachJ_law {K:Nat→(AV×AV)×Bool→Ev.R} {E:Ev.R} : ∀ {l:List ((AV×AV)×Bool)} {i:Nat} {z:List (AV×H)},eachJ l K E i=some z→(∀ j p,l[j]? = some p→∃ z',K (i+j) p=some z')∧∃ z',E=some z'
 | [],i,z,h=>⟨fun j p hp=>by simp at hp,z,h⟩
 | x::l,i,z,h=>by
  have h':both (K i x) (eachJ l K E (Nat.succ i))=some z:=h
  obtain⟨z1,z2,h1,h2⟩:=both_law h'
  obtain⟨k1,k2⟩:=eachJ_law h2
  refine⟨fun j p hp=>?_,k2⟩
  cases j with
  | zero=>simp at hp; subst hp; exact⟨z1,h1⟩
  | succ j=>
   obtain⟨z',hz⟩:=k1 j p (by simpa using hp)
   exact⟨z',by rw[show i+(j+1)=Nat.succ i+j by omega]; exact hz⟩
theorem remB_split {seen:Array Nat} : ∀ {l:List (AV×AV)} {es:List MapEntry} {j:Nat} {p:AV×AV} {en:MapEntry},l[j]? = some p→es[j]? = some en→(es.map (·.born)).Nodup→seen.contains en.born=false→
  ∃ A B,remB seen l es=A++p::B∧remB (seen.push en.born) l es=A++B
 | [],es,j,p,en,hp,_,_,_=>by simp at hp
 | x::l,[],j,p,en,_,he,_,_=>by simp at he
 | x::l,y::es,0,p,en,hp,he,hn,hs=>by
  simp at hp he
  subst hp; subst he
  simp only[List.map_cons,List.nodup_cons]at hn
  refine⟨[],remB seen l es,?_,?_⟩
  ·have hs':¬ y.born∈seen:=by simpa using hs
   simp[remB,hs']
  ·have rest:remB (seen.push y.born) l es=remB seen l es:=by
    unfold remB
    congr 1
    apply List.filter_congr
    intro z hz
    have:z.2.born≠y.born:=fun k=>hn.1 (List.mem_map.2 ⟨z.2,(List.of_mem_zip hz).2,k⟩)
    simp[Array.contains_push,this]
   have:remB (seen.push y.born) (x::l) (y::es)=remB (seen.push y.born) l es:=by
    simp[remB]
   rw[this,rest]; rfl
 | x::l,y::es,j+1,p,en,hp,he,hn,hs=>by
  simp only[List.map_cons,List.nodup_cons]at hn
  have he':es[j]? = some en:=by simpa using he
  have hne:y.born≠en.born:=fun k=>hn.1 (by rw[k]; exact List.mem_map.2 ⟨en,List.mem_of_getElem? he',rfl⟩)
  obtain⟨A,B,h1,h2⟩:=remB_split (l:=l) (by simpa using hp) he' hn.2 hs
  have c:∀ S:Array Nat,remB S (x::l) (y::es)=if S.contains y.born=true then remB S l es else x::remB S l es:=fun S=>by
   unfold remB
   rw[List.zip_cons_cons,List.filter_cons]
   cases hS:S.contains y.born<;>simp[hS]
  have hc:(seen.push en.born).contains y.born=seen.contains y.born:=by simp[Array.contains_push,hne]
  rw[c,c,hc]
  cases hS:seen.contains y.born with
  | true=>exact⟨A,B,by simpa using h1,by simpa using h2⟩
  | false=>exact⟨x::A,B,by simpa using h1,by simpa using h2⟩
theorem remB_nil {seen:Array Nat} {l:List (AV×AV)} {es:List MapEntry} (h:∀ en∈es,seen.contains en.born=true):remB seen l es=[]:=by
 unfold remB
 rw[List.map_eq_nil_iff,List.filter_eq_nil_iff]
 intro z hz
 simpa using h z.2 (List.of_mem_zip hz).2
section
variable {w0:World} {e:Env} {h:H} {w:World}
theorem range_law (R:zG w0 e h w) {X:TypeId} {x:AV} {u:Value} {K:AV→H→Ev.R} {z:List (AV×H)} (hh:gd (isMp X) (rangeE x h K)=some z) (hx:Dn e x u):∃ q w',(Instr.range X u).run Pr w=.ok q w'∧Out w0 e h K q w':=by
 obtain⟨hM,hh⟩:=zw hh
 have hX:∃ kt et,Pr.underlying X=some (.map kt et):=by
  unfold isMp at hM
  split at hM
  ·rename_i kt et hu; exact⟨kt,et,hu⟩
  ·cases hM
 obtain⟨kt,et,hX⟩:=hX
 obtain⟨mid,rfl,hh⟩:=asM_law hh
 obtain⟨l,hb,hh⟩:=mapB_law hh
 obtain⟨hd,rfl⟩:=hx
 obtain⟨es,c,h1,h2⟩:=R.map hd hb
 obtain⟨hlo,h',P,hk⟩:=kz hh (R.zY hd)
 have RL:=R.low' mid
 have hin:inB (hget h mid):=by rw[hb]; trivial
 have hnh:¬ hidK (hget h mid):=by rw[hb]; exact fun c=>c
 have R1:zG w0 e h' w:=RL.put P hd hin hnh (World.grownBy.refl w _) trivial
 obtain⟨h3,N,hk⟩:=newB_law hk
 have R2:=R1.push N
 have hid:¬ e.dom h'.nxt:=fun k=>by have:=R1.lt _ k; omega
 have hmn:mid≠h'.nxt:=fun k=>hid (by rw[←k]; exact hd)
 have hg:hget h3 h'.nxt=.o (.i mid l):=by rw[N.get _ N.lt,if_pos rfl]
 have hgm:hget h3 mid=.o .h:=by rw[N.get _ (R.zY hd),if_neg hmn,P.get _ (R.zY hd),if_pos rfl]
 have x:=xA (e:=e) (bk:=w.heap.size) (c:=0) (f:=.nilFunc) hid
 have hlow:=R.low mid hd hin
 have hs:=R.below.size
 refine⟨.pointer (some ⟨w.heap.size,0,none⟩),w.alloc (.mapIter (some (e.blk mid)) c #[] c),by simp[Instr.range,run_underlying hX,qN h1,run_newObj],_,h3,e.add h'.nxt w.heap.size 0 .nilFunc,z,hk,⟨.inl rfl,by rw[adr,qJ]⟩,
  R2.add hid (by rw[N.nxt]; omega) (kg w _) (fun _=>⟨hs,by simp,fun j hj hi he=>by have:=(R2.low j hj hi).2; omega⟩) ?_ (fun m hm j hj hr=>?_),((fr_low e h mid).trans (RL.frPut P hd (.inl hlo) (by show kD (hget h mid) _; rw[hb]; trivial))).trans ((R1.frNew N).add hid (Nat.le_refl _))⟩
 ·rw[hg]
  refine⟨.inr hd,hgm,es,c,⟨?_,?_,Nat.le_refl _⟩,h2.ext x⟩
  ·rw[x.blk mid hd,(kg w _).block _ hlow.2]; exact h1
  ·rw[qJ,x.blk mid hd]; exact heap_alloc_new w _
 ·rw[hg]at hm
  cases hm
  have hjn:j≠h'.nxt:=fun k=>hid (by rw[←k]; exact hj)
  rw[N.get _ (R.zY hj),if_neg hjn,P.get _ (R.zY hj)]at hr
  by_cases cj:j=mid
  ·rw[if_pos cj]at hr; cases hr
  ·rw[if_neg cj]at hr
   exact hnh (R.refs hj hr).2
theorem zG.over (R:zG w0 e h w) {id m:Nat} (hd:e.dom id) (hr:refM (hget h id)=some m) (hin:inB (hget h id)) (hnh:¬ hidK (hget h id)) {h1 h2:H} (P1:Put h id (.o .z) h1) {l:List (AV×AV)} (P2:Put h1 m (.o (.m l)) h2) {es:List MapEntry} {c:Nat} (hb:w.heap[e.blk m]? = some (.map ⟨es⟩ c)) (hM:MOk e l es c):zG w0 e h2 w:=by
 obtain⟨hm,hk⟩:=R.refs hd hr
 have hmi:m≠id:=fun k=>hnh (by rw[←k]; exact hk)
 have Ra:zG w0 e h1 w:=R.put P1 hd hin hnh (World.grownBy.refl w _) trivial
 have gm:hget h1 m=hget h m:=by rw[P1.get m (R.zY hm),if_neg hmi]
 refine Ra.putR P2 hm (by rw[gm]; exact hid_inB hk) (fun j hj hne hjr=>?_) (World.grownBy.refl w _) ⟨es,c,hb,hM⟩ (fun m k=>by cases k)
 rw[P1.get j (R.zY hj)]at hjr
 by_cases cj:j=id
 ·rw[if_pos cj]at hjr; cases hjr
 ·rw[if_neg cj]at hjr
  exact absurd (R.uniq j id m hj hd hjr hr) cj
theorem toSum_dn {v:AV} {x:Value} {K:Sc ⊕ List Sc→Option (List (AV×H))} {z:List (AV×H)} (h:toSum v K=some z) (hv:Dn e v x):∃ s,DnT e s x∧K s=some z:=by
 rcases toSum_law h with ⟨s,rfl,h⟩ | ⟨s,rfl,h⟩
 ·exact⟨.inl s,hv,h⟩
 ·exact⟨.inr s,hv,h⟩
theorem nxT_law {k v:AV} {K:AV→Ev.R} {z:List (AV×H)} (h:nxT k v K=some z) {a b:Value} (hk:Dn e k a) (hv:Dn e v b):∃ x,Dn e x (.tuple #[.bool true,a,b])∧K x=some z:=by
 obtain⟨s,hs,h⟩:=toSum_dn (show(toSum k fun k=>toSum v fun v=>K (.t [.inl (.b true),k,v]))=some z from h) hk
 obtain⟨t,ht,h⟩:=toSum_dn h hv
 exact⟨.t [.inl (.b true),s,t],⟨_,rfl,rfl,hs,ht,trivial⟩,h⟩
theorem grown_set {w1:World} {b:Nat} {o:Obj} : w1.grownBy (Go.ChangeMaps.setBlock w1 b o) (some b):=
 ⟨rfl,rfl,rfl,by simp[Go.ChangeMaps.setBlock],fun k hk hne=>by
  simp only[Go.ChangeMaps.setBlock]
  exact Array.getElem?_setIfInBounds_ne fun c=>hne (by rw[c])⟩
theorem set_at {w1:World} {b:Nat} {o:Obj} (h:b<w1.heap.size):(Go.ChangeMaps.setBlock w1 b o).heap[b]? = some o:=by
 simp[Go.ChangeMaps.setBlock,h]
theorem set_ne {w1:World} {b k:Nat} {o:Obj} (h:b≠k):(Go.ChangeMaps.setBlock w1 b o).heap[k]? = w1.heap[k]?:=by
 simp only[Go.ChangeMaps.setBlock]
 exact Array.getElem?_setIfInBounds_ne h
theorem nxF_dn (e:Env):Dn e nxF (.tuple #[.bool false]):=⟨_,rfl,rfl,trivial⟩
theorem stepB_law (R:zG w0 e h w) {id m:Nat} {l rem:List (AV×AV)} (hd:e.dom id) (hm:e.dom m) (hbm:hget h m=.o .h) (hr:refM (hget h id)=some m) (hin:inB (hget h id)) (hnh:¬ hidK (hget h id)) (hnt:∀ b,kD (hget h id) b)
  {es:List MapEntry} {c since c0:Nat} {seen:Array Nat} (hI:ItAt w (e.blk m) (e.blk id) es c since seen c0) (hM:MOk e l es c) (hold:∀ en∈es,en.born<since) (hsc:since≤c) (hrem:rem=remB seen l es)
  {K:AV→H→Ev.R} {z:List (AV×H)} (hh:stepB id m l rem h K=some z) (ty:TypeId):∃ q w',(Instr.next (.pointer (some (adr e id 0))) false ty).run Pr w=.ok q w'∧Out w0 e h K q w':=by
 obtain⟨hb1,hb2,hb3⟩:=hI
 have hmi:m≠id:=fun k=>hnh (by rw[←k,hbm]; trivial)
 have hmin:inB (hget h m):=by rw[hbm]; trivial
 rcases run_next_at (P:=Pr) w ty (e.blk id) (e.blk m) since c0 seen ⟨es⟩ c hb2 hb1 hold hb3 with ⟨h0,hrun⟩ | ⟨en,hen,w1,hw1,hrun⟩
 ·have hall:∀ en∈es,seen.contains en.born=true:=fun en hen=>by
   cases hc:seen.contains en.born with
   | true=>rfl
   | false=>
    have hmem:en∈(leftOf ⟨es⟩ seen).toList:=by
     unfold leftOf
     rw[Array.toList_filter]
     exact List.mem_filter.2 ⟨hen,by rw[hc]; rfl⟩
    have hpos:=List.length_pos_of_mem hmem
    rw[Array.length_toList]at hpos
    omega
  rw[hrem,remB_nil hall]at hh
  have h':xm h id (.o .z) (fun h=>xm h m (.o (.m l)) fun h=>K nxF h)=some z:=hh
  obtain⟨l1,h1,P1,hk⟩:=kz h' (R.zY hd)
  obtain⟨l2,h2,P2,hk⟩:=kz hk (R.zY hm)
  have RL:=R.low' id
  have Ra:zG w0 e h1 w:=RL.put P1 hd hin hnh (World.grownBy.refl w _) trivial
  have RaL:=Ra.low' m
  have P2':Put h1 m (.o (.m l)) (.mk h2.nxt h1.lo h2.ac h2.t):=⟨P2.nxt,rfl,P2.ac,P2.get⟩
  have RO:zG w0 e (.mk h2.nxt h1.lo h2.ac h2.t) w:=RL.over hd hr hin hnh P1 P2' hb1 hM
  have RO2:zG w0 e h2 w:=⟨RO.below,RO.top,RO.lt,fun j hj=>BOk.step (h:=.mk h2.nxt h1.lo h2.ac h2.t) (w:=w) hj (.refl e) rfl (fun m _ _ _=>⟨rfl,rfl⟩) (RO.ok j hj),RO.low,RO.inj,RO.none,RO.uniq⟩
  have gm:hget h1 m=.o .h:=by rw[P1.get m (R.zY hm),if_neg hmi]; exact hbm
  exact⟨_,w,hrun,nxF,h2,e,z,hk,nxF_dn e,RO2,((fr_low e h id).trans (RL.frPut P1 hd (.inl l1) (hnt _))).trans ((fr_low e h1 m).trans (RaL.frPut P2 hm (.inl l2) (by show kD (hget h1 m) _; rw[gm]; trivial)))⟩
 ·have hen2:en∈es∧seen.contains en.born=false:=by
   unfold leftOf at hen
   rw[Array.toList_filter]at hen
   have:=List.mem_filter.1 hen
   exact⟨this.1,by simpa using this.2⟩
  obtain⟨j,hj⟩:=List.mem_iff_getElem?.1 hen2.1
  have hjl:j<l.length:=by rw[hM.1.length]; exact(List.getElem?_eq_some_iff.1 hj).1
  have hp:=List.getElem?_eq_getElem hjl
  have hE:=hM.1.at hp hj
  obtain⟨A,B,hA,hB⟩:=remB_split hp hj hM.2.1 hen2.2
  rw[hA]at hrem
  have h':eachB [] rem (fun e r=>xm h id (.o (.c m e.1 e.2 l r)) fun h=>nxT e.1 e.2 fun v=>K v h)=some z:=by
   rw[hrem]at hh⊢
   cases A<;>exact hh
  obtain⟨z',hk⟩:=eachB_law h' A B _ hrem
  obtain⟨l1,h1,P1,hk⟩:=kz hk (R.zY hd)
  have RL:=R.low' id
  obtain⟨x,hx,hk⟩:=nxT_law hk hE.1 hE.2
  have Rw:zG w0 e h w1:=by
   rcases hw1 with rfl | rfl
   ·exact R
   ·exact R.world (Below.refl w.heap.size w).drew
  have hlow:=Rw.low id hd hin
  have hneb:e.blk id≠e.blk m:=fun k=>hmi (R.inj m id hm hd hmin hin k.symm)
  have hm1:w1.heap[e.blk m]? = some (.map ⟨es⟩ c):=by rcases hw1 with rfl | rfl<;>exact hb1
  refine⟨_,_,hrun,x,h1,e,z',hk,hx,(Rw.low' id).put P1 hd hin hnh grown_set ⟨hm,by rw[P1.get m (R.zY hm),if_neg hmi]; exact hbm,es,c,since,seen,en,⟨by rw[set_ne hneb]; exact hm1,set_at hlow.2,hsc⟩,hM,hold,?_,hen2.1,hE⟩ (fun m' k=>by cases k; exact hr),(fr_low e h id).trans (RL.frPut P1 hd (.inl l1) (hnt _))⟩
  rw[hB]; rfl
theorem next_any (R:zG w0 e h w) {id:Nat} (hd:e.dom id) {m:Nat} {l:List (AV×AV)} {K:AV→H→Ev.R} {z:List (AV×H)} (ty:TypeId)
  (hh:(hget h id=.o (.i m l)∧stepB id m l l h K=some z)∨∃ k v rem,hget h id=.o (.c m k v l rem)∧stepB id m l rem h K=some z):∃ q w',(Instr.next (.pointer (some (adr e id 0))) false ty).run Pr w=.ok q w'∧Out w0 e h K q w':=by
 have ok:=R.ok id hd
 rcases hh with ⟨hb,hh⟩ | ⟨k,v,rem,hb,hh⟩
 ·rw[hb]at ok
  obtain⟨h1,h2,es,c,hI,hM⟩:=ok
  refine stepB_law R hd h1 h2 (by rw[hb]; rfl) (by rw[hb]; trivial) (by rw[hb]; exact fun c=>c) (by rw[hb]; exact fun _=>trivial) hI hM hM.2.2 (Nat.le_refl _) ?_ hh ty
  unfold remB
  have:∀ {l:List (AV×AV)} {es:List MapEntry},l.length=es.length→((l.zip es).filter fun z=>!(#[]:Array Nat).contains z.2.born).map (·.1)=l:=by
   intro l es hl
   rw[List.filter_eq_self.2 (fun z _=>by simp),List.map_fst_zip (by omega)]
  exact(this hM.1.length).symm
 ·rw[hb]at ok
  obtain⟨h1,h2,es,c,since,seen,en,hI,hM,hold,hrem,_,_⟩:=ok
  exact stepB_law R hd h1 h2 (by rw[hb]; rfl) (by rw[hb]; trivial) (by rw[hb]; exact fun c=>c) (by rw[hb]; exact fun _=>trivial) hI hM hold hI.2.2 hrem hh ty
theorem put_ex (h:H) {id:Nat} (b:B) (hi:id<32768):∃ h',Put h id b h':=by
 obtain⟨nxt,lo,ac,t⟩:=h
 obtain⟨t',_,h2⟩:=p5_set t b hi
 exact⟨⟨nxt,lo,ac,t'⟩,rfl,rfl,rfl,fun j hj=>h2 j hj⟩
theorem zG.same (R:zG w0 e h w) {h':H} (hn:h'.nxt=h.nxt) (hg:∀ j,j<32768→hget h' j=hget h j):zG w0 e h' w:=by
 have g:∀ j,e.dom j→hget h' j=hget h j:=fun j hj=>hg j (R.zY hj)
 refine⟨R.below,by rw[hn]; exact R.top,fun j hj=>by rw[hn]; exact R.lt j hj,fun j hj=>?_,fun j hj hi=>R.low j hj (by rw[g j hj]at hi; exact hi),fun i j hi hj h1 h2 he=>R.inj i j hi hj (by rw[g i hi]at h1; exact h1) (by rw[g j hj]at h2; exact h2) he,fun j hj hl=>?_,fun i j m hi hj h1 h2=>R.uniq i j m hi hj (by rw[g i hi]at h1; exact h1) (by rw[g j hj]at h2; exact h2)⟩
 ·rw[g j hj]
  exact BOk.step hj (.refl e) rfl (fun m _ hm hk=>⟨g m hm,rfl⟩) (R.ok j hj)
 ·rw[hg j hj]; exact R.none j hj (by rw[hn]at hl; exact hl)
theorem stay_cons (x:(AV×AV)×Bool) (l:List ((AV×AV)×Bool)):stay (x::l)=if x.2=true then x.1::stay l else stay l:=by
 obtain⟨p,b⟩:=x
 cases b<;>rfl
theorem stay_law {e:Env} {seen:Array Nat} : ∀ {l:List ((AV×AV)×Bool)} {es:List MapEntry},zN (DnE e) (l.map (·.1)) es→(∀ en∈jy seen (es.zip (l.map (·.2))),seen.contains en.born=true)→zN (DnE e) (stay l) (jy seen (es.zip (l.map (·.2))))
 | [],[],_,_=>trivial
 | [],_::_,h,_=>h.elim
 | _::_,[],h,_=>h.elim
 | x::l,y::es,h,hs=>by
  simp only[List.map_cons,List.zip_cons_cons,kU]at hs⊢
  rw[stay_cons]
  cases hx:x.2 with
  | true=>
   simp only[hx,Bool.true_or,if_true]at hs⊢
   exact⟨h.1,stay_law h.2 fun en hen=>hs en (by simp[hen])⟩
  | false=>
   rw[hx]at hs
   cases hc:seen.contains y.born with
   | true=>
    simp only[hc,Bool.not_true,Bool.or_self,Bool.false_eq_true,if_false]at hs⊢
    exact stay_law h.2 hs
   | false=>
    simp only[hc,Bool.not_false,Bool.or_true,if_true]at hs
    have:=hs y (by simp)
    rw[hc]at this; cases this
theorem leftOf_mem {es:List MapEntry} {seen:Array Nat} {en:MapEntry} : en∈(leftOf ⟨es⟩ seen).toList↔en∈es∧seen.contains en.born=false:=by
 unfold leftOf
 rw[Array.toList_filter,List.mem_filter]
 simp
theorem leftOf_none {es:List MapEntry} {seen:Array Nat} (h:(leftOf ⟨es⟩ seen).size=0):∀ en∈es,seen.contains en.born=true:=fun en hen=>by
 cases hc:seen.contains en.born with
 | true=>rfl
 | false=>
  have hpos:=List.length_pos_of_mem (leftOf_mem.2 ⟨hen,hc⟩)
  rw[Array.length_toList]at hpos
  omega
theorem left_abs {e:Env} {seen:Array Nat} : ∀ {l:List ((AV×AV)×Bool)} {es:List MapEntry},zN (DnE e) (l.map (·.1)) es→∃ lj:List (AV×AV),lj.Sublist (l.map (·.1))∧zN (DnE e) lj (jy seen (es.zip (l.map (·.2))))∧
  ∀ (j:Nat) (p:(AV×AV)×Bool) (en:MapEntry),l[j]? = some p→es[j]? = some en→seen.contains en.born=false→∃ i:Nat,lj[i]? = some p.1
 | [],[],_=>⟨[],.slnil,trivial,fun j p en h=>by simp at h⟩
 | [],_::_,h=>h.elim
 | _::_,[],h=>h.elim
 | x::l,y::es,h=>by
  obtain⟨lj,h1,h2,h3⟩:=left_abs (seen:=seen) (l:=l) (es:=es) h.2
  simp only[List.map_cons,List.zip_cons_cons,kU]
  by_cases c:(x.2 || !seen.contains y.born)=true
  ·rw[if_pos c]
   refine⟨x.1::lj,h1.cons_cons _,⟨h.1,h2⟩,fun j p en hp he hs=>?_⟩
   cases j with
   | zero=>simp at hp; subst hp; exact⟨0,rfl⟩
   | succ j=>
    obtain⟨i,hi⟩:=h3 j p en (by simpa using hp) (by simpa using he) hs
    exact⟨i+1,by simpa using hi⟩
  ·rw[if_neg c]
   refine⟨lj,h1.cons _,h2,fun j p en hp he hs=>?_⟩
   cases j with
   | zero=>
    simp at he; subst he
    rw[hs]at c; simp at c
   | succ j=>exact h3 j p en (by simpa using hp) (by simpa using he) hs
theorem Old.push {es:List MapEntry} {since g:Nat} {seen:Array Nat} (h:Old es since seen g) {j:Nat} {en:MapEntry} (hj:es[j]? = some en) (hs:seen.contains en.born=false):Old es since (seen.push en.born) (g+1):=by
 obtain⟨h1,h2,h3,h4⟩:=h
 have hn:en.born∉seen.toList:=fun k=>by
  have:seen.contains en.born=true:=by simpa using k
  rw[this]at hs; cases hs
 refine⟨h1,?_,fun b hb=>?_,by simp[h4]⟩
 ·rw[Array.toList_push,List.nodup_append]
  exact⟨h2,by simp,fun a ha b hb=>by simp at hb; subst hb; exact fun k=>hn (k▸ha)⟩
 ·rw[Array.toList_push,List.mem_append]at hb
  rcases hb with hb | hb
  ·exact h3 b hb
  ·simp at hb; subst hb; exact List.mem_map_of_mem (List.mem_of_getElem? hj)
theorem next_own (R:zG w0 e h w) {id m q0:Nat} {l:List ((AV×AV)×Bool)} (hd:e.dom id) (hb:hget h id=.o (.j m l q0)) (hw1:h.lo≤id∨h.act id) (hw2:h.lo≤m∨h.act m) {K:AV→H→Ev.R} {z:List (AV×H)}
  (hh:eachJ l (fun i e=>jF h id (.o (.k m e.1.1 e.1.2 l e.2 q0 (Nat.beq q0 (Nat.succ i)))) fun h=>jF h m (.o (.g e.1.1 false l)) fun h=>nxT e.1.1 e.1.2 fun v=>K v h) (Bool.rec (motive:=fun _=>Ev.R) (gd (Nat.ble q0 (len l)) (some [])) (jF h id (.o .z) fun h=>jF h m (.o (.m (stay l))) fun h=>K nxF h) (Nat.beq q0 0)) 0=some z) (ty:TypeId) :
  ∃ q w',(Instr.next (.pointer (some (adr e id 0))) false ty).run Pr w=.ok q w'∧Out w0 e h K q w':=by
 have ok:=R.ok id hd
 rw[hb]at ok
 obtain⟨hm,hbm,es,c,since,seen,⟨hb1,hb2,hb3⟩,hM,hold,hdst,hun⟩:=ok
 have hr:refM (hget h id)=some m:=by rw[hb]; rfl
 have hin:inB (hget h id):=by rw[hb]; trivial
 have hnh:¬ hidK (hget h id):=by rw[hb]; exact fun c=>c
 have hmin:inB (hget h m):=by rw[hbm]; trivial
 have hmi:m≠id:=fun k=>hnh (by rw[←k,hbm]; trivial)
 have hlen:=hM.1.length
 simp only[List.length_map]at hlen
 have hsub:=leftJ_sub (seen:=seen) (es:=es) (ks:=l.map (·.2)) (by simp; omega)
 obtain⟨hJ,z0,hE⟩:=eachJ_law hh
 rcases run_next_at (P:=Pr) w ty (e.blk id) (e.blk m) since c seen ⟨_⟩ c hb2 hb1 (fun en hen=>hold.1 en (hsub.subset hen)) hb3 with ⟨h0,hrun⟩ | ⟨en,hen,w1,hw1,hrun⟩
 ·have hall:=leftOf_none h0
  have hx0:Nat.beq q0 0=true:=by
   cases hb0:Nat.beq q0 0 with
   | true=>rfl
   | false=>
    rw[hb0]at hE
    have hE':gd (Nat.ble q0 (len l)) (some [])=some z0:=hE
    obtain⟨g1,_⟩:=zw hE'
    rw[qU]at g1
    have g2:=Nat.le_of_ble_eq_true g1
    have g3:q0≠0:=fun k=>by rw[k]at hb0; cases hb0
    have hi:q0-1<es.length:=by omega
    have h1:=List.getElem?_eq_getElem hi
    have h2:=hun (q0-1) _ (by omega) h1
    have h3:es[q0-1]∈jy seen (es.zip (l.map (·.2))):=by
     unfold jy
     refine List.mem_map.2 ⟨(es[q0-1],(l.map (·.2))[q0-1]'(by simp; omega)),List.mem_filter.2 ⟨?_,by simp only[h2]; simp⟩,rfl⟩
     refine List.mem_iff_getElem?.2 ⟨q0-1,?_⟩
     rw[List.getElem?_zip_eq_some]
     exact⟨h1,List.getElem?_eq_getElem _⟩
    have h4:=hall _ h3
    rw[h2]at h4; cases h4
  rw[hx0]at hE
  have hE2:(jF h id (.o .z) fun h=>jF h m (.o (.m (stay l))) fun h=>K nxF h)=some z0:=hE
  obtain⟨h1,P1,hk⟩:=jl hE2 (R.zY hd)
  obtain⟨h2,P2,hk⟩:=jl hk (R.zY hm)
  have Ra:zG w0 e h1 w:=R.put P1 hd hin hnh (World.grownBy.refl w _) trivial
  have gm:hget h1 m=.o .h:=by rw[P1.get m (R.zY hm),if_neg hmi]; exact hbm
  have hM2:MOk e (stay l) (jy seen (es.zip (l.map (·.2)))) c:=⟨stay_law hM.1 hall,(List.Sublist.map _ hsub).nodup hM.2.1,fun en hen=>hM.2.2 en (hsub.subset hen)⟩
  exact⟨_,w,hrun,nxF,h2,e,z0,hk,nxF_dn e,R.over hd hr hin hnh P1 P2 hb1 hM2,(R.frPut P1 hd hw1 (by rw[hb]; exact .inl rfl)).trans (Ra.frPut P2 hm (by unfold H.act at hw2⊢; rw[P1.lo,P1.ac]; exact hw2) (by rw[gm]; trivial))⟩
 ·obtain⟨hen1,hen2⟩:=leftOf_mem.1 hen
  obtain⟨j,hj⟩:=List.mem_iff_getElem?.1 (hsub.subset hen1)
  have hjl:j<l.length:=by rw[hlen]; exact(List.getElem?_eq_some_iff.1 hj).1
  have hp:=List.getElem?_eq_getElem hjl
  have hEn:DnE e (l[j]).1 en:=hM.1.at (by rw[List.getElem?_map,hp]; rfl) hj
  obtain⟨z',hk⟩:=hJ j _ hp
  rw[Nat.zero_add]at hk
  obtain⟨h1,P1,hk⟩:=jl hk (R.zY hd)
  obtain⟨h2,P2,hk⟩:=jl hk (R.zY hm)
  obtain⟨x,hx,hk⟩:=nxT_law hk hEn.1 hEn.2
  have Rw:zG w0 e h w1:=by
   rcases hw1 with rfl | rfl
   ·exact R
   ·exact R.world (Below.refl w.heap.size w).drew
  have hlow:=Rw.low id hd hin
  have hneb:e.blk id≠e.blk m:=fun k=>hmi (R.inj m id hm hd hmin hin k.symm)
  have hm1:w1.heap[e.blk m]? = some (.map ⟨jy seen (es.zip (l.map (·.2)))⟩ c):=by rcases hw1 with rfl | rfl<;>exact hb1
  obtain⟨ha,Pa⟩:=put_ex h (.o .z) (R.zY hd)
  have Ra:zG w0 e ha (Go.ChangeMaps.setBlock w1 (e.blk id) (.mapIter (some (e.blk m)) since (seen.push en.born) c)):=Rw.put Pa hd hin hnh grown_set trivial
  have hma:(Go.ChangeMaps.setBlock w1 (e.blk id) (.mapIter (some (e.blk m)) since (seen.push en.born) c)).heap[e.blk m]? = some (.map ⟨jy seen (es.zip (l.map (·.2)))⟩ c):=by rw[set_ne hneb]; exact hm1
  have none_a:∀ j,e.dom j→refM (hget ha j)≠some m:=fun j hj hjr=>by
   rw[Pa.get j (R.zY hj)]at hjr
   by_cases cj:j=id
   ·rw[if_pos cj]at hjr; cases hjr
   ·rw[if_neg cj]at hjr
    exact cj (R.uniq j id m hj hd hjr hr)
  obtain⟨lj,s1,s2,s3⟩:=left_abs (seen:=seen) hM.1
  have hMj:MOk e lj (jy seen (es.zip (l.map (·.2)))) c:=⟨s2,(List.Sublist.map _ hsub).nodup hM.2.1,fun en hen=>hM.2.2 en (hsub.subset hen)⟩
  obtain⟨hc,Pb⟩:=put_ex ha (.o (.g (l[j]).1.1 false l)) (R.zY hm)
  have gma:hget ha m=.o .h:=by rw[Pa.get m (R.zY hm),if_neg hmi]; exact hbm
  have Rb:=Ra.putR Pb hm (by rw[gma]; trivial) (fun j hj _ hjr=>absurd hjr (none_a j hj)) (World.grownBy.refl _ _) ⟨lj,_,c,hma,hMj,dstK_sub s1 hdst,⟨s1,es,hM.1⟩,fun _=>by
   obtain⟨i,hi⟩:=s3 j _ en hp hj hen2
   exact⟨i,_,hi,rfl⟩⟩ (fun m k=>by cases k)
  have hcur:Nat.beq q0 (Nat.succ j)=false→UnS q0 es (seen.push en.born):=fun hf i en' hx he=>by
   have hne:i≠j:=fun k=>by subst k; rw[hx]at hf; simp[Nat.beq_refl]at hf
   have h1:=hun i en' hx he
   have h2:en'.born≠en.born:=fun k=>by
    have hi:=(List.getElem?_eq_some_iff.1 he).1
    have hjj:=(List.getElem?_eq_some_iff.1 hj).1
    have nd:=List.pairwise_iff_getElem.1 hM.2.1
    have e1:(es.map (·.born))[i]'(by simpa using hi)=en.born:=by
     rw[List.getElem_map,(List.getElem?_eq_some_iff.1 he).2]; exact k
    have e2:(es.map (·.born))[j]'(by simpa using hjj)=en.born:=by
     rw[List.getElem_map,(List.getElem?_eq_some_iff.1 hj).2]
    rcases Nat.lt_or_gt_of_ne hne with c | c
    ·exact nd i j (by simpa using hi) (by simpa using hjj) c (e1.trans e2.symm)
    ·exact nd j i (by simpa using hjj) (by simpa using hi) c (e2.trans e1.symm)
   rw[Array.contains_push,h1]
   simp[h2]
  obtain⟨hf,Pc⟩:=put_ex hc (.o (.k m (l[j]).1.1 (l[j]).1.2 l (l[j]).2 q0 (Nat.beq q0 (Nat.succ j)))) (R.zY hd)
  have gid:hget hc id=.o .z:=by rw[Pb.get id (R.zY hd),if_neg (fun k=>hmi k.symm),Pa.get id (R.zY hd),if_pos rfl]
  have none_b:∀ j,e.dom j→refM (hget hc j)≠some m:=fun j hj hjr=>by
   rw[Pb.get j (R.zY hj)]at hjr
   by_cases cj:j=m
   ·rw[if_pos cj]at hjr; cases hjr
   ·rw[if_neg cj]at hjr; exact none_a j hj hjr
  have hnid:∀ j,e.dom j→refM (hget hc j)≠some id:=fun j hj hjr=>by
   have:=(Rb.refs hj hjr).2
   rw[gid]at this; exact this
  have Rc:=Rb.putR Pc hd (by rw[gid]; trivial) (fun j hj _ hjr=>absurd hjr (hnid j hj)) (World.grownBy.refl _ _) ⟨hm,false,l,by rw[Pc.get m (R.zY hm),if_neg hmi,Pb.get m (R.zY hm),if_pos rfl],es,c,since,seen,j,en,hj,hp,⟨by rw[hma]; exact congrArg (fun L=>some (Obj.map ⟨L⟩ c)) (leftJ_step (ks:=l.map (·.2)) hj (by simpa using hjl) hM.2.1 hen2).symm,set_at hlow.2,hb3⟩,hM,hold.push hj hen2,hdst,hcur⟩ (fun m' k j' hj' hne=>by cases k; exact none_b j' hj')
  have top:=R.top
  have g:∀ j,j<32768→j≠id→j≠m→hget h2 j=hget h j:=fun j hj c1 c2=>by rw[P2.get j hj,if_neg c2,P1.get j hj,if_neg c1]
  refine⟨_,_,hrun,x,h2,e,z',hk,hx,Rc.same (by rw[P2.nxt,P1.nxt,Pc.nxt,Pb.nxt,Pa.nxt]) (fun j hj=>?_),⟨.refl e,by rw[P2.nxt,P1.nxt]; exact Nat.le_refl _,Nat.le_of_eq (by rw[P2.lo,P1.lo]),by rw[P2.ac,P1.ac],fun j hj=>.inl hj,fun j hj hnd=>?_,fun j hn hl hrw=>?_,fun j hn=>?_⟩⟩
  ·rw[P2.get j hj,P1.get j hj,Pc.get j hj,Pb.get j hj,Pa.get j hj]
   by_cases c1:j=id
   ·have c2:j≠m:=fun k=>hmi (by rw[←k,c1])
    rw[if_neg c2,if_pos c1,if_pos c1]
   ·by_cases c2:j=m
    ·rw[if_pos c2,if_neg c1,if_pos c2]
    ·rw[if_neg c2,if_neg c1,if_neg c1,if_neg c2,if_neg c1]
  ·exact g j (by omega) (fun k=>hnd (by rw[k]; exact hd)) (fun k=>hnd (by rw[k]; exact hm))
  ·have l2:h2.lo=h.lo:=by rw[P2.lo,P1.lo]
   exact g j (by omega) (fun k=>by subst k; exact hrw (hw1.resolve_left (by omega))) (fun k=>by subst k; exact hrw (hw2.resolve_left (by omega)))
  ·by_cases c1:j=id
   ·subst c1
    rw[hb,P2.get j (by omega),if_neg (fun k=>hmi k.symm),P1.get j (by omega),if_pos rfl]
    exact .inr (.inr ⟨_,_,_,_,rfl⟩)
   ·by_cases c2:j=m
    ·rw[c2,hbm]; trivial
    ·rw[g j (by omega) c1 c2]; exact .refl _
end
end Go.Ev
end
section
set_option linter.unusedVariables false
set_option linter.unusedSimpArgs false
set_option linter.constructorNameAsVariable false
namespace Go.Ev
open Go.Lw Go.RowKit
def nxW (r:Result Next) (P:Value→World→Prop):Prop:=match r with
 | .ok (.value v) w'=>P v w'
 | .ok .skip w'=>P undef w'
 | .ok (.enter f args) w'=>Calls Pr f args w' fun e w''=>∃ v,e=.returned v∧P v w''
 | .ok (.round l f tmps assign body) w'=>RoundIn (FW none) 0 Pr l f tmps assign body w' fun e w''=>∃ v,e=.returned v∧P v w''
 | _=>False
theorem nxW_op {o:Oper} {a:Act} {w:World} {P:Value→World→Prop} (h:nxW ((execOp a.eval o).run Pr w) P):opW Pr o a w fun a' w'=>∃ v,a'=a.put o.dst v∧P v w':=by
 unfold nxW at h
 unfold opW
 generalize (execOp a.eval o).run Pr w=r at *
 cases r with
 | ok x w'=>
  cases x<;>simp only at h⊢<;>first
   | exact⟨_,rfl,h⟩
   | exact Calls.mono h (fun e w'' he=>by obtain⟨v,rfl,hv⟩:=he; exact⟨v,rfl,hv⟩)
   | exact RoundIn.mono h (fun e w'' he=>by obtain⟨v,rfl,hv⟩:=he; exact⟨v,rfl,hv⟩)
   | exact h.elim
 | halt x w'=>exact h.elim
theorem nx_v {r:Result Next} {q:Value} {w':World} {P:Value→World→Prop} (h:r=.ok (.value q) w') (hp:P q w'):nxW r P:=by subst h; exact hp
theorem nx_u {r:Result Next} {w':World} {P:Value→World→Prop} (h:r=.ok .skip w') (hp:P undef w'):nxW r P:=by subst h; exact hp
section
variable {w0:World} {ih:IH} {e:Env} {h:H} {w:World}
theorem OutU.out {K:KV} {w':World} (h1:OutU w0 e h (fun h=>K .n h) w'):Out w0 e h K undef w':=by
 obtain⟨h',e',z',a,b,c⟩:=h1
 exact⟨.n,h',e',z',a,rfl,b,c⟩
theorem OutU.outT {K:KV} {w':World} (h1:OutU w0 e h (fun h=>K (.t []) h) w'):Out w0 e h K (.tuple #[]) w':=by
 obtain⟨h',e',z',a,b,c⟩:=h1
 exact⟨.t [],h',e',z',a,⟨[],rfl,trivial⟩,b,c⟩
theorem next_law (R:zG w0 e h w) {x:AV} {u:Value} {K:KV} {z:List (AV×H)} (hh:nextE x h K=some z) (hx:Dn e x u) (ty:TypeId):∃ q w',(Instr.next u false ty).run Pr w=.ok q w'∧Out w0 e h K q w':=by
 obtain⟨id,off,rfl,hh⟩:=jP hh
 obtain⟨g1,hh⟩:=zw hh
 have:=Nat.eq_of_beq_eq_true g1; subst this
 obtain⟨b,hb,hh⟩:=jg hh
 obtain⟨hd,rfl⟩:=hx
 have ok:=R.ok id hd
 rw[hb]at ok
 cases b with
 | i m l=>exact next_any R hd (m:=m) (l:=l) ty (.inl ⟨hb,hh⟩)
 | b m l rem=>exact ok.elim
 | c m k v l rem=>exact next_any R hd (m:=m) (l:=l) ty (.inr ⟨k,v,rem,hb,hh⟩)
 | j m l x=>
  obtain⟨g2,hh⟩:=zw hh
  simp only[Bool.and_eq_true]at g2
  exact next_own R hd hb (okW_law g2.1) (okW_law g2.2) hh ty
 | q m k v=>exact ok.elim
 | _=>cases hh
def FnOk (w0:World) (ih:IH):Prop:=∀ {f:FuncId} {e:Env} {h:H} {K:KV} {z:List (AV×H)} {args:List AV} {us:List Value} {w:World},(fncE f).g ih args h K=some z→zN (Dn e) args us→zG w0 e h w→
 zy Pr f∧Calls Pr f ⟨us⟩ w fun en w'=>∃ v,en=.returned v∧Out w0 e h K v w'
def YdOk (w0:World) (ih:IH):Prop:=∀ {id:Nat} {e:Env} {h:H} {K:KV} {z:List (AV×H)} {args:List AV} {us:List Value} {w:World} {ps:List Nat} {a b:Code} {t:L3},hget h id=.o (.l ps a b t)→rndE ps a b t ih id args h K=some z→e.dom id→zN (Dn e) args us→zG w0 e h w→
 ∃ f tmps assign body,(Instr.yield (e.blk id) ⟨us⟩).run Pr w=.ok (.round (e.blk id) f tmps assign body) w∧RoundIn (FW none) 0 Pr (e.blk id) f tmps assign body w fun en w'=>∃ v,en=.returned v∧Out w0 e h K v w'
theorem call_nx {f:FuncId} {us:List Value} {fs cs:Array Value} {w:World} {P:Value→World→Prop} (h1:zy Pr f) (h2:Calls Pr f (fs++⟨us⟩++cs) w fun en w'=>∃ v,en=.returned v∧P v w') :
  nxW ((do let d ←Deferred.ofValue (.func (.func f) fs cs) ⟨us⟩; invoke d.target d.args:Sem Next).run Pr w) P:=by
 simp only[Deferred.ofValue,Sem.run_bind,Sem.run_pure,Result.andThen_ok,invoke]
 rw[h1]
 exact h2
theorem cv_law (FO:FnOk w0 ih) (R:zG w0 e h w) {v:Value} {args:List AV} {us:List Value} {K:KV} {z:List (AV×H)} (hh:cvE v ih args h K=some z) (ha:zN (Dn e) args us) :
  nxW ((do let d ←Deferred.ofValue v ⟨us⟩; invoke d.target d.args:Sem Next).run Pr w) (Out w0 e h K):=by
 unfold cvE at hh
 split at hh
 ·rename_i f fs cs
  obtain⟨g1,hh⟩:=zw hh
  have g2:=Nat.eq_of_beq_eq_true g1
  obtain rfl:fs=#[]:=Array.eq_empty_of_size_eq_zero (by omega)
  obtain rfl:cs=#[]:=Array.eq_empty_of_size_eq_zero (by omega)
  obtain⟨h1,h2⟩:=FO hh ha R
  exact call_nx h1 (by simpa using h2)
 ·cases hh
theorem callV_law (FO:FnOk w0 ih) (YO:YdOk w0 ih) (R:zG w0 e h w) {x:AV} {v:Value} {args:List AV} {us:List Value} {K:KV} {z:List (AV×H)} (hh:callV x ih args h K=some z) (hx:Dn e x v) (ha:zN (Dn e) args us) :
  nxW ((do let d ←Deferred.ofValue v ⟨us⟩; invoke d.target d.args:Sem Next).run Pr w) (Out w0 e h K):=by
 obtain⟨x,rfl,hh⟩:=qL hh
 have hx':DnO e x v:=hx
 cases x with
 | f id=>
  obtain⟨b,hb,hh⟩:=jg (K:=fun b=>(match b with | .f f fs cs=>(fncE f).g ih (app fs (app args cs)) h K | _=>none)) hh
  obtain⟨hd,rfl,_⟩:=hx'
  have ok:=R.ok id hd
  rw[hb]at ok
  cases b with
  | f fn fs cs=>
   obtain⟨us1,us2,k1,k2,k3⟩:=ok
   rw[k1]
   simp only[ko]at hh
   obtain⟨h1,h2⟩:=FO hh (k2.append (ha.append k3)) R
   exact call_nx h1 (by simpa using h2)
  | _=>cases hh
 | y id=>
  obtain⟨b,hb,hh⟩:=jg (K:=fun b=>(match b with | .l ps a b t=>rndE ps a b t ih id args h K | _=>none)) hh
  obtain⟨hd,rfl⟩:=hx'
  cases b with
  | l ps a b t=>
   obtain⟨f,tmps,assign,body,h1,h2⟩:=YO hb hh hd ha R
   simp only[Deferred.ofValue,Sem.run_bind,Sem.run_pure,Result.andThen_ok,invoke,Array.empty_append]
   rw[h1]
   exact h2
  | _=>cases hh
 | c u=>
  obtain⟨rfl,_⟩:=hx'
  exact cv_law FO R hh ha
 | _=>cases hh
theorem blt_w {b:Builtin} {ts:List TypeId} {l:List Operand} {g:IH→L3→H→KV→Ev.R} (hk:bltE b ts l=.w g) {τ:L3} {K:KV} {z:List (AV×H)} (hg:g ih τ h K=some z) (R:zG w0 e h w) {us:List Value} (hl:zN (Dn e) (l.map fun o=>(evO o).v τ) us) (ty:TypeId) (cs:Array Bool) :
  nxW ((builtin b ⟨ts⟩ ty cs ⟨us⟩).run Pr w) (Out w0 e h K):=by
 cases b with
 | append=>
  cases ts with
  | nil=>cases(show OK.z=.w g from hk)
  | cons X ts=>
   cases ts with
   | nil=>cases(show OK.z=.w g from hk)
   | cons Y ts=>
    cases(show OK.w (fun _ τ h K=>evL l τ fun us=>args2 us fun x y=>(apdE X Y).g x y h K)=.w g from hk)
    obtain⟨x,y,hxy,h'⟩:=args2_law (jr (K:=fun us=>args2 us fun x y=>(apdE X Y).g x y h K) hg)
    rw[hxy]at hl
    match us,hl with
    | [u,v],hl=>
     obtain⟨q,w',h1,h2⟩:=apd_law R h' hl.1 hl.2.1 ts ty
     exact nx_v (jS h1) h2
    | [],hl=>exact hl.elim
    | [_],hl=>exact hl.2.elim
    | _::_::_::_,hl=>exact hl.2.2.elim
 | copy=>
  cases ts with
  | nil=>cases(show OK.z=.w g from hk)
  | cons X ts=>
   cases(show OK.w (fun _ τ h K=>evL l τ fun us=>args2 us fun x y=>copyE X x y h K)=.w g from hk)
   obtain⟨x,y,hxy,h'⟩:=args2_law (jr (K:=fun us=>args2 us fun x y=>copyE X x y h K) hg)
   rw[hxy]at hl
   match us,hl with
   | [u,v],hl=>
    obtain⟨q,w',h1,h2⟩:=copy_law R h' hl.1 hl.2.1 ts ty
    exact nx_v (jS h1) h2
   | [],hl=>exact hl.elim
   | [_],hl=>exact hl.2.elim
   | _::_::_::_,hl=>exact hl.2.2.elim
 | clear=>
  cases ts with
  | nil=>cases(show OK.z=.w g from hk)
  | cons X ts=>
   cases(show OK.w (fun _ τ h K=>evL l τ fun us=>ku us fun x=>asO x fun x=>clO x X h K)=.w g from hk)
   obtain⟨x,hxy,h'⟩:=kr (jr (K:=fun us=>ku us fun x=>asO x fun x=>clO x X h K) hg)
   rw[hxy]at hl
   match us,hl with
   | [u],hl=>
    obtain⟨q,w',h1,h2⟩:=clear_law R h' hl.1 ts ty
    exact nx_v (jS h1) h2
   | [],hl=>exact hl.elim
   | _::_::_,hl=>exact hl.2.elim
 | delete=>
  cases ts with
  | nil=>cases(show OK.z=.w g from hk)
  | cons X ts=>
   cases(show OK.w (fun _ τ h K=>evL l τ fun us=>args2 us fun x y=>delE X x y h fun h=>K (.t []) h)=.w g from hk)
   obtain⟨x,y,hxy,h'⟩:=args2_law (jr (K:=fun us=>args2 us fun x y=>delE X x y h fun h=>K (.t []) h) hg)
   rw[hxy]at hl
   match us,hl with
   | [u,v],hl=>
    obtain⟨w',h1,h2⟩:=del_law R h' hl.1 hl.2.1 ts ty
    exact nx_v (jS h1) h2.outT
   | [],hl=>exact hl.elim
   | [_],hl=>exact hl.2.elim
   | _::_::_::_,hl=>exact hl.2.2.elim
 | len=>
  cases ts with
  | nil=>cases(show OK.z=.w g from hk)
  | cons T ts=>
   have hk':lenK T l=.w g:=hk
   unfold lenK at hk'
   split at hk'<;>cases hk'
 | cap=>
  cases ts with
  | nil=>cases(show OK.z=.w g from hk)
  | cons T ts=>
   have hk':(bif sliceT T then OK.p (fun τ=>evL l τ fun us=>ku us fun x=>asO x fun x=>cpO x)else .z)=.w g:=hk
   cases hT:sliceT T<;>rw[hT]at hk'<;>cases hk'
 | _=>cases(show(_:OK)=.w g from hk)
end
end Go.Ev
end
section
set_option linter.unusedVariables false
set_option linter.unusedSimpArgs false
set_option linter.constructorNameAsVariable false
namespace Go.Ev
open Go.Lw Go.RowKit
theorem w_ok {w0:World} {ih:IH} (FO:FnOk w0 ih) (YO:YdOk w0 ih):WOk w0 ih:=by
 intro O g hk e τ h K z a w hh ho R
 apply nxW_op
 obtain⟨dst,op,ty,pos,after,guard⟩:=O
 have hk:opK op=.w g:=hk
 have ho:Ops e τ a op:=ho
 cases op with
 | assign y=>
  cases(show OK.w (fun _ τ h K=>frc ((evO y).v τ) fun v=>K v h)=.w g from hk)
  have hh':frc ((evO y).v τ) (fun v=>K v h)=some z:=hh
  rw[xy]at hh'
  exact nx_v (q:=a.eval y) (w':=w) rfl ⟨_,h,e,z,hh',ho y (by simp[Op.operands]),R,.refl e h⟩
 | insert X m k v=>
  cases(show OK.w (fun _ τ h K=>frc ((evO k).v τ) fun k=>frc ((evO v).v τ) fun v=>updE X ((evO m).v τ) k v h fun h=>K .n h)=.w g from hk)
  have hh':frc ((evO k).v τ) (fun k=>frc ((evO v).v τ) fun v=>updE X ((evO m).v τ) k v h fun h=>K .n h)=some z:=hh
  rw[xy,xy]at hh'
  obtain⟨w',h1,h2⟩:=upd_law R hh' (ho m (by simp[Op.operands])) (ho k (by simp[Op.operands])) (ho v (by simp[Op.operands]))
  exact nx_u (run_u h1) h2.out
 | mapUpdate X m k v=>
  cases(show OK.w (fun _ τ h K=>frc ((evO k).v τ) fun k=>frc ((evO v).v τ) fun v=>updE X ((evO m).v τ) k v h fun h=>K .n h)=.w g from hk)
  have hh':frc ((evO k).v τ) (fun k=>frc ((evO v).v τ) fun v=>updE X ((evO m).v τ) k v h fun h=>K .n h)=some z:=hh
  rw[xy,xy]at hh'
  obtain⟨w',h1,h2⟩:=upd_law R hh' (ho m (by simp[Op.operands])) (ho k (by simp[Op.operands])) (ho v (by simp[Op.operands]))
  exact nx_u (run_u h1) h2.out
 | store T x y=>
  cases(show OK.w (fun _ τ h K=>(storeE T).g ((evO x).v τ) ((evO y).v τ) h fun h=>K .n h)=.w g from hk)
  obtain⟨w',h1,h2⟩:=store_law (K:=fun h=>K .n h) R hh (ho x (by simp[Op.operands])) (ho y (by simp[Op.operands]))
  exact nx_u (run_u h1) h2.out
 | range X x=>
  cases(show OK.w (fun _ τ h K=>gd (isMp X) (rangeE ((evO x).v τ) h K))=.w g from hk)
  obtain⟨q,w',h1,h2⟩:=range_law R hh (ho x (by simp[Op.operands]))
  exact nx_v (jS h1) h2
 | next x s=>
  cases s with
  | true=>cases(show OK.z=.w g from hk)
  | false=>
   cases(show OK.w (fun _ τ h K=>nextE ((evO x).v τ) h K)=.w g from hk)
   obtain⟨q,w',h1,h2⟩:=next_law R hh (ho x (by simp[Op.operands])) ty
   exact nx_v (jS h1) h2
 | call c=>
  obtain⟨cal,⟨l⟩,⟨ts⟩⟩:=c
  have hk':calE cal ts l=.w g:=hk
  have hl:zN (Dn e) (l.map fun o=>(evO o).v τ) (l.map a.eval):=evL_all fun o h=>ho o (by simp[Op.operands,Call.operands,h])
  have e1:((⟨l⟩:Array Operand).map a.eval)=⟨l.map a.eval⟩:=by apply Array.ext'; simp
  cases cal with
  | builtin b=>
   have:=blt_w (ih:=ih) (h:=h) (w:=w) (w0:=w0) (show bltE b ts l=.w g from hk') hh R hl ty ((⟨l⟩:Array Operand).map fun | .const _=>true | _=>false)
   simp only[execOp,resolve,invoke,Sem.run_bind,Sem.run_pure,Result.andThen_ok]
   rw[e1]; exact this
  | invoke r nm=>cases(show OK.z=.w g from hk')
  | value f=>
   have key:nxW ((do let d ←Deferred.ofValue (a.eval f) ⟨l.map a.eval⟩; invoke d.target d.args:Sem Next).run Pr w) (Out w0 e h K):=by
    cases f with
    | tmp t=>
     cases(show OK.w (fun ih τ h K=>evL l τ fun args=>callV ((q3 t).g τ) ih args h K)=.w g from hk')
     exact callV_law FO YO R (jr (K:=fun args=>callV ((q3 t).g τ) ih args h K) hh) (ho (.tmp t) (by simp[Op.operands,Call.operands])) hl
    | const v=>
     cases(show OK.w (fun ih τ h K=>evL l τ fun args=>cvE v ih args h K)=.w g from hk')
     exact cv_law FO R (jr (K:=fun args=>cvE v ih args h K) hh) hl
    | func f=>
     cases(show OK.w (fun ih τ h K=>evL l τ fun args=>(fncE f).g ih args h K)=.w g from hk')
     obtain⟨h1,h2⟩:=FO (jr (K:=fun args=>(fncE f).g ih args h K) hh) hl R
     exact call_nx (fs:=#[]) (cs:=#[]) h1 (by simpa using h2)
    | global g'=>cases(show OK.z=.w g from hk')
   simp only[execOp,resolve]
   rw[e1]; exact key
 | makeFunc fn fs cs=>
  have hk':mkfE fn fs.toList cs.toList=.w g:=hk
  unfold mkfE at hk'
  split at hk'<;>cases hk'
 | makeMap T r=>cases r<;>cases(show(_:OK)=.w g from hk)
 | _=>cases(show(_:OK)=.w g from hk)
/-! ### Code -/
theorem prMO:Pr.follows .mixedOrders=true:=by unfold Pr; kernel_rfl
def Dfs (N:Nat) (e:Env) (h:H) (ds:List Deferred):Prop:=N≤h.nxt∧∃ ids:List Nat,ds=ids.map (fun i=>mkD (e.blk i))∧ids.Nodup∧∀ i∈ids,N≤i∧e.dom i∧hget h i=.o .t∧e.gh i=0
def RoOk (e:Env) (h:H) (ro:Option Nat):Prop:=∀ l,ro=some l→∃ id bz ps a b t,e.dom id∧e.blk id=l∧hget h id=.o (.v bz ps a b t)
def exE (x:Ex):Exit:=match x with
 | .n=>.normal
 | .x i=>.exit i
 | .r=>.ret
def OutC (w0:World) (n N:Nat) (e:Env) (h:H) (τ:L3) (ws:List Nat) (ds:List Deferred) (K:KC) (ex:Exit) (a':Act) (w':World):Prop:=
 ∃ x e' τ' h' z',ex=exE x∧K x τ' h'=some z'∧jc e' n noZ τ' a'.tmps∧zG w0 e' h' w'∧Fr e h e' h'∧Dfs N e' h' a'.defers∧(1000∉ws→a'.defers=ds)∧∀ t,t<512→t∉ws→(q3 t).g τ'=(q3 t).g τ
def CS (w0:World) (ro:Option Nat) (n N:Nat) (g:L3→H→KC→R) (ws:List Nat) (c:Code):Prop:=∀ {e:Env} {τ:L3} {h:H} {K:KC} {z:List (AV×H)} {a:Act} {w:World} {Q:Exit→Act→World→Prop},
 g τ h K=some z→jc e n noZ τ a.tmps→zG w0 e h w→Dfs N e h a.defers→RoOk e h ro→(∀ ex a' w',OutC w0 n N e h τ ws a.defers K ex a' w'→Q ex a' w')→c.wpIn (FW ro) 0 Pr Q a w
section
variable {w0:World} {e e':Env} {h h':H} {w:World} {n N:Nat} {ro:Option Nat}
theorem Dfs.keep {ds:List Deferred} (D:Dfs N e h ds) (F:Fr e h e' h') (R:zG w0 e h w):Dfs N e' h' ds:=by
 obtain⟨h0,ids,h1,h2,h3⟩:=D
 refine⟨Nat.le_trans h0 F.nxt,ids,?_,h2,fun i hi=>?_⟩
 ·rw[h1]
  refine List.map_congr_left fun i hi=>?_
  rw[F.ext.blk i (h3 i hi).2.1]
 ·obtain⟨k1,k2,k3,k4⟩:=h3 i hi
  exact⟨k1,F.ext.dom i k2,by rw[F.mark i (R.lt i k2) (by rw[k3]; trivial)]; exact k3,by rw[F.ext.gh i k2]; exact k4⟩
theorem RoOk.keep (D:RoOk e h ro) (F:Fr e h e' h') (R:zG w0 e h w):RoOk e' h' ro:=fun l hl=>by
 obtain⟨id,bz,ps,a,b,t,h1,h2,h3⟩:=D l hl
 exact⟨id,bz,ps,a,b,t,F.ext.dom _ h1,(F.ext.blk _ h1).trans h2,by rw[F.mark id (R.lt id h1) (by rw[h3]; trivial)]; exact h3⟩
theorem OutC.trans {τ τ':L3} {ws ws':List Nat} {ds ds':List Deferred} {K:KC} {ex:Exit} {a':Act} {w':World} (F:Fr e h e' h') (hs:∀ t,t<512→t∉ws→(q3 t).g τ'=(q3 t).g τ) (hw:∀ t,t∈ws'→t∈ws) (hds:1000∉ws→ds'=ds) (o:OutC w0 n N e' h' τ' ws' ds' K ex a' w'):OutC w0 n N e h τ ws ds K ex a' w':=by
 obtain⟨x,e2,τ2,h2,z2,j1,j2,j3,j4,j5,j6,j8,j7⟩:=o
 exact⟨x,e2,τ2,h2,z2,j1,j2,j3,j4,F.trans j5,j6,fun hn=>(j8 fun k=>hn (hw _ k)).trans (hds hn),fun t ht hn=>(j7 t ht fun k=>hn (hw t k)).trans (hs t ht hn)⟩
theorem OutR.outC {τ:L3} {ds:List Deferred} {ws:Nat→Prop} {wl:List Nat} {K:KC} {a':Act} {w':World} (o:OutR w0 n e h τ ds ws (fun τ h=>K .n τ h) a' w') (hw:∀ t,ws t→t∈wl) (D:Dfs N e h ds) (R:zG w0 e h w):OutC w0 n N e h τ wl ds K .normal a' w':=by
 obtain⟨e',τ',h',z',j1,j2,j3,j4,j5,j6⟩:=o
 exact⟨.n,e',τ',h',z',rfl,j1,j2,j3,j4,by rw[j5]; exact D.keep j4 R,fun _=>j5,fun t ht hn=>j6 t ht fun k=>hn (hw t k)⟩
theorem ordE_len {l:List Rw} : ∀ (n m:Nat),(ordE l n m).length≤n
 | 0,m=>Nat.le_refl _
 | n+1,m=>by
  unfold ordE
  cases pick1 l m with
  | some r=>simpa using ordE_len n _
  | none=>
   cases pick2 l m with
   | some r=>simpa using ordE_len n _
   | none=>simp
theorem wro_cons (x:Oper) (l:List Oper):wro (x::l)=Option.rec (motive:=fun _=>List Nat) (wro l) (fun d=>d::wro l) x.dst:=rfl
theorem wro_mem {o:Oper} {t:Nat} (l:List Oper) (ho:o∈l) (hd:o.dst=some t):t∈wro l:=by
 induction l with
 | nil=>cases ho
 | cons x l ih=>
  rw[wro_cons]
  rcases List.mem_cons.1 ho with h1 | h1
  ·rw[←h1,hd]; simp
  ·have:=ih h1
   cases x.dst with
   | none=>exact this
   | some d=>exact List.mem_cons_of_mem _ this
theorem okC_nd {n:Nat} {ops:Array Oper} (hok:∀ o∈ops.toList,okP n ops o=true):Ndr ops=true:=
 Array.all_eq_true_iff_forall_mem.2 fun o ho=>(xq (hok o (by simpa using ho))).2.2
theorem region_law {ih:IH} (W:WOk w0 ih) {id:Nat} {ops:Array Oper} {dr:Bool} (hok:∀ o∈ops.toList,okP n ops o=true):CS w0 ro n N (fun τ h K=>(regE ops dr).g ih τ h fun τ h=>K .n τ h) (wro ops.toList) (.region id ops dr):=by
 intro e τ h K z a w Q hh F R D Ro hQ
 cases dr with
 | false=>
  refine wpIn_region ?_
  rw[List.range_eq_range']
  have:=text_law (ro:=ro) (Q:=Q) W hok (K:=fun τ h=>K .n τ h) ops.toList 0 (τ:=τ) (h:=h) (z:=z) (e:=e) (a:=a) (w:=w) (fun j o hj=>by simpa using hj) hh F R fun a' w' o=>hQ _ _ _ (o.outC (fun t ht=>ht) D R)
  simpa using this
 | true=>
  have hh':(Bool.rec (motive:=fun _=>Re) (.mk fun _ _ _ _=>none) (runP ops.toList (planE ops) []) (((List.range ops.size).all fun i=>(planE ops).any fun r=>Nat.beq r.i i) && okPlan (planE ops) 0):Re).g ih τ h (fun τ h=>K .n τ h)=some z:=hh
  cases hc:(((List.range ops.size).all fun i=>(planE ops).any fun r=>Nat.beq r.i i) && okPlan (planE ops) 0)with
  | false=>rw[hc]at hh'; cases hh'
  | true=>
   rw[hc]at hh'
   simp only[Bool.and_eq_true]at hc
   have rowOk:=plan_ok ops
   obtain⟨p1,p2,p3,p4⟩:=okPlan_law rowOk hc.2
   have P:ky ops n (planE ops):=⟨rowOk,fun i hi=>by
    have:=List.all_eq_true.1 hc.1 i (List.mem_range.2 hi)
    obtain⟨r,hr,hri⟩:=List.any_eq_true.1 this
    exact⟨r,hr,Nat.eq_of_beq_eq_true hri⟩,p1,p2,p3,fun pre post r he j hj=>by
    rcases p4 pre post r he j hj with k | k
    ·simp at k
    ·exact k,hok⟩
   have R':zG w0 e h w.drew:=R.world (Below.refl w.heap.size w).drew
   refine wpIn_region_any prMO (anyW_sound (okC_nd hok) _ _ _ _ ?_)
   refine RS.any (w0:=w0) (ih:=ih) (K:=fun τ h=>K .n τ h) (e0:=e) (h0:=h) (τ0:=τ) (ds:=a.defers) (Qn:=Q .normal) P W (fun a' w' o=>hQ _ _ _ (o.outC (fun t ht=>?_) D R)) ops.size (pre:=[]) (rest:=planE ops) (Z:=[]) (listed:=Array.replicate ops.size false) (e:=e) (τ:=τ) (h:=h) (z:=z) (a:=a) (w:=w.drew) ?_ ?_
   ·obtain⟨r,hr,hd⟩:=ht
    exact wro_mem _ (Array.mem_toList_iff.2 (Array.mem_of_getElem? (rowOk r hr).at_)) hd
   ·refine⟨rfl,fun r hr=>(by cases hr),fun r hr=>?_,by simp,fun j o hj=>?_,hh',⟨F.1,F.2.1,fun t v hv _=>F.2.2 t v hv (fun k=>k)⟩,R',.refl e h,rfl,fun _ _ _=>rfl,fun _=>0,fun r hr=>(by cases hr),fun r hr=>(by cases hr)⟩
    ·constructor
     ·intro k
      simp[Array.getElem?_replicate]at k
      split at k<;>simp at k
     ·rintro⟨k,_⟩; cases k
    ·simp[Array.getElem?_replicate]at hj
     split at hj<;>simp at hj
   ·unfold unlN
    exact Nat.le_trans (List.length_filter_le _ _) (ordE_len _ _)
end
end Go.Ev
end
section
set_option linter.unusedVariables false
set_option linter.unusedSimpArgs false
set_option linter.constructorNameAsVariable false
namespace Go.Ev
open Go.Lw Go.RowKit
section
variable {w0:World} {ih:IH} {ro:Option Nat} {n N:Nat} {ga gb:L3→H→KC→Ev.R} {wa wb:List Nat} {c d:Code}
theorem skip_law:CS w0 ro n N (fun τ h K=>K .n τ h) [] .skip:=fun {e τ h K z a w Q} hh F R D Ro hQ=>wpIn_skip (hQ _ _ _ ⟨.n,e,τ,h,z,rfl,hh,F,R,.refl e h,D,fun _=>rfl,fun _ _ _=>rfl⟩)
theorem label_law {l:Nat} : CS w0 ro n N (fun τ h K=>K .n τ h) [] (.label l):=fun {e τ h K z a w Q} hh F R D Ro hQ=>wpIn_label (hQ _ _ _ ⟨.n,e,τ,h,z,rfl,hh,F,R,.refl e h,D,fun _=>rfl,fun _ _ _=>rfl⟩)
theorem exit_law {id:Nat} : CS w0 ro n N (fun τ h K=>K (.x id) τ h) [] (.exit id):=fun {e τ h K z a w Q} hh F R D Ro hQ=>wpIn_exit (hQ _ _ _ ⟨.x id,e,τ,h,z,rfl,hh,F,R,.refl e h,D,fun _=>rfl,fun _ _ _=>rfl⟩)
theorem ret_law:CS w0 ro n N (fun τ h K=>K .r τ h) [] .ret:=fun {e τ h K z a w Q} hh F R D Ro hQ=>wpIn_ret (hQ _ _ _ ⟨.r,e,τ,h,z,rfl,hh,F,R,.refl e h,D,fun _=>rfl,fun _ _ _=>rfl⟩)
theorem seq_law (ha:CS w0 ro n N ga wa c) (hb:CS w0 ro n N gb wb d):CS w0 ro n N (fun τ h K=>ga τ h fun ex τ h=>Ex.rec (motive:=fun _=>Ev.R) (gb τ h K) (fun id=>K (.x id) τ h) (K .r τ h) ex) (app wa wb) (.seq c d):=fun {e τ h K z a w Q} hh F R D Ro hQ=>by
 have hs:∀ t,t∉app wa wb→t∉wa∧t∉wb:=fun t ht=>by rw[ko]at ht; simpa using ht
 refine wpIn_seq (ha hh F R D Ro fun ex a' w' o=>?_)
 obtain⟨x,e',τ',h',z',rfl,hk,F',R',Fr',D',ad,ag⟩:=o
 have ag':∀ t,t<512→t∉app wa wb→(q3 t).g τ'=(q3 t).g τ:=fun t ht hn=>ag t ht (hs t hn).1
 have ad':1000∉app wa wb→a'.defers=a.defers:=fun hn=>ad (hs _ hn).1
 cases x with
 | n=>exact hb hk F' R' D' (Ro.keep Fr' R) fun ex a2 w2 o2=>hQ _ _ _ (o2.trans Fr' ag' (fun t ht=>by rw[ko]; simp[ht]) ad')
 | x id=>exact hQ _ _ _ ⟨.x id,e',τ',h',z',rfl,hk,F',R',Fr',D',ad',ag'⟩
 | r=>exact hQ _ _ _ ⟨.r,e',τ',h',z',rfl,hk,F',R',Fr',D',ad',ag'⟩
theorem cond_law {y:Operand} (hy:okO n y=true) (ha:CS w0 ro n N ga wa c) (hb:CS w0 ro n N gb wb d):CS w0 ro n N (fun τ h K=>asB ((evO y).v τ) fun b=>Bool.rec (motive:=fun _=>Ev.R) (gb τ h K) (ga τ h K) b) (app wa wb) (.cond y c d):=fun {e τ h K z a w Q} hh F R D Ro hQ=>by
 obtain⟨b,hb1,hh⟩:=asB_law hh
 have hv:=evO_law F hy (fun t _ k=>k)
 rw[hb1]at hv
 have hv':a.eval y=.bool b:=hv
 cases b with
 | true=>exact wpIn_cond_true hv' (ha hh F R D Ro fun ex a2 w2 o2=>hQ _ _ _ (o2.trans (.refl e h) (fun _ _ _=>rfl) (fun t ht=>by rw[ko]; simp[ht]) fun _=>rfl))
 | false=>exact wpIn_cond_false hv' (hb hh F R D Ro fun ex a2 w2 o2=>hQ _ _ _ (o2.trans (.refl e h) (fun _ _ _=>rfl) (fun t ht=>by rw[ko]; simp[ht]) fun _=>rfl))
theorem block_law {id:Nat} (ha:CS w0 ro n N ga wa c):CS w0 ro n N (fun τ h K=>ga τ h fun ex τ h=>Ex.rec (motive:=fun _=>Ev.R) (K .n τ h) (fun i=>Bool.rec (motive:=fun _=>Ev.R) (K (.x i) τ h) (K .n τ h) (Nat.beq i id)) (K .r τ h) ex) wa (.block id c):=fun {e τ h K z a w Q} hh F R D Ro hQ=>by
 refine wpIn_block (ha hh F R D Ro fun ex a' w' o=>?_)
 obtain⟨x,e',τ',h',z',rfl,hk,F',R',Fr',D',ad,ag⟩:=o
 cases x with
 | n=>exact hQ _ _ _ ⟨.n,e',τ',h',z',rfl,hk,F',R',Fr',D',ad,ag⟩
 | x i=>
  show(if i=id then Q .normal a' w' else Q (.exit i) a' w')
  have hk':(Bool.rec (motive:=fun _=>Ev.R) (K (.x i) τ' h') (K .n τ' h') (Nat.beq i id):Ev.R)=some z':=hk
  by_cases ci:i=id
  ·rw[if_pos ci]
   rw[show Nat.beq i id=true from by rw[ci]; exact Nat.beq_refl id]at hk'
   exact hQ _ _ _ ⟨.n,e',τ',h',z',rfl,hk',F',R',Fr',D',ad,ag⟩
  ·rw[if_neg ci]
   rw[show Nat.beq i id=false from by rw[qc]; simp[ci]]at hk'
   exact hQ _ _ _ ⟨.x i,e',τ',h',z',rfl,hk',F',R',Fr',D',ad,ag⟩
 | r=>exact hQ _ _ _ ⟨.r,e',τ',h',z',rfl,hk,F',R',Fr',D',ad,ag⟩
theorem scope_law (ha:CS w0 ro n N ga wa c):CS w0 ro n N ga wa (.scope c):=fun {e τ h K z a w Q} hh F R D Ro hQ=>by
 refine wpIn_scope (ha hh F R D Ro fun ex a' w' o=>?_)
 have hq:=hQ _ _ _ o
 obtain⟨x,e',τ',h',z',rfl,_⟩:=o
 cases x<;>exact hq
theorem loop_law (ha:CS w0 ro n N ga wa c) (k:Nat):CS w0 ro n N (fun τ h K=>loopE k ga τ h K) wa (.loop c):=fun {e τ h K z a w Q} hh F R D Ro hQ=>by
 refine Go.Lw.wpIn_loop_ghost (fun(k:Nat) a' w=>∃ e' τ' h' z',loopE k ga τ' h' K=some z'∧jc e' n noZ τ' a'.tmps∧zG w0 e' h' w∧Fr e h e' h'∧Dfs N e' h' a'.defers∧(1000∉wa→a'.defers=a.defers)∧∀ t,t<512→t∉wa→(q3 t).g τ'=(q3 t).g τ) (fun k=>k) (fun k a1 w1 hI=>?_) k a w ⟨e,τ,h,z,hh,F,R,.refl e h,D,fun _=>rfl,fun _ _ _=>rfl⟩
 obtain⟨e',τ',h',z',hk,F',R',Fr',D',ad,ag⟩:=hI
 cases k with
 | zero=>cases hk
 | succ k=>
  have hk':ga τ' h' (fun ex τ h=>Ex.rec (motive:=fun _=>Ev.R) (loopE k ga τ h K) (fun id=>K (.x id) τ h) (K .r τ h) ex)=some z':=hk
  refine ha hk' F' R' D' (Ro.keep Fr' R) fun ex a2 w2 o=>?_
  obtain⟨x,e2,τ2,h2,z2,rfl,hk2,F2,R2,Fr2,D2,ad2,ag2⟩:=o
  have adt:1000∉wa→a2.defers=a.defers:=fun hn=>(ad2 hn).trans (ad hn)
  have agt:∀ t,t<512→t∉wa→(q3 t).g τ2=(q3 t).g τ:=fun t ht hn=>(ag2 t ht hn).trans (ag t ht hn)
  cases x with
  | n=>exact⟨k,⟨e2,τ2,h2,z2,hk2,F2,R2,Fr'.trans Fr2,D2,adt,agt⟩,Nat.lt_succ_self k⟩
  | x i=>exact hQ _ _ _ ⟨.x i,e2,τ2,h2,z2,rfl,hk2,F2,R2,Fr'.trans Fr2,D2,adt,agt⟩
  | r=>exact hQ _ _ _ ⟨.r,e2,τ2,h2,z2,rfl,hk2,F2,R2,Fr'.trans Fr2,D2,adt,agt⟩
end
end Go.Ev
end
section
set_option linter.unusedVariables false
set_option linter.unusedSimpArgs false
set_option linter.constructorNameAsVariable false
namespace Go.Ev
open Go.Lw Go.RowKit
structure FrX (i:Nat) (e:Env) (h:H) (e':Env) (h':H):Prop where
 ext:Ext e e'
 nxt:h.nxt≤h'.nxt
 lo:h'.lo≤h.lo
 ac:h'.ac=h.ac
 new:∀ id,e'.dom id→e.dom id∨h.nxt≤id
 out:∀ id,id≠i→id<h.nxt→¬ e.dom id→hget h' id=hget h id
 prot:∀ id,id≠i→id<h.nxt→id<h'.lo→¬ h.act id→hget h' id=hget h id
 kp:∀ id,id≠i→id<h.nxt→kD (hget h id) (hget h' id)
section
variable {i:Nat} {e e' e'':Env} {h h' h'':H}
theorem Fr.x (F:Fr e h e' h'):FrX i e h e' h':=⟨F.ext,F.nxt,F.lo,F.ac,F.new,fun id _=>F.out id,fun id _=>F.prot id,fun id _=>F.kp id⟩
theorem FrX.trans (a:FrX i e h e' h') (b:FrX i e' h' e'' h''):FrX i e h e'' h'':=by
 refine⟨a.ext.trans b.ext,Nat.le_trans a.nxt b.nxt,Nat.le_trans b.lo a.lo,b.ac.trans a.ac,fun id hi=>?_,fun id hx hi hd=>?_,fun id hx hn hi hr=>?_,fun id hx hn=>(a.kp id hx hn).trans (b.kp id hx (Nat.lt_of_lt_of_le hn a.nxt))⟩
 ·rcases b.new id hi with h1 | h1
  ·exact a.new id h1
  ·exact .inr (Nat.le_trans a.nxt h1)
 ·have hd':¬ e'.dom id:=fun k=>by
   rcases a.new id k with h1 | h1
   ·exact hd h1
   ·omega
  rw[b.out id hx (Nat.lt_of_lt_of_le hi a.nxt) hd',a.out id hx hi hd]
 ·rw[b.prot id hx (Nat.lt_of_lt_of_le hn a.nxt) hi (by unfold H.act at hr⊢; rw[a.ac]; exact hr),a.prot id hx hn (Nat.lt_of_lt_of_le hi b.lo) hr]
theorem Put.x {b:B} (P:Put h i b h') (top:h.nxt≤32768):FrX i e h e h':=
 ⟨.refl e,by rw[P.nxt]; exact Nat.le_refl _,Nat.le_of_eq P.lo,P.ac,fun _ k=>.inl k,fun id hx hi _=>by rw[P.get id (by omega),if_neg hx],fun id hx hi _ _=>by rw[P.get id (by omega),if_neg hx],fun id hx hi=>by rw[P.get id (by omega),if_neg hx]; exact .refl _⟩
theorem FrX.fr (F:FrX i e h e' h') (hd:e.dom i) (hf:kD (hget h i) (hget h' i)) (hp:i<h'.lo→hget h' i=hget h i):Fr e h e' h':=
 ⟨F.ext,F.nxt,F.lo,F.ac,F.new,fun id hi hnd=>F.out id (fun k=>hnd (k▸hd)) hi hnd,fun id hn hi hr=>by
  by_cases c:id=i
  ·subst c; exact hp hi
  ·exact F.prot id c hn hi hr,fun id hn=>by
  by_cases c:id=i
  ·subst c; exact hf
  ·exact F.kp id c hn⟩
theorem lo_x {lo:Nat} (hl:lo≤h.lo):FrX i e h e (.mk h.nxt lo h.ac h.t):=
 ⟨.refl e,Nat.le_refl _,hl,rfl,fun _ k=>.inl k,fun _ _ _ _=>rfl,fun _ _ _ _ _=>rfl,fun _ _ _=>.refl _⟩
end
theorem bind_law {e:Env} {n:Nat} {z:List (AV×H)} {K:L3→Ev.R} : ∀ {ps:List Nat} {args:List AV} {us:List Value} {t:L3} {tmps:Array Value},bindE ps args t K=some z→(∀ p∈ps,p<n)→jc e n noZ t tmps→zN (Dn e) args us→
  ps.length=us.length∧∃ t',K t'=some z∧jc e n noZ t' ((ps.zip us).foldl (fun tmps (p:Nat×Value)=>tmps.setIfInBounds p.1 p.2) tmps)
 | [],[],us,t,tmps,hh,_,F,ha=>by
  cases us with
  | nil=>exact⟨rfl,t,hh,F⟩
  | cons=>exact ha.elim
 | [],_::_,us,t,tmps,hh,_,F,ha=>by cases hh
 | _::_,[],us,t,tmps,hh,_,F,ha=>by cases hh
 | p::ps,v::args,us,t,tmps,hh,hp,F,ha=>by
  cases us with
  | nil=>exact ha.elim
  | cons u us=>
   have hp0:=hp p (by simp)
   obtain⟨τ',h1,h2⟩:=q3_set t v (Nat.lt_of_lt_of_le hp0 F.2.1)
   have hh':((q3 p).s t v fun t=>bindE ps args t K)=some z:=hh
   rw[h1]at hh'
   have F':jc e n noZ τ' (tmps.setIfInBounds p u):=jc.put (a:={ tmps:=tmps,defers:=[] }) F hp0 ha.1 h2 fun _ k _=>k
   obtain⟨k1,k2⟩:=bind_law hh' (fun q hq=>hp q (List.mem_cons_of_mem _ hq)) F' ha.2
   exact⟨by simp[k1],k2⟩
def IHOk (w0:World) (ih:IH):Prop:=∀ (ro:Option Nat) (n N:Nat) (c:Code),okC n c=true→CS w0 ro n N (ih.run c) (wrC c) c
theorem xk {w:World} {b:Nat} {o:Obj} : w.grownBy (w.putObj b o) (some b):=⟨rfl,rfl,rfl,by simp,fun k _ hne=>World.putObj_heap_other fun c=>hne (by rw[c])⟩
section
variable {w0:World} {ih:IH}
theorem loB_le (id lo:Nat):loB id lo≤lo∧loB id lo≤id:=by
 unfold loB
 cases hb:Nat.ble lo id with
 | true=>have:=Nat.le_of_ble_eq_true hb; simp[this]
 | false=>
  have h:¬ lo≤id:=fun k=>by rw[Nat.ble_eq_true_of_le k]at hb; cases hb
  simp only[cond_false]; omega
theorem rnd_law (iHo:IHOk w0 ih):YdOk w0 ih:=by
 intro id e h K z args us w ps a b t hb hh hd ha R
 have ok:=R.ok id hd
 rw[hb]at ok
 obtain⟨r,r1,rfl,rfl,rfl,r5,r6,r7,r8,r9⟩:=ok
 have hi:=R.zY hd
 have hlow:=R.low id hd (by rw[hb]; trivial)
 have hh1:(jF h id (.o (.v false r.params.toList r.assign r.body t)) fun h=>bindE r.params.toList args t fun t'=>ih.run r.assign t' h fun ex t1 h=>
  Ex.rec (motive:=fun _=>Ev.R) (jF h id (.o (.v true r.params.toList r.assign r.body t)) fun h=>ih.run r.body t1 h fun ex _ h=>Ex.rec (motive:=fun _=>Ev.R) (jF h id (.o (.l r.params.toList r.assign r.body t)) fun h=>K (.b true) h) (fun i=>setLo h (loB id) h.ac fun h=>jF h id (.o (.d (.x i))) fun h=>K (.b false) h) (setLo h (loB id) h.ac fun h=>jF h id (.o (.d .r)) fun h=>K (.b false) h) ex) (fun _=>none) none ex)=some z:=hh
 obtain⟨h1,P1,hh1⟩:=jl hh1 hi
 obtain⟨hlen,t',hh1,F1⟩:=bind_law hh1 r6 r5 ha
 have R1:zG w0 e h1 w:=R.put P1 hd (by rw[hb]; trivial) (by rw[hb]; exact fun c=>c) (World.grownBy.refl w _) ⟨r,r1,rfl,rfl,rfl,r5,r6,r7,r8,r9⟩
 refine⟨_,_,_,_,run_yield r1 (by simpa using hlen.symm),?_⟩
 refine roundIn_of_wpIn trivial ?_
 rw[foldl_zip]
 refine iHo (some (e.blk id)) r.tmps.size h1.nxt r.assign r7 (e:=e) (τ:=t') (h:=h1) (z:=z) (a:={ tmps:=_,defers:=[] }) (w:=w) hh1 F1 R1 ⟨Nat.le_refl _,[],rfl,List.nodup_nil,fun i k=>by cases k⟩ (fun l k=>⟨id,false,_,_,_,_,hd,Option.some.inj k,by rw[P1.get id hi,if_pos rfl]⟩) fun ex a1 w1 o=>?_
 obtain⟨x,e2,t2,h2,z2,rfl,hk,F2,R2,Fr2,D2,_,ag2⟩:=o
 cases x with
 | x i=>cases hk
 | r=>cases hk
 | n=>
  have hd2:=Fr2.ext.dom id hd
  have lt1:id<h1.nxt:=by rw[P1.nxt]; exact R.lt id hd
  have g2:hget h2 id=.o (.v false r.params.toList r.assign r.body t):=by
   have g1:hget h1 id=.o (.v false r.params.toList r.assign r.body t):=by rw[P1.get id hi,if_pos rfl]
   rw[Fr2.mark id lt1 (by rw[g1]; trivial),g1]
  obtain⟨h3,P3,hk⟩:=jl hk hi
  have ok2:=R2.ok id hd2
  rw[g2]at ok2
  obtain⟨s,s1,s2,s3,s4,s5,s6,s7,s8⟩:=ok2
  have eb:=Fr2.ext.blk id hd
  have low2:=R2.low id hd2 (by rw[g2]; trivial)
  rw[eb]at s1 low2
  refine⟨_,run_beginRound s1 rfl,?_⟩
  have R3:zG w0 e2 h3 (w1.putObj (e.blk id) (.loop { s with state:=.busy,pending:=none })):=R2.put P3 hd2 (by rw[g2]; trivial) (by rw[g2]; exact fun c=>c) (by rw[eb]; exact xk) ⟨s,by rw[eb]; exact World.putObj_heap_same low2.2,s2,s3,s4,s5,s6,s7,s8⟩
  have D3:Dfs h1.nxt e2 h3 a1.defers:=by
   obtain⟨d0,ids,d1,d2,d3⟩:=D2
   refine⟨by rw[P3.nxt]; exact d0,ids,d1,d2,fun i hi'=>?_⟩
   obtain⟨k1,k2,k3,k4⟩:=d3 i hi'
   refine⟨k1,k2,?_,k4⟩
   rw[P3.get i (R2.zY k2),if_neg (fun k=>by subst k; rw[g2]at k3; cases k3)]; exact k3
  have top2:=R2.top
  have X3:FrX id e h e2 h3:=((P1.x R.top).trans Fr2.x).trans (P3.x top2)
  refine iHo (some (e.blk id)) r.tmps.size h1.nxt r.body r8 hk F2 R3 D3 (fun l k=>⟨id,true,_,_,_,_,hd2,by rw[eb]; exact Option.some.inj k,by rw[P3.get id hi,if_pos rfl]⟩) fun ex a4 w4 o=>?_
  obtain⟨x,e4,t4,h4,z4,rfl,hk,F4,R4,Fr4,D4,_,ag4⟩:=o
  have hd4:=Fr4.ext.dom id hd2
  have g4:hget h4 id=.o (.v true r.params.toList r.assign r.body t):=by
   have g3:hget h3 id=.o (.v true r.params.toList r.assign r.body t):=by rw[P3.get id hi,if_pos rfl]
   rw[Fr4.mark id (by rw[P3.nxt]; exact Nat.lt_of_lt_of_le lt1 Fr2.nxt) (by rw[g3]; trivial),g3]
  have ok4:=R4.ok id hd4
  rw[g4]at ok4
  obtain⟨q,q1,q2,q3',q4,q5,q6,q7,q8⟩:=ok4
  have eb4:e4.blk id=e.blk id:=(Fr4.ext.blk id hd2).trans eb
  have low4:=R4.low id hd4 (by rw[g4]; trivial)
  rw[eb4]at q1 low4
  have X4:FrX id e h e4 h4:=X3.trans Fr4.x
  have hnf:∀ b,kD (hget h id) b:=by rw[hb]; exact fun _=>trivial
  have fin:∀ (ex:Ex) (c:Code),exC ex=c→(setLo h4 (loB id) h4.ac fun h=>jF h id (.o (.d ex)) fun h=>K (.b false) h)=some z4→Out w0 e h K (.bool false) (w4.putObj (e.blk id) (.loop { q with state:=.done,pending:=some c })):=fun ex c hc hk=>by
   rw[setLo_eq]at hk
   obtain⟨h6,P6,hk⟩:=jl hk hi
   have R5:zG w0 e4 (.mk h4.nxt (loB id h4.lo) h4.ac h4.t) w4:=R4.same rfl fun _ _=>rfl
   have R6:zG w0 e4 h6 (w4.putObj (e.blk id) (.loop { q with state:=.done,pending:=some c })):=R5.put P6 hd4 (show inB (hget h4 id) by rw[g4]; trivial) (show ¬ hidK (hget h4 id) by rw[g4]; exact fun c=>c) (by rw[eb4]; exact xk) ⟨q,by rw[eb4,hc]; exact World.putObj_heap_same low4.2⟩
   have X6:FrX id e h e4 h6:=(X4.trans (lo_x (loB_le id h4.lo).1)).trans (P6.x R5.top)
   refine⟨.b false,h6,e4,z4,hk,rfl,R6,X6.fr hd (hnf _) fun hlt=>?_⟩
   have l6:h6.lo=loB id h4.lo:=P6.lo
   have:=(loB_le id h4.lo).2
   omega
  cases x with
  | n=>
   obtain⟨h5,P5,hk⟩:=jl hk hi
   have R5:zG w0 e4 h5 (w4.putObj (e.blk id) (.loop { q with state:=.ready,pending:=none })):=R4.put P5 hd4 (by rw[g4]; trivial) (by rw[g4]; exact fun c=>c) (by rw[eb4]; exact xk) ⟨q,by rw[eb4]; exact World.putObj_heap_same low4.2,q2,q3',q4,q5,q6,q7,q8⟩
   have X5:FrX id e h e4 h5:=X4.trans (P5.x R4.top)
   exact⟨_,_,run_endRound none q1,_,rfl,.b true,h5,e4,z4,hk,rfl,R5,X5.fr hd (hnf _) fun _=>by rw[P5.get id hi,if_pos rfl,hb]⟩
  | x i=>exact⟨_,_,run_endRound (some (.exit i)) q1,_,rfl,fin (.x i) _ rfl hk⟩
  | r=>exact⟨_,_,run_endRound (some .ret) q1,_,rfl,fin .r _ rfl hk⟩
end
end Go.Ev
end
section
set_option linter.unusedVariables false
set_option linter.unusedSimpArgs false
set_option linter.constructorNameAsVariable false
namespace Go.Ev
open Go.Lw Go.RowKit
section
variable {w0:World} {ih:IH} {e:Env} {h:H} {w:World} {n N:Nat} {ro:Option Nat}
theorem callF_law (FO:FnOk w0 ih) (R:zG w0 e h w) {x:AV} {v:Value} {args:List AV} {us:List Value} {K:KV} {z:List (AV×H)} (hh:callV x ih args h K=some z) (hy:notY x=true) (hx:Dn e x v) (ha:zN (Dn e) args us) :
  ∃ d f us',(Deferred.ofValue v ⟨us⟩).run Pr w=.ok d w∧(invoke d.target d.args).run Pr w=.ok (.enter f us') w∧Calls Pr f us' w fun en w'=>∃ v,en=.returned v∧Out w0 e h K v w':=by
 have mk:∀ {f:FuncId} {fs cs:Array Value},zy Pr f→(Calls Pr f (fs++⟨us⟩++cs) w fun en w'=>∃ v,en=.returned v∧Out w0 e h K v w')→
   ∃ d g us',(Deferred.ofValue (.func (.func f) fs cs) ⟨us⟩).run Pr w=.ok d w∧(invoke d.target d.args).run Pr w=.ok (.enter g us') w∧Calls Pr g us' w fun en w'=>∃ v,en=.returned v∧Out w0 e h K v w':=fun {f fs cs} h1 h2=>
  ⟨{ target:=.fn (.func f) cs,args:=fs++⟨us⟩ },f,_,by simp only[Deferred.ofValue,Sem.run_pure],h1 _ _,h2⟩
 obtain⟨x,rfl,hh⟩:=qL hh
 have hx':DnO e x v:=hx
 cases x with
 | f id=>
  obtain⟨b,hb,hh⟩:=jg (K:=fun b=>(match b with | .f f fs cs=>(fncE f).g ih (app fs (app args cs)) h K | _=>none)) hh
  obtain⟨hd,rfl,_⟩:=hx'
  have ok:=R.ok id hd
  rw[hb]at ok
  cases b with
  | f fn fs cs=>
   obtain⟨us1,us2,k1,k2,k3⟩:=ok
   rw[k1]
   simp only[ko]at hh
   obtain⟨h1,h2⟩:=FO hh (k2.append (ha.append k3)) R
   exact mk h1 (by simpa using h2)
  | _=>cases hh
 | y id=>cases hy
 | c u=>
  obtain⟨rfl,_⟩:=hx'
  replace hh:cvE v ih args h K=some z:=hh
  unfold cvE at hh
  split at hh
  ·rename_i f fs cs _ _
   obtain⟨g1,hh2⟩:=zw hh
   have g2:=Nat.eq_of_beq_eq_true g1
   obtain rfl:fs=#[]:=Array.eq_empty_of_size_eq_zero (by omega)
   obtain rfl:cs=#[]:=Array.eq_empty_of_size_eq_zero (by omega)
   obtain⟨h1,h2⟩:=FO hh2 ha R
   exact mk h1 (by simpa using h2)
  ·cases hh
 | _=>cases hh
theorem zG.lay (R:zG w0 e h w) {b:B} {h1:H} (P:New h b h1) {o:Obj} {f:Value} (c:Nat) (hin:inB b) (hr:refM b=Option.none) (hb:BOk (e.add h.nxt w.heap.size c f) h1 (w.alloc o) h.nxt b) :
  zG w0 (e.add h.nxt w.heap.size c f) h1 (w.alloc o)∧Fr e h (e.add h.nxt w.heap.size c f) h1∧¬ e.dom h.nxt∧hget h1 h.nxt=b:=by
 have R2:=R.push P
 have hid:¬ e.dom h.nxt:=fun k=>Nat.lt_irrefl _ (R.lt _ k)
 have g:hget h1 h.nxt=b:=by rw[P.get _ P.lt,if_pos rfl]
 refine⟨R2.add hid (by rw[P.nxt]; omega) (kg w _) (fun _=>⟨R.below.size,by simp,fun j hj hi he=>by have:=(R2.low j hj hi).2; omega⟩) (by rw[g]; exact hb) (fun m hm=>by rw[g,hr]at hm; cases hm),(R.frNew P).add hid (Nat.le_refl _),hid,g⟩
theorem lend_law {id:Nat} {τ:L3} {K:KC} {z:List (AV×H)} (hh:lendE id τ h K=some z) (R:zG w0 e h w) (hd:e.dom id) {ps:List Nat} {a b:Code} {t:L3} :
  ∃ ex h',(exC ex=.skip→True)∧(lowH h id).lo≤id∧Put (lowH h id) id .x h'∧K ex τ h'=some z∧∃ w' j,(Instr.endLoop (e.blk id)).run Pr w=.ok j w'∧zG w0 e h' w'∧((j=none∧ex=.n)∨j=some (exC ex)):=by
 obtain⟨b,hb,hh⟩:=jg hh
 obtain⟨hlo,h',P,hk⟩:=kz hh (R.zY hd)
 have ok:=R.ok id hd
 have RL:=R.low' id
 rw[hb]at ok
 have step:∀ r:Loop,w.heap[e.blk id]? = some (.loop r)→inB (hget h id)→¬ hidK (hget h id)→zG w0 e h' (w.putObj (e.blk id) (.loop { r with state:=.exhausted })):=fun r hr h1 h2=>RL.put P hd h1 h2 xk trivial
 cases b with
 | l ps a b t=>
  obtain⟨r,r1,_⟩:=ok
  exact⟨.n,h',fun _=>trivial,hlo,P,hk,_,_,run_endLoop r1 (by simp),step _ r1 (by rw[hb]; trivial) (by rw[hb]; exact fun c=>c),.inl ⟨rfl,rfl⟩⟩
 | d ex=>
  obtain⟨r,r1⟩:=ok
  exact⟨ex,h',fun _=>trivial,hlo,P,hk,_,_,run_endLoop r1 (by simp),step _ r1 (by rw[hb]; trivial) (by rw[hb]; exact fun c=>c),.inr rfl⟩
 | _=>cases hk
theorem range_func (FO:FnOk w0 ih) {g:Operand} {ps:Array Tmp} {as1 body:Code} (hg:okO n g=true) (hps:∀ p∈ps.toList,p<n) (ha:okC n as1=true) (hb:okC n body=true) :
  CS w0 ro n N (fun τ h K=>newB h (.o .t) fun _ h=>newB h (.o (.l ps.toList as1 body τ)) fun id h=>gd (notY ((evO g).v τ)) (callV ((evO g).v τ) ih [.x (.o (.y id))] h fun _ h=>lendE id τ h K)) [1000] (.rangeFunc g ps as1 body):=fun {e τ h K z a w Q} hh F R D Ro hQ=>by
 obtain⟨h1,N1,hh⟩:=newB_law hh
 obtain⟨h2,N2,hh⟩:=newB_law hh
 obtain⟨hy,hh⟩:=zw hh
 -- what is done once both blocks lie there
 have main:∀ (e1:Env) (w1:World) (mark:List Deferred) (df:Nat) (fn:FuncId),zG w0 e1 h1 w1→Fr e h e1 h1→Dfs N e1 h1 (mark++a.defers)→
   (Instr.enterLoop fn a.tmps ps as1 body (FW ro).round).run Pr w=.ok (w1.heap.size,mark) (w1.alloc (.loop { state:=.ready,pending:=none,fn:=fn,tmps:=a.tmps,params:=ps,assign:=as1,body:=body,defers:=df }))→
   ∃ (l:Nat) (mark:List Deferred) (w₁:World) (d:Deferred) (w₁':World) (f:FuncId) (args:Array Value) (w₂:World),
   (Instr.enterLoop fn a.tmps ps as1 body (FW ro).round).run Pr w=.ok (l,mark) w₁∧
   (resolve a.eval (rangeCall g l) 0).run Pr w₁=.ok d w₁'∧
   (∀ f',Target.leads Pr w₁' d.target d.args=some f'→(FW ro).fn f')∧
   (invoke d.target d.args).run Pr w₁'=.ok (.enter f args) w₂∧
   ((FW ro).depth.isSome=true→1≤0)∧
   CallsIn (FW ro) (0-1) Pr f args w₂ (rangePost (FW ro) 0 Pr l Q { a with defers:=mark++a.defers }):=fun e1 w1 mark df fn R1 Fr1 D1 hent=>by
  have hsz:a.tmps.size=n:=F.1
  obtain⟨R2,Fr2,hid,g2⟩:=R1.lay N2 (c:=n) (f:=.nilFunc) (o:=.loop { state:=.ready,pending:=none,fn:=fn,tmps:=a.tmps,params:=ps,assign:=as1,body:=body,defers:=df }) trivial rfl
   ⟨{ state:=.ready,pending:=none,fn:=fn,tmps:=a.tmps,params:=ps,assign:=as1,body:=body,defers:=df },by rw[qJ]; exact World.alloc_heap_new _ _,rfl,rfl,rfl,(by show jc _ a.tmps.size noZ τ a.tmps; rw[hsz]; exact F.ext (Fr1.ext.trans (xA fun k=>Nat.lt_irrefl _ (R1.lt _ k)))),(by show ∀ p∈ps.toList,p<a.tmps.size; rw[hsz]; exact hps),(by show okC a.tmps.size as1=true; rw[hsz]; exact ha),(by show okC a.tmps.size body=true; rw[hsz]; exact hb),(by show a.tmps.size=_; rw[hsz]; exact(if_pos rfl).symm)⟩
  have hd2:(e1.add h1.nxt w1.heap.size n .nilFunc).dom h1.nxt:=.inl rfl
  have Frt:=Fr1.trans Fr2
  have hv:=(evO_law F hg (fun t _ k=>k)).ext Frt.ext
  obtain⟨d,f,us',c1,c2,c3⟩:=callF_law FO R2 hh hy hv (us:=[.func (.yield w1.heap.size) #[] #[]]) ⟨⟨hd2,by rw[qJ]⟩,trivial⟩
  have e0:#[Operand.const (Value.func (.yield w1.heap.size) #[] #[])].map a.eval=⟨[.func (.yield w1.heap.size) #[] #[]]⟩:=by
   have e1:a.eval (.const (Value.func (.yield w1.heap.size) #[] #[]))=Value.func (.yield w1.heap.size) #[] #[]:=rfl
   simp[e1]
  refine⟨w1.heap.size,mark,_,d,_,f,us',_,hent,(by unfold resolve; simp only[e0]; exact c1),fun _ _=>trivial,c2,FW_dep ro,jB.2 (c3.mono fun en w3 k=>?_)⟩
  obtain⟨v,rfl,x,h3,e3,z3,hk,_,R3,F3⟩:=k
  have hd3:=F3.ext.dom _ hd2
  have b3:e3.blk h1.nxt=w1.heap.size:=by rw[F3.ext.blk _ hd2,qJ]
  obtain⟨ex,h4,_,hlo,P4,hk,w4,j,e1',R4,hj⟩:=lend_law hk R3 hd3 (ps:=[]) (a:=.skip) (b:=.skip) (t:=L3.e)
  rw[b3]at e1'
  have Fall:=Frt.trans F3
  have X4:FrX h1.nxt e h e3 h4:=(Fall.trans (fr_low e3 h3 h1.nxt)).x.trans (P4.x R3.top)
  have n1:=N1.nxt
  have Fr4:Fr e h e3 h4:=by
   refine⟨X4.ext,X4.nxt,X4.lo,X4.ac,X4.new,fun id hi hnd=>X4.out id (by omega) hi hnd,fun id hi hl2 hr=>X4.prot id (by omega) hi hl2 hr,fun id hi=>X4.kp id (by omega) hi⟩
  have D3:Dfs N e3 h3 (mark++a.defers):=(D1.keep Fr2 R1).keep F3 R2
  have D4:Dfs N e3 h4 (mark++a.defers):=by
   obtain⟨d0,ids,d1,d2,d3⟩:=D1
   obtain⟨d0',_⟩:=D3
   refine⟨by rw[P4.nxt]; exact d0',ids,?_,d2,fun i hi=>?_⟩
   ·rw[d1]
    refine List.map_congr_left fun i hi=>?_
    rw[(Fr2.trans F3).ext.blk i (d3 i hi).2.1]
   ·obtain⟨k1,k2,k3,k4⟩:=d3 i hi
    have hlt:=R1.lt i k2
    have k5:=(Fr2.trans F3).mark i hlt (by rw[k3]; trivial)
    refine⟨k1,(Fr2.trans F3).ext.dom i k2,?_,by rw[(Fr2.trans F3).ext.gh i k2]; exact k4⟩
    rw[P4.get i (R3.zY ((Fr2.trans F3).ext.dom i k2)),if_neg (by omega)]
    exact k5.trans k3
  have out:∀ ex':Ex,K ex' τ h4=some z3→OutC w0 n N e h τ [1000] a.defers K (exE ex') { a with defers:=mark++a.defers } w4:=fun ex' hk=>⟨ex',e3,τ,h4,z3,rfl,hk,F.ext Fr4.ext,R4,Fr4,D4,fun k=>absurd (by simp) k,fun _ _ _=>rfl⟩
  refine⟨j,w4,e1',?_⟩
  rcases hj with ⟨rfl,rfl⟩ | rfl
  ·exact hQ _ _ _ (out .n hk)
  ·cases ex with
   | n=>exact wpIn_skip (hQ _ _ _ (out .n hk))
   | x i=>exact wpIn_exit (hQ _ _ _ (out (.x i) hk))
   | r=>exact wpIn_ret (hQ _ _ _ (out .r hk))
 refine wpIn_rangeFunc fun fn _=>?_
 cases ro with
 | none=>
  obtain⟨R1,Fr1,hid,g1⟩:=R.lay N1 (c:=0) (f:=.nilFunc) (o:=.deferred (some [])) trivial rfl (fun _=>by rw[qJ]; exact World.alloc_heap_new _ _)
  refine main _ _ [mkD w.heap.size] w.heap.size fn R1 Fr1 ?_ (by rw[World.size_alloc]; exact run_enterLoop_outer _ _ _ _ _)
  obtain⟨d0,ids,d1,d2,d3⟩:=D
  refine⟨Nat.le_trans d0 Fr1.nxt,h.nxt::ids,?_,List.nodup_cons.2 ⟨fun k=>hid (d3 _ k).2.1,d2⟩,fun i hi=>?_⟩
  ·rw[List.map_cons,qJ,d1]
   show mkD _::_=mkD _::_
   refine congrArg _ (List.map_congr_left fun i hi=>?_)
   rw[Fr1.ext.blk i (d3 i hi).2.1]
  ·rcases List.mem_cons.1 hi with rfl | hi
   ·exact⟨d0,.inl rfl,g1,if_pos rfl⟩
   ·obtain⟨k1,k2,k3,k4⟩:=d3 i hi
    exact⟨k1,Fr1.ext.dom i k2,by rw[Fr1.mark i (R.lt i k2) (by rw[k3]; trivial)]; exact k3,by rw[Fr1.ext.gh i k2]; exact k4⟩
 | some l0=>
  obtain⟨i0,bz,ps0,a0,b0,t0,k1,k2,k3⟩:=Ro l0 rfl
  have ok:=R.ok i0 k1
  rw[k3]at ok
  obtain⟨r0,r1,_⟩:=ok
  rw[k2]at r1
  exact main e w [] _ fn (R.push N1) (R.frNew N1) (D.keep (R.frNew N1) R) (run_enterLoop_inner r1 _ _ _ _ _)
end
end Go.Ev
end
section
set_option linter.unusedVariables false
set_option linter.unusedSimpArgs false
set_option linter.constructorNameAsVariable false
namespace Go.Ev
open Go.Lw Go.RowKit
def Env.ji (e:Env) (i s:Nat):Env:={ e with gh:=fun j=>if j=i then s else e.gh j }
section gh
variable {e:Env} {i s:Nat}
theorem kW:(e.ji i s).gh i=s:=if_pos rfl
theorem setG_ne {j:Nat} (h:j≠i):(e.ji i s).gh j=e.gh j:=if_neg h
theorem DnO_gh:DnO (e.ji i s)=DnO e:=by funext x v; cases x<;>rfl
theorem DnS_gh:DnS (e.ji i s)=DnS e:=by
 funext x v
 cases x with
 | o x=>exact congrFun (congrFun DnO_gh x) v
 | _=>rfl
theorem DnC_gh:DnC (e.ji i s)=DnC e:=by funext x v; unfold DnC; rw[DnS_gh]
theorem DnT_gh:DnT (e.ji i s)=DnT e:=by
 funext x v
 cases x with
 | inl x=>exact congrFun (congrFun DnS_gh x) v
 | inr l=>show(∃ vs,v=.agg ⟨vs⟩∧zN (DnC (e.ji i s)) l vs)=_; rw[DnC_gh]; rfl
theorem Dn_gh:Dn (e.ji i s)=Dn e:=by
 funext x v
 cases x with
 | x x=>exact congrFun (congrFun DnS_gh x) v
 | a l=>show(∃ vs,v=.agg ⟨vs⟩∧zN (DnC (e.ji i s)) l vs)=_; rw[DnC_gh]; rfl
 | t l=>show(∃ vs,v=.tuple ⟨vs⟩∧zN (DnT (e.ji i s)) l vs)=_; rw[DnT_gh]; rfl
theorem DnE_gh:DnE (e.ji i s)=DnE e:=by funext x v; unfold DnE; rw[Dn_gh]
theorem FRel_gh:jc (e.ji i s)=jc e:=by funext n Z τ t; unfold jc; rw[Dn_gh]
theorem TOk_gh:TOk (e.ji i s)=TOk e:=by funext n t cs; unfold TOk; rw[DnC_gh]
theorem MOk_gh:MOk (e.ji i s)=MOk e:=by funext l es c; unfold MOk; rw[DnE_gh]
theorem BOk_gh {h:H} {w:World} {j:Nat} {b:B} (hj:j≠i):BOk (e.ji i s) h w j b=BOk e h w j b:=by
 have g:=setG_ne (e:=e) (s:=s) hj
 have eb:(e.ji i s).blk=e.blk:=rfl
 have ed:(e.ji i s).dom=e.dom:=rfl
 have ec:(e.ji i s).cap=e.cap:=rfl
 have el:(e.ji i s).clo=e.clo:=rfl
 cases b with
 | o b=>cases b<;>simp only[BOk,OOk,g,eb,ed,ec,el,FRel_gh,MOk_gh,Dn_gh,DnE_gh]
 | _=>simp only[BOk,eb,ed,ec,el,TOk_gh]
theorem zG.regh {w0:World} {h:H} {w:World} (R:zG w0 e h w) (hb:e.dom i→BOk (e.ji i s) h w i (hget h i)):zG w0 (e.ji i s) h w:=
 ⟨R.below,R.top,R.lt,fun j hj=>by
  by_cases c:j=i
  ·subst c; exact hb hj
  ·rw[BOk_gh c]; exact R.ok j hj,R.low,R.inj,R.none,R.uniq⟩
theorem Ext.ji {e':Env} (x:Ext e e'):Ext (e.ji i s) (e'.ji i s):=
 ⟨x.dom,x.blk,x.cap,x.clo,fun j hj=>by
  by_cases c:j=i
  ·subst c; rw[kW,kW]
  ·rw[setG_ne c,setG_ne c]; exact x.gh j hj⟩
end gh
section back
variable {e e':Env}
theorem zN.backE (x:Ext e e'):∀ {l:List (AV×AV)} {es es':List MapEntry},zN (DnE e) l es→zN (DnE e') l es'→zN (DnE e) l es'
 | [],[],[],_,_=>trivial
 | _::_,_::_,_::_,⟨a,b⟩,⟨a',b'⟩=>⟨⟨a.1.back x a'.1,a.2.back x a'.2⟩,zN.backE x b b'⟩
 | [],_,_::_,_,k=>k.elim
 | [],_::_,_,k,_=>k.elim
 | _::_,[],_,k,_=>k.elim
 | _::_,_,[],_,k=>k.elim
theorem sub_known {p:AV×AV→MapEntry→Prop} : ∀ {l L:List (AV×AV)} {es:List MapEntry},l.Sublist L→zN p L es→∃ es',zN p l es'
 | _,_,es,.slnil,h=>⟨es,h⟩
 | _,_,[],.cons a s,h=>h.elim
 | _,_,_::_,.cons a s,h=>sub_known s h.2
 | _,_,[],.cons_cons a s,h=>h.elim
 | _,_,y::_,.cons_cons a s,h=>by obtain⟨es',k⟩:=sub_known s h.2; exact⟨y::es',h.1,k⟩
theorem MOk.back (x:Ext e e') {l:List (AV×AV)} {es es':List MapEntry} {c c':Nat} (k:MOk e l es c) (k':MOk e' l es' c'):MOk e l es' c':=⟨k.1.backE x k'.1,k'.2⟩
theorem TOk.back (x:Ext e e') {n:Nat} {t:TV} {cs cs':List Value} (k:TOk e n t cs) (k':TOk e' n t cs'):TOk e n t cs':=⟨k'.1,k'.2.1,fun j hj=>by
 obtain⟨s,v,h1,h2,h3⟩:=k.2.2 j hj
 obtain⟨s',v',h1',h2',h3'⟩:=k'.2.2 j hj
 rw[h2]at h2'
 have:s=s':=by injection h2'
 subst this
 exact⟨s,v',h1',h2,h3.back x h3'⟩⟩
theorem jc.back (x:Ext e e') {n:Nat} {τ:L3} {t t':Array Value} (k:jc e n noZ τ t) (k':jc e' n noZ τ t'):jc e n noZ τ t':=⟨k'.1,k'.2.1,fun j v hv hz=>by
 have hj:j<t.size:=by rw[k.1,←k'.1]; exact(Array.getElem?_eq_some_iff.1 hv).1
 exact(k.2.2 j _ (Array.getElem?_eq_getElem hj) hz).back x (k'.2.2 j v hv hz)⟩
theorem BOk.back {h h':H} {w w':World} {id:Nat} {b:B} (hid:e.dom id) (x:Ext e e') (hm:∀ m,refM b=some m→hidK (hget h m)→(∃ g,hget h m=.o g∧∀ k y z,g=.g k y z→hget h' m=hget h m)) (k:BOk e h w id b) (k':BOk e' h' w' id b):BOk e h w' id b:=by
 have eb:=x.blk id hid
 have ec:=x.cap id hid
 have eg:=x.gh id hid
 cases b with
 | x=>trivial
 | c E n t=>
  obtain⟨cs,h1,h2,h3⟩:=k
  obtain⟨cs',h1',h2',h3'⟩:=k'
  exact⟨cs',by rw[←eb]; exact h1',h2',h3.back x h3'⟩
 | r E n t=>
  obtain⟨cs,z,h1,h2,h3,h4,h5⟩:=k
  obtain⟨cs',z',h1',h2',h3',h4',h5'⟩:=k'
  exact⟨cs',z',by rw[←eb]; exact h1',h2.back x h2',h3',by rw[←ec]; exact h4',by rw[←ec]; exact h5'⟩
 | o b=>
  cases b with
  | m l=>
   obtain⟨es,c,h1,h2⟩:=k
   obtain⟨es',c',h1',h2'⟩:=k'
   exact⟨es',c',by rw[←eb]; exact h1',h2.back x h2'⟩
  | h=>trivial
  | g key gone L=>
   obtain⟨l,es,c,h1,h2,h3,⟨h4,es0,h5⟩,h6⟩:=k
   obtain⟨l',es',c',h1',h2',h3',⟨h4',_⟩,h6'⟩:=k'
   obtain⟨es2,h7⟩:=sub_known h4' h5
   exact⟨l',es',c',by rw[←eb]; exact h1',⟨h7.backE x h2'.1,h2'.2⟩,h3',⟨h4',es0,h5⟩,h6'⟩
  | f fn fs cs=>exact k
  | l ps a b t=>
   obtain⟨r,h1,h2,h3,h4,h5,h6,h7,h8,h9⟩:=k
   obtain⟨r',h1',h2',h3',h4',h5',h6',h7',h8',h9'⟩:=k'
   have hs:r'.tmps.size=r.tmps.size:=by rw[h9',h9,eg]
   exact⟨r',by rw[←eb]; exact h1',h2',h3',h4',by rw[hs]at h5'⊢; exact h5.back x h5',h6',h7',h8',by rw[h9',eg]⟩
  | d ex=>
   obtain⟨r',h1'⟩:=k'
   exact⟨r',by rw[←eb]; exact h1'⟩
  | i m l=>
   obtain⟨h1,h2,es,c,⟨h3,h4,h5⟩,h6⟩:=k
   obtain⟨h1',h2',es',c',⟨h3',h4',h5'⟩,h6'⟩:=k'
   exact⟨h1,h2,es',c',⟨by rw[←x.blk _ h1]; exact h3',by rw[←eb,←x.blk _ h1]; exact h4',h5'⟩,h6.back x h6'⟩
  | b m l rem=>exact k.elim
  | c m key v l rem=>
   obtain⟨h1,h2,es,c,since,seen,en,⟨h3,h4,h5⟩,h6,h7,h8,h9,h10⟩:=k
   obtain⟨h1',h2',es',c',since',seen',en',⟨h3',h4',h5'⟩,h6',h7',h8',h9',h10'⟩:=k'
   exact⟨h1,h2,es',c',since',seen',en',⟨by rw[←x.blk _ h1]; exact h3',by rw[←eb,←x.blk _ h1]; exact h4',h5'⟩,h6.back x h6',h7',h8',h9',h10.1.back x h10'.1,h10.2.back x h10'.2⟩
  | j m l z=>
   obtain⟨h1,h2,es,c,since,seen,⟨h3,h4,h5⟩,h6,h7⟩:=k
   obtain⟨h1',h2',es',c',since',seen',⟨h3',h4',h5'⟩,h6',h7'⟩:=k'
   exact⟨h1,h2,es',c',since',seen',⟨by rw[←x.blk _ h1]; exact h3',by rw[←eb,←x.blk _ h1]; exact h4',h5'⟩,h6.back x h6',by rw[←eg]; exact h7'⟩
  | k m key v l keep z cur=>
   obtain⟨h1,gone,L,h2,es,c,since,seen,j,en,g1,g2,⟨h3,h4,h5⟩,h6,h7⟩:=k
   obtain⟨h1',gone',L',h2',es',c',since',seen',j',en',g1',g2',⟨h3',h4',h5'⟩,h6',h7'⟩:=k'
   obtain⟨g,k1,k2⟩:=hm m rfl (by rw[h2]; trivial)
   rw[h2]at k1
   have k1':BO.g key gone L=g:=by injection k1
   have k3:=k2 _ _ _ k1'.symm
   rw[h2',h2]at k3
   have:gone'=gone:=by injection k3 with k3; injection k3
   subst this
   exact⟨h1,gone',L,h2,es',c',since',seen',j',en',g1',g2',⟨by rw[←x.blk _ h1]; exact h3',by rw[←eb,←x.blk _ h1]; exact h4',h5'⟩,h6.back x h6',by rw[←eg]; exact h7'⟩
  | q m key v=>exact k.elim
  | z=>trivial
  | t=>
   have k2:e'.gh id=0→w'.heap[e'.blk id]? = some (.deferred (some [])):=k'
   show e.gh id=0→w'.heap[e.blk id]? = some (.deferred (some []))
   rw[←eb,←eg]; exact k2
  | v bz ps a b t=>
   obtain⟨r,h1,h2,h3,h4,h5,h6,h7,h8,h9⟩:=k
   obtain⟨r',h1',h2',h3',h4',h5',h6',h7',h8',h9'⟩:=k'
   have hs:r'.tmps.size=r.tmps.size:=by rw[h9',h9,eg]
   exact⟨r',by rw[←eb]; exact h1',h2',h3',h4',by rw[hs]at h5'⊢; exact h5.back x h5',h6',h7',h8',by rw[h9',eg]⟩
end back
end Go.Ev
end
section
set_option linter.unusedVariables false
set_option linter.unusedSimpArgs false
set_option linter.constructorNameAsVariable false
namespace Go.Ev
open Go.Lw Go.RowKit
theorem wro_ok {n:Nat} {ops:Array Oper} : ∀ (l:List Oper),(∀ o∈l,okP n ops o=true)→∀ d∈wro l,d<n
 | [],_,d,hd=>by cases hd
 | o::l,h,d,hd=>by
  rw[wro_cons]at hd
  have ho:=(xq (h o (by simp))).2.1
  have ih:=wro_ok l (fun x hx=>h x (List.mem_cons_of_mem _ hx)) d
  cases hdst:o.dst with
  | none=>rw[hdst]at hd; exact ih hd
  | some x=>
   rw[hdst]at hd
   rcases List.mem_cons.1 hd with rfl | hd
   ·exact ho _ hdst
   ·exact ih hd
theorem okC_region {n id:Nat} {ops:Array Oper} {dr:Bool} (h:okC n (.region id ops dr)=true):∀ o∈ops.toList,okP n ops o=true:=List.all_eq_true.1 (show ops.toList.all (okP n ops)=true from h)
theorem okC_seq {n:Nat} {a b:Code} (h:okC n (.seq a b)=true):okC n a=true∧okC n b=true:=by
 have h':(okC n a && okC n b)=true:=h
 simpa using h'
theorem okC_cond {n:Nat} {c:Operand} {a b:Code} (h:okC n (.cond c a b)=true):okO n c=true∧okC n a=true∧okC n b=true:=by
 have h':(okO n c && okC n a && okC n b)=true:=h
 simpa [and_assoc]using h'
theorem okC_rf {n:Nat} {f:Operand} {ps:Array Tmp} {a b:Code} (h:okC n (.rangeFunc f ps a b)=true):okO n f=true∧(∀ p∈ps.toList,p<n)∧okC n a=true∧okC n b=true:=by
 have h':(okO n f && ps.toList.all (Nat.blt · n) && okC n a && okC n b)=true:=h
 simp only[Bool.and_eq_true]at h'
 exact⟨h'.1.1.1,fun p hp=>jI (List.all_eq_true.1 h'.1.1.2 p hp),h'.1.2,h'.2⟩
theorem wrC_lt {n:Nat} : ∀ (c:Code),okC n c=true→∀ d∈wrC c,d<n∨d=1000:=by
 intro c
 induction c with
 | region id ops dr=>exact fun h d hd=>.inl (wro_ok _ (okC_region h) d hd)
 | seq a b iha ihb=>
  intro h d hd
  obtain⟨h1,h2⟩:=okC_seq h
  have hd':d∈app (wrC a) (wrC b):=hd
  rw[ko,List.mem_append]at hd'
  exact hd'.elim (iha h1 d) (ihb h2 d)
 | cond c a b iha ihb=>
  intro h d hd
  obtain⟨_,h1,h2⟩:=okC_cond h
  have hd':d∈app (wrC a) (wrC b):=hd
  rw[ko,List.mem_append]at hd'
  exact hd'.elim (iha h1 d) (ihb h2 d)
 | block id c ih=>exact fun h d hd=>ih h d hd
 | loop c ih=>exact fun h d hd=>ih h d hd
 | rangeFunc f ps a b _ _=>exact fun h d hd=>.inr (by simpa using (show d∈[1000]from hd))
 | scope c ih=>exact fun h d hd=>ih h d hd
 | _=>exact fun h d hd=>by cases(show d∈[]from hd)
theorem fgt_law {K:L3→Ev.R} {z:List (AV×H)} : ∀ (l:List Nat) (τ:L3),(∀ d∈l,d<512)→fgt l τ K=some z→∃ τ',K τ'=some z∧∀ j,j<512→(q3 j).g τ'=if j∈l then .u else (q3 j).g τ
 | [],τ,_,hh=>⟨τ,hh,fun j _=>by simp⟩
 | d::l,τ,hl,hh=>by
  obtain⟨τ1,h1,h2⟩:=q3_set τ .u (hl d (by simp))
  have hh':((q3 d).s τ .u fun τ=>fgt l τ K)=some z:=hh
  rw[h1]at hh'
  obtain⟨τ2,k1,k2⟩:=fgt_law l τ1 (fun x hx=>hl x (List.mem_cons_of_mem _ hx)) hh'
  refine⟨τ2,k1,fun j hj=>?_⟩
  rw[k2 j hj]
  by_cases c1:j∈l
  ·simp[c1]
  ·rw[if_neg c1,h2 j hj]
   by_cases c2:j=d
   ·simp[c2]
   ·simp[c1,c2]
theorem entE_map {g:L3→H→KC→Ev.R} {τ:L3} {h:H} {id mid:Nat} : ∀ (l:List (AV×AV)) (r:List ((AV×AV)×Bool)),entE g τ h id mid l=some r→r.map (·.1)=l
 | [],r,hh=>by
  have:some []=some r:=hh
  cases this; rfl
 | e::l,r,hh=>by
  have hh':obn (jF h id (.o (.q mid e.1 e.2)) fun h=>jF h mid (.o .h) fun h=>g τ h fun ex _ h=>blkO h mid _) (fun rs=>(List.rec (motive:=fun _=>Option (List ((AV×AV)×Bool))) none (fun r _ _=>asB r.1 fun gone=>obn (entE g τ _ id mid l) fun m=>some ((e,Bool.rec (motive:=fun _=>Bool) true false gone)::m)) rs:Option (List ((AV×AV)×Bool))))=some r:=hh
  obtain⟨rs,h1,hh⟩:=zO hh'
  cases rs with
  | nil=>cases hh
  | cons x rs=>
   obtain⟨gone,h2,hh⟩:=asB_law hh
   obtain⟨m,h3,hh⟩:=zO hh
   cases hh
   have:=entE_map l m h3
   simp[this]
theorem leftJ_start:∀ (es:List MapEntry) (ks:List Bool),es.length=ks.length→jy #[] (es.zip ks)=es
 | [],[],_=>rfl
 | x::es,k::ks,h=>by
  rw[List.zip_cons_cons,kU,if_pos (by simp),leftJ_start es ks (by simpa using h)]
 | [],_::_,h=>by simp at h
 | _::_,[],h=>by simp at h
theorem old_le {es:List MapEntry} {since g:Nat} {seen:Array Nat} (h:Old es since seen g):g≤es.length:=by
 obtain⟨_,h2,h3,h4⟩:=h
 have:=List.Nodup.length_le_of_subset h2 h3
 simpa [h4]using this
theorem set_same {l:List Bool} {j:Nat} {b:Bool} (h:l[j]? = some b):l.set j b=l:=by
 apply List.ext_getElem?
 intro i
 rw[List.getElem?_set]
 by_cases c:j=i
 ·subst c; rw[if_pos rfl,h]; split<;>simp_all
 ·rw[if_neg c]
end Go.Ev
end
section
set_option linter.unusedVariables false
set_option linter.unusedSimpArgs false
set_option linter.constructorNameAsVariable false
namespace Go.Ev
open Go.Lw Go.RowKit
structure MJ (e:Env) (h:H) (id mid:Nat) (l:List (AV×AV)) (r:List ((AV×AV)×Bool)) (x:Nat) (hJ:H):Prop where
 nxt:hJ.nxt=h.nxt
 lo:hJ.lo=h.nxt
 ac:hJ.ac=(id+1,mid+1)
 get:∀ j,j<32768→hget hJ j=if j=mid then .o .h else if j=id then .o (.j mid r x)else hget h j
 hd:e.dom id
 hm:e.dom mid
 ne:mid≠id
 hb:hget h id=.o (.i mid l)
 hbm:hget h mid=.o .h
 map:r.map (·.1)=l
 lo1:h.lo≤id
 lo2:h.lo≤mid
theorem rndJ_law {id lo:Nat} {h:H} {z:List (AV×H)} (hh:rndJ id lo h=some z):∃ m key v l keep y key2 gone L,hget h id=.o (.k m key v l keep y false)∧hget h m=.o (.g key2 gone L)∧xor gone keep=true∧h.lo=lo:=by
 obtain⟨b,hb,hh⟩:=jg hh
 cases b with
 | k m key v l keep y cur=>
  obtain⟨b2,hb2,hh⟩:=jg hh
  cases b2 with
  | g key2 gone L=>
   obtain⟨g1,_⟩:=zw hh
   simp only[Bool.and_eq_true,Bool.not_eq_true']at g1
   obtain⟨⟨g2,g3⟩,g4⟩:=g1
   subst g3
   exact⟨m,key,v,l,keep,y,key2,gone,L,hb,hb2,g2,Nat.eq_of_beq_eq_true g4⟩
  | _=>cases hh
 | _=>cases hh
section
variable {w0:World} {e e':Env} {h h' hJ:H} {w w':World} {id mid s x:Nat} {l:List (AV×AV)} {r:List ((AV×AV)×Bool)}
theorem MJ.gid (C:MJ e h id mid l r x hJ) (hi:id<32768):hget hJ id=.o (.j mid r x):=by rw[C.get id hi,if_neg (fun k=>C.ne k.symm),if_pos rfl]
theorem MJ.gmid (C:MJ e h id mid l r x hJ) (hi:mid<32768):hget hJ mid=.o .h:=by rw[C.get mid hi,if_pos rfl]
theorem MJ.goth (C:MJ e h id mid l r x hJ) {j:Nat} (hj:j<32768) (h1:j≠id) (h2:j≠mid):hget hJ j=hget h j:=by rw[C.get j hj,if_neg h2,if_neg h1]
theorem MJ.nact (C:MJ e h id mid l r x hJ) {j:Nat} (h1:j≠id) (h2:j≠mid):¬ hJ.act j:=by
 unfold H.act
 rw[C.ac]
 simp only
 omega
theorem round_back (C:MJ e h id mid l r x hJ) (Rp:zG w0 (e.ji id s) hJ w) (F:Fr (e.ji id s) hJ e' h') (R':zG w0 e' h' w') {z:List (AV×H)} (hk:rndJ id h.nxt h'=some z):zG w0 (e.ji id (s+1)) hJ w'∧s+1≤l.length:=by
 obtain⟨m,key,v,l2,keep,y,key2,gone2,L2,k1,k2,k3,k4⟩:=rndJ_law hk
 have hi:=Rp.zY C.hd
 have him:=Rp.zY C.hm
 have lti:=Rp.lt id C.hd
 have ltm:=Rp.lt mid C.hm
 have gid:=C.gid hi
 have gmid:=C.gmid him
 have top:=Rp.top
 -- the iterator is the same one
 have kp:=F.kp id lti
 rw[gid,k1]at kp
 have same:m=mid∧l2=r∧y=x:=by
  rcases kp with q | q | ⟨a,b,c,d,q⟩
  ·cases q
  ·cases q
  ·cases q; exact⟨rfl,rfl,rfl⟩
 obtain⟨rfl,rfl,rfl⟩:=same
 have hl:h'.lo=hJ.lo:=by rw[k4,C.lo]
 have oth:∀ j,e.dom j→j≠id→j≠m→hget h' j=hget hJ j:=fun j hj c1 c2=>by
  have:=Rp.lt j hj
  exact F.prot j this (by rw[hl,C.lo,←C.nxt]; exact this) (C.nact c1 c2)
 have ok':=R'.ok id (F.ext.dom id C.hd)
 rw[k1]at ok'
 obtain⟨a1,gone,L,a2,es,c,since,seen,j,en,a3,a4,⟨a5,a6,a7⟩,a8,a9,a10,a11⟩:=ok'
 rw[k2]at a2
 have e1:key2=key∧gone2=gone∧L2=L:=by injection a2 with a2; injection a2 with x y z; exact⟨x,y,z⟩
 obtain⟨rfl,rfl,rfl⟩:=e1
 have hkeep:(!gone2)=keep:=by cases gone2<;>cases keep<;>simp_all
 have hset:(l2.map (·.2)).set j (!gone2)=l2.map (·.2):=set_same (by rw[List.getElem?_map,a4,hkeep]; rfl)
 rw[hset]at a5
 have okp:=Rp.ok id C.hd
 rw[gid]at okp
 obtain⟨b1,b2,esp,cp,sincep,seenp,_,b8,_,_⟩:=okp
 have xs:e'.gh id=s:=(F.ext.gh id C.hd).trans kW
 have hM:MOk e (l2.map (·.1)) es c:=by
  have:=b8.back F.ext a8
  rw[MOk_gh]at this; exact this
 have hlen:es.length=l.length:=by rw[←C.map]; exact hM.1.length.symm
 have hold:Old es since (seen.push en.born) (s+1):=by rw[←xs]; exact a9
 refine⟨⟨R'.below,Rp.top,Rp.lt,fun q hq=>?_,fun q hq hin=>?_,Rp.inj,Rp.none,Rp.uniq⟩,by rw[←hlen]; exact old_le hold⟩
 ·by_cases c1:q=id
  ·subst c1
   rw[gid]
   refine⟨C.hm,gmid,es,c,since,seen.push en.born,⟨?_,?_,a7⟩,by rw[MOk_gh]; exact hM,by rw[kW]; exact hold,a10,a11 rfl⟩
   ·have x1:e'.blk m=e.blk m:=F.ext.blk m C.hm
    show w'.heap[e.blk m]? = _
    rw[←x1]; exact a5
   ·have x1:=F.ext.blk m C.hm
    have x2:=F.ext.blk q C.hd
    show w'.heap[e.blk q]? = some (.mapIter (some (e.blk m)) since (seen.push en.born) c)
    rw[show e.blk q=e'.blk q from x2.symm,show e.blk m=e'.blk m from x1.symm]; exact a6
  ·by_cases c2:q=m
   ·subst c2; rw[gmid]; trivial
   ·have hq':=oth q hq c1 c2
    have kk:=Rp.ok q hq
    have kk':=R'.ok q (F.ext.dom q hq)
    rw[hq']at kk'
    have:=BOk.back (e:=e.ji id s) (h:=hJ) (h':=h') (w:=w) (w':=w') hq F.ext (fun x hx hh=>?_) kk kk'
    ·rw[BOk_gh c1]at this⊢; exact this
    ·cases hg:hget hJ x with
     | o g=>
      refine⟨g,rfl,fun k y z hz=>?_⟩
      subst hz
      have dx:=(Rp.refs hq hx).1
      have:=oth x dx (fun k=>by subst k; rw[gid]at hg; cases hg) (fun k=>by subst k; rw[gmid]at hg; cases hg)
      rw[this,hg]
     | _=>rw[hg]at hh; exact hh.elim
 ·have key:inB (hget h' q):=by
   by_cases c1:q=id
   ·subst c1; rw[k1]; trivial
   ·by_cases c2:q=m
    ·subst c2; rw[k2]; trivial
    ·rw[oth q hq c1 c2]; exact hin
  have:=R'.low q (F.ext.dom q hq) key
  rw[F.ext.blk q hq]at this
  exact this
theorem outJ_le (lo' lh:Nat):outJ lo' lh≤lo'∧outJ lo' lh≤lh:=by
 unfold outJ
 cases hb:Nat.ble lo' lh with
 | true=>have:=Nat.le_of_ble_eq_true hb; simp[this]
 | false=>
  have h:¬ lo'≤lh:=fun k=>by rw[Nat.ble_eq_true_of_le k]at hb; cases hb
  simp only[cond_false]; omega
theorem loop_left (C:MJ e h id mid l r x hJ) (R:zG w0 e h w) (F:Fr (e.ji id s) hJ e' h') (R':zG w0 e' h' w') {h1:H} (P:Put (.mk h'.nxt (outJ h.lo h'.lo) h.ac h'.t) id (.o .z) h1) :
  zG w0 (e'.ji id (e.gh id)) h1 w'∧Fr e h (e'.ji id (e.gh id)) h1:=by
 have hi:=R.zY C.hd
 have him:=R.zY C.hm
 have lti:id<hJ.nxt:=by rw[C.nxt]; exact R.lt id C.hd
 have gid:=C.gid hi
 have gmid:=C.gmid him
 have top:=R.top
 have hd':=F.ext.dom id C.hd
 have kp:=F.kp id lti
 rw[gid]at kp
 have hin:inB (hget h' id):=by rcases kp with q | q | ⟨a,b,c,d,q⟩<;>rw[q]<;>trivial
 have hnh:¬ hidK (hget h' id):=by rcases kp with q | q | ⟨a,b,c,d,q⟩<;>rw[q]<;>exact fun k=>k
 have R1:zG w0 e' (.mk h'.nxt (outJ h.lo h'.lo) h.ac h'.t) w':=R'.same rfl fun _ _=>rfl
 have R2:zG w0 e' h1 w':=R1.put P hd' hin hnh (World.grownBy.refl _ _) trivial
 have R3:zG w0 (e'.ji id (e.gh id)) h1 w':=R2.regh fun _=>by rw[P.get id hi,if_pos rfl]; trivial
 have gd:∀ j,j<32768→j≠id→hget h1 j=hget h' j:=fun j hj c=>by rw[P.get j hj,if_neg c]; rfl
 have xx:Ext e (e'.ji id (e.gh id)):=⟨F.ext.dom,F.ext.blk,F.ext.cap,F.ext.clo,fun j hj=>by
  by_cases c:j=id
  ·subst c; rw[kW]
  ·rw[setG_ne c,F.ext.gh j hj,setG_ne c]⟩
 refine⟨R3,xx,?_,?_,P.ac,fun j hj=>?_,fun j hj hnd=>?_,fun j hn hlt hna=>?_,fun j hn=>?_⟩
 ·have:=F.nxt
  rw[C.nxt]at this
  rw[P.nxt]; exact this
 ·rw[P.lo]; exact(outJ_le _ _).1
 ·rcases F.new j hj with k | k
  ·exact .inl k
  ·rw[C.nxt]at k; exact .inr k
 ·have c1:j≠id:=fun k=>hnd (k▸C.hd)
  have c2:j≠mid:=fun k=>hnd (k▸C.hm)
  rw[gd j (by omega) c1,F.out j (by rw[C.nxt]; exact hj) hnd,C.goth (by omega) c1 c2]
 ·have l1:h1.lo=outJ h.lo h'.lo:=P.lo
  have l2:=outJ_le h.lo h'.lo
  have c1:j≠id:=fun k=>by have:=C.lo1; omega
  have c2:j≠mid:=fun k=>by have:=C.lo2; omega
  rw[gd j (by omega) c1,F.prot j (by rw[C.nxt]; exact hn) (by omega) (C.nact c1 c2),C.goth (by omega) c1 c2]
 ·by_cases c1:j=id
  ·subst c1; rw[C.hb]; trivial
  ·by_cases c2:j=mid
   ·subst c2; rw[C.hbm]; trivial
   ·have:=F.kp j (by rw[C.nxt]; exact hn)
    rw[C.goth (by omega) c1 c2]at this
    rw[gd j (by omega) c1]; exact this
end
end Go.Ev
end
section
set_option linter.unusedVariables false
set_option linter.unusedSimpArgs false
set_option linter.constructorNameAsVariable false
namespace Go.Ev
open Go.Lw Go.RowKit
section
variable {w0:World} {e:Env} {h hJ:H} {w:World} {id mid s n N x:Nat} {ro:Option Nat} {l:List (AV×AV)} {r:List ((AV×AV)×Bool)}
theorem MJ.dfs (C:MJ e h id mid l r x hJ) {ds:List Deferred} (R:zG w0 e h w) (D:Dfs N e h ds):Dfs N (e.ji id s) hJ ds:=by
 obtain⟨h0,ids,h1,h2,h3⟩:=D
 refine⟨by rw[C.nxt]; exact h0,ids,h1,h2,fun i hi=>?_⟩
 obtain⟨k1,k2,k3,k4⟩:=h3 i hi
 have c1:i≠id:=fun k=>by subst k; rw[C.hb]at k3; cases k3
 have c2:i≠mid:=fun k=>by subst k; rw[C.hbm]at k3; cases k3
 exact⟨k1,k2,by rw[C.goth (R.zY k2) c1 c2]; exact k3,by rw[setG_ne c1]; exact k4⟩
theorem MJ.roOk (C:MJ e h id mid l r x hJ) (R:zG w0 e h w) (D:RoOk e h ro):RoOk (e.ji id s) hJ ro:=fun y hx=>by
 obtain⟨i,bz,ps,a,b,t,h1,h2,h3⟩:=D y hx
 have c1:i≠id:=fun k=>by subst k; rw[C.hb]at h3; cases h3
 have c2:i≠mid:=fun k=>by subst k; rw[C.hbm]at h3; cases h3
 exact⟨i,bz,ps,a,b,t,h1,h2,by rw[C.goth (R.zY h1) c1 c2]; exact h3⟩
theorem MJ.start (C:MJ e h id mid l r x hJ) (R:zG w0 e h w) (hdst:dstK l=true):zG w0 (e.ji id 0) hJ w:=by
 have hi:=R.zY C.hd
 have him:=R.zY C.hm
 have ok:=R.ok id C.hd
 rw[C.hb]at ok
 obtain⟨_,_,es,c,⟨i1,i2,i3⟩,hM⟩:=ok
 have hlen:es.length=(r.map (·.2)).length:=by rw[←hM.1.length,←C.map]; simp
 have R2:zG w0 (e.ji id 0) h w:=R.regh fun _=>by
  rw[C.hb]
  exact⟨C.hm,C.hbm,es,c,⟨i1,i2,i3⟩,by rw[MOk_gh]; exact hM⟩
 obtain⟨h1,P⟩:=put_ex h (.o (.j mid r x)) hi
 have R3:zG w0 (e.ji id 0) h1 w:=R2.put P C.hd (by rw[C.hb]; trivial) (by rw[C.hb]; exact fun k=>k) (World.grownBy.refl _ _)
  ⟨C.hm,by rw[P.get mid him,if_neg C.ne]; exact C.hbm,es,c,c,#[],⟨by rw[leftJ_start es _ hlen]; exact i1,i2,i3⟩,by rw[MOk_gh,C.map]; exact hM,⟨hM.2.2,by simp,fun b hb=>by simp at hb,by rw[kW]; rfl⟩,by rw[C.map]; exact hdst,fun i en _ _=>by simp⟩
  (fun m hm=>by rw[C.hb]; exact hm)
 refine R3.same (by rw[C.nxt,P.nxt]) fun j hj=>?_
 rw[C.get j hj,P.get j hj]
 by_cases c1:j=mid
 ·subst c1; rw[if_pos rfl,if_neg C.ne,C.hbm]
 ·rw[if_neg c1]
end
theorem map_loop {w0:World} {ro:Option Nat} {n N t:Nat} {g:L3→H→KC→Ev.R} {ws:List Nat} {c:Code} {y:Bool} (ha:CS w0 ro n N g ws c) (ht:t<n) (hws:∀ d∈ws,d<n∨d=1000):CS w0 ro n N (fun τ h K=>mapLoop t ws y g τ h K) ws (.loop c):=fun {e τ h K z a w Q} hh F R D Ro hQ=>by
 obtain⟨id,off,hid,hh⟩:=jP hh
 obtain⟨g1,hh⟩:=zw hh
 simp only[Bool.and_eq_true,Bool.not_eq_true']at g1
 obtain⟨⟨⟨g1a,g1b⟩,g1c⟩,g1d⟩:=g1
 obtain⟨b,hb,hh⟩:=jg hh
 have htn:t<a.tmps.size:=by rw[F.1]; exact ht
 have hd:e.dom id:=by
  have:=F.2.2 t _ (Array.getElem?_eq_getElem htn) (fun k=>k)
  rw[hid]at this; exact this.1
 have h512:∀ d∈ws,d<512:=fun d hd=>by
  rcases hws d hd with k | k
  ·exact Nat.lt_of_lt_of_le k F.2.1
  ·subst k; simp at g1c; exact absurd hd g1c
 have n1000:1000∉ws:=by simpa using g1c
 cases b with
 | i mid l=>
  obtain⟨g2,hh⟩:=zw hh
  simp only[Bool.and_eq_true]at g2
  rw[shut_eq]at hh
  obtain⟨τf,hh,hf⟩:=fgt_law ws τ h512 hh
  obtain⟨r,hr,hh⟩:=zO hh
  have hi:=R.zY hd
  have ok:=R.ok id hd
  rw[hb]at ok
  obtain⟨hm,hbm,_⟩:=ok
  have him:=R.zY hm
  obtain⟨hA,P1,hh⟩:=jl hh hi
  obtain⟨hJ,P2,hh⟩:=jl hh him
  have hmi:mid≠id:=fun k=>by rw[k,hb]at hbm; cases hbm
  have C:MJ e h id mid l r _ hJ:=⟨by rw[P2.nxt,P1.nxt],by rw[P2.lo,P1.lo],by rw[P2.ac,P1.ac],fun j hj=>by
   rw[P2.get j hj,P1.get j hj]; rfl,hd,hm,hmi,hb,hbm,entE_map l r hr,Nat.le_of_ble_eq_true g1d,Nat.le_of_ble_eq_true g2.1⟩
  have F0:jc e n noZ τf a.tmps:=⟨F.1,F.2.1,fun x v hv hz=>by
   have hx:x<n:=by rw[←F.1]; exact(Array.getElem?_eq_some_iff.1 hv).1
   rw[hf x (Nat.lt_of_lt_of_le hx F.2.1)]
   by_cases c1:x∈ws
   ·rw[if_pos c1]; trivial
   ·rw[if_neg c1]; exact F.2.2 x v hv hz⟩
  refine Go.Lw.wpIn_loop_ghost (fun(s:Nat) a' w'=>s≤l.length∧jc e n noZ τf a'.tmps∧zG w0 (e.ji id s) hJ w'∧a'.defers=a.defers) (fun s=>l.length-s) (fun s a1 w1 hI=>?_) 0 a w ⟨Nat.zero_le _,F0,C.start R g2.2,rfl⟩
  obtain⟨i1,i2,i3,i4⟩:=hI
  refine ha hh (e:=e.ji id s) (a:=a1) (w:=w1) (by rw[FRel_gh]; exact i2) i3 (by rw[i4]; exact C.dfs R D) (C.roOk R Ro) fun ex a2 w2 o=>?_
  obtain⟨x,e',τ',h',z',rfl,hk,F',R',Fr',D',ad,ag⟩:=o
  have dsd:a2.defers=a.defers:=(ad n1000).trans i4
  have left:∀ {x:Ex} {hL:H},Put (.mk h'.nxt (outJ h.lo h'.lo) h.ac h'.t) id (.o .z) hL→K x τ' hL=some z'→OutC w0 n N e h τ ws a.defers K (exE x) a2 w2:=fun {x hL} P hk=>by
   obtain⟨l1,l2⟩:=loop_left C R Fr' R' P
   refine⟨x,e'.ji id (e.gh id),τ',hL,z',rfl,hk,by rw[FRel_gh]; exact F',l1,l2,by rw[dsd]; exact D.keep l2 R,fun _=>dsd,fun q hq hn=>?_⟩
   rw[ag q hq hn,hf q hq,if_neg hn]
  cases x with
  | n=>
   obtain⟨k1,k2⟩:=round_back C i3 Fr' R' hk
   refine⟨s+1,⟨k2,⟨F'.1,F'.2.1,fun q v hv hz=>?_⟩,k1,dsd⟩,by omega⟩
   have hq:q<n:=by rw[←F'.1]; exact(Array.getElem?_eq_some_iff.1 hv).1
   have hq5:=Nat.lt_of_lt_of_le hq F'.2.1
   by_cases c1:q∈ws
   ·rw[hf q hq5,if_pos c1]; trivial
   ·have h1:=F'.2.2 q v hv hz
    rw[ag q hq5 c1]at h1
    have hqa:q<a1.tmps.size:=by rw[i2.1]; exact hq
    have h2:=i2.2.2 q _ (Array.getElem?_eq_getElem hqa) hz
    rw[←Dn_gh (i:=id) (s:=s)]at h2⊢
    exact h2.back Fr'.ext h1
  | x i=>
   have hk':(setLo h' (outJ h.lo) h.ac fun h'=>jF h' id (.o .z) fun h'=>K (.x i) τ' h')=some z':=hk
   rw[setLo_eq]at hk'
   obtain⟨hL,P,hk2⟩:=jl hk' hi
   exact hQ _ _ _ (left (x:=.x i) P hk2)
  | r=>
   have hk':(setLo h' (outJ h.lo) h.ac fun h'=>jF h' id (.o .z) fun h'=>K .r τ' h')=some z':=hk
   rw[setLo_eq]at hk'
   obtain⟨hL,P,hk2⟩:=jl hk' hi
   exact hQ _ _ _ (left (x:=.r) P hk2)
 | _=>cases hh
theorem mrC_law {c:Code} {t n:Nat} (h:mrC c=some t) (ok:okC n c=true):t<n:=by
 unfold mrC at h
 split at h
 ·rename_i id ops dr b
  split at h
  ·rename_i o l hl
   split at h
   ·rename_i t' ho
    have ok1:=okC_region (okC_seq ok).1 o (by rw[hl]; simp)
    have:=(xq ok1).1 (.tmp t') (by rw[ho]; simp[Op.operands])
    cases hd:(bif delC _ || yldC _ then some t' else none)with
    | none=>rw[hd]at h; cases h
    | some q=>
     rw[hd]at h
     cases hc:(delC (Code.seq (Code.region id ops dr) b) || yldC (Code.seq (Code.region id ops dr) b))with
     | false=>rw[hc]at hd; cases hd
     | true=>
      rw[hc]at hd
      simp only[cond_true,Option.some.injEq]at hd h
      subst hd; subst h
      exact jI this
   ·cases h
  ·cases h
 ·cases h
theorem code_law {w0:World} {ih:IH} (FO:FnOk w0 ih) (YO:YdOk w0 ih) (k:Nat) (ro:Option Nat) (n N:Nat):∀ (c:Code),okC n c=true→CS w0 ro n N ((codeE c).g ih k) (wrC c) c:=by
 intro c
 induction c with
 | skip=>exact fun _=>skip_law
 | region id ops dr=>exact fun h=>region_law (w_ok FO YO) (okC_region h)
 | seq a b iha ihb=>exact fun h=>seq_law (iha (okC_seq h).1) (ihb (okC_seq h).2)
 | cond x a b iha ihb=>
  intro h
  obtain⟨h1,h2,h3⟩:=okC_cond h
  intro e τ hh K z a1 w Q hk F R D Ro hQ
  refine cond_law h1 (iha h2) (ihb h3) (z:=z) ?_ F R D Ro hQ
  obtain⟨q,q1,q2⟩:=asB_law (show(asB ((evO x).v τ) fun q=>Bool.rec (motive:=fun _=>IH→Nat→L3→H→KC→Ev.R) (fun ih n τ h K=>(codeE b).g ih n τ h K) (fun ih n τ h K=>(codeE a).g ih n τ h K) q ih k τ hh K)=some z from hk)
  show(asB ((evO x).v τ) _)=some z
  rw[q1]
  cases q<;>exact q2
 | block id c ih1=>exact fun h=>block_law (ih1 h)
 | loop c ih1=>
  intro h
  cases hm:mrC c with
  | none=>
   have this:CS w0 ro n N (fun τ h K=>loopE k ((codeE c).g ih k) τ h K) (wrC c) (.loop c):=loop_law (ih1 h) k
   intro e τ hh K z a1 w Q hk
   refine this (z:=z) ?_
   have hk':(Option.rec (motive:=fun _=>Ce) (.mk fun ih n τ h K=>loopE n ((codeE c).g ih n) τ h K) (fun t=>.mk fun ih n τ h K=>mapLoop t (wrC c) (yldC c) ((codeE c).g ih n) τ h K) (mrC c):Ce).g ih k τ hh K=some z:=hk
   rw[hm]at hk'; exact hk'
  | some t=>
   have this:CS w0 ro n N (fun τ h K=>mapLoop t (wrC c) (yldC c) ((codeE c).g ih k) τ h K) (wrC c) (.loop c):=map_loop (ih1 h) (mrC_law hm h) (wrC_lt c h)
   intro e τ hh K z a1 w Q hk
   refine this (z:=z) ?_
   have hk':(Option.rec (motive:=fun _=>Ce) (.mk fun ih n τ h K=>loopE n ((codeE c).g ih n) τ h K) (fun t=>.mk fun ih n τ h K=>mapLoop t (wrC c) (yldC c) ((codeE c).g ih n) τ h K) (mrC c):Ce).g ih k τ hh K=some z:=hk
   rw[hm]at hk'; exact hk'
 | rangeFunc f ps a b _ _=>
  intro h
  obtain⟨h1,h2,h3,h4⟩:=okC_rf h
  exact range_func FO h1 h2 h3 h4
 | exit id=>exact fun _=>exit_law
 | scope c ih1=>exact fun h=>scope_law (ih1 h)
 | label l=>exact fun _=>label_law
 | goto l=>exact fun _ {e τ h K z a w Q} hh=>by cases hh
 | ret=>exact fun _=>ret_law
 | refuse why=>exact fun _ {e τ h K z a w Q} hh=>by cases hh
end Go.Ev
end
section
set_option linter.unusedVariables false
set_option linter.unusedSimpArgs false
set_option linter.constructorNameAsVariable false
namespace Go.Ev
open Go.Lw Go.RowKit
def resF (tmps:Array Value) (r:ResultVar):Sem Value:=match r with
 | .tmp t=>pure (tmps.getD t undef)
 | .cell a t=>do loadVar t (←asAddr (tmps.getD a undef))
theorem results_eq (fn:Func) (tmps:Array Value):results fn tmps=(do
 let vs ←fn.results.mapM (resF tmps)
 pure (if h:vs.size=1 then vs[0]else .tuple vs)):=rfl
section
variable {w0:World} {e:Env} {h:H} {w:World} {n:Nat} {τ:L3} {tmps:Array Value}
theorem load_var {T:TypeId} {u q:Value} (hh:(Instr.loadAt T u).run Pr w=.ok q w):(do loadVar T (←asAddr u):Sem Value).run Pr w=.ok q w:=by
 unfold Instr.loadAt at hh
 cases u with
 | pointer p=>
  cases p with
  | none=>simp[Instr.sureAddr,stuck,Sem.run_bind]at hh
  | some a=>simpa [Instr.sureAddr,asAddr]using hh
 | _=>simp[Instr.sureAddr,stuck,Sem.run_bind]at hh
theorem resE_law (F:jc e n noZ τ tmps) (R:zG w0 e h w):∀ {l:List ResultVar} {K:List AV→Ev.R} {z:List (AV×H)},resE l τ h K=some z→(∀ r∈l,okR n r=true)→∃ xs us,K xs=some z∧zN (Dn e) xs us∧(l.mapM (resF tmps)).run Pr w=.ok us w
 | [],K,z,hh,_=>⟨[],[],hh,trivial,rfl⟩
 | .tmp t::l,K,z,hh,hn=>by
  have hh':(frc ((q3 t).g τ) fun v=>resE l τ h fun r=>K (v::r))=some z:=hh
  rw[xy]at hh'
  obtain⟨xs,us,h1,h2,h3⟩:=resE_law F R hh' fun r hr=>hn r (List.mem_cons_of_mem _ hr)
  have ht:t<n:=jI (hn _ List.mem_cons_self)
  have hts:t<tmps.size:=by rw[F.1]; exact ht
  refine⟨_::xs,tmps.getD t undef::us,h1,⟨F.2.2 t _ (by simp[hts]) (fun k=>k),h2⟩,?_⟩
  simp only[List.mapM_cons,Sem.run_bind,resF,Sem.run_pure,Result.andThen_ok,h3]
 | .cell t T::l,K,z,hh,hn=>by
  have hh':(obn ((loadE T).g ((q3 t).g τ) h) fun v=>resE l τ h fun r=>K (v::r))=some z:=hh
  obtain⟨x,hx,hh'⟩:=zO hh'
  obtain⟨xs,us,h1,h2,h3⟩:=resE_law F R hh' fun r hr=>hn r (List.mem_cons_of_mem _ hr)
  have ht:t<n:=jI (hn _ List.mem_cons_self)
  have hts:t<tmps.size:=by rw[F.1]; exact ht
  obtain⟨q,k1,k2⟩:=load_law R hx (F.2.2 t (tmps.getD t undef) (by simp[hts]) (fun k=>k))
  refine⟨x::xs,q::us,h1,⟨k1,h2⟩,?_⟩
  have k3:=load_var k2
  simp only[List.mapM_cons,Sem.run_bind,resF,Sem.run_pure,Result.andThen_ok]at k3⊢
  rw[k3]
  simp only[Result.andThen_ok,h3]
theorem sums_law:∀ {l:List AV} {us:List Value} {K:List (Sc ⊕ List Sc)→Ev.R} {z:List (AV×H)},sums l K=some z→zN (Dn e) l us→∃ ss,K ss=some z∧zN (DnT e) ss us
 | [],us,K,z,hh,ha=>by
  cases us with
  | nil=>exact⟨[],hh,trivial⟩
  | cons=>exact ha.elim
 | v::l,us,K,z,hh,ha=>by
  cases us with
  | nil=>exact ha.elim
  | cons u us=>
   have hh':(toSum v fun s=>sums l fun r=>K (s::r))=some z:=hh
   obtain⟨s,h1,h2⟩:=toSum_dn hh' ha.1
   obtain⟨ss,h3,h4⟩:=sums_law h2 ha.2
   exact⟨s::ss,h3,h1,h4⟩
theorem one_law:∀ {l:List AV} {us:List Value} {K:AV→Ev.R} {z:List (AV×H)},one l K=some z→zN (Dn e) l us→∃ x,K x=some z∧Dn e x (if h:(us.toArray).size=1 then us.toArray[0]else .tuple us.toArray)
 | [],us,K,z,hh,ha=>by
  cases us with
  | nil=>exact⟨.t [],hh,[],rfl,trivial⟩
  | cons=>exact ha.elim
 | [v],us,K,z,hh,ha=>by
  cases us with
  | nil=>exact ha.elim
  | cons u us=>
   cases us with
   | cons=>exact ha.2.elim
   | nil=>exact⟨v,hh,ha.1⟩
 | v::x::r,us,K,z,hh,ha=>by
  have hh':(sums (v::x::r) fun l=>K (.t l))=some z:=hh
  obtain⟨ss,h3,h4⟩:=sums_law hh' ha
  refine⟨.t ss,h3,?_⟩
  have:¬ us.toArray.size=1:=by have:=ha.length; simp at this⊢; omega
  rw[dif_neg this]
  exact⟨us,rfl,h4⟩
theorem ret_is {fn:Func} {K:KV} {z:List (AV×H)} (F:jc e n noZ τ tmps) (R:zG w0 e h w) (hh:retE fn.results.toList τ h K=some z) (hn:∀ r∈fn.results.toList,okR n r=true):∃ v x,(results fn tmps).run Pr w=.ok v w∧K x h=some z∧Dn e x v:=by
 obtain⟨xs,us,h1,h2,h3⟩:=resE_law F R hh hn
 obtain⟨x,h4,h5⟩:=one_law h1 h2
 refine⟨_,x,?_,h4,h5⟩
 rw[results_eq]
 have e1:fn.results=fn.results.toList.toArray:=by simp
 rw[e1,List.mapM_toArray]
 simp only[Sem.run_bind,Sem.run_map,h3,Result.andThen_ok,Sem.run_pure]
theorem setA_law {K:L3→Ev.R} {z:List (AV×H)} : ∀ {l:List AV} {t:L3} {i:Nat},setA l t i K=some z→i+l.length≤512→∃ t',K t'=some z∧(∀ j v,l[j]? = some v→(q3 (i+j)).g t'=v)∧∀ j,j<512→(j<i∨i+l.length≤j)→(q3 j).g t'=(q3 j).g t
 | [],t,i,hh,_=>⟨t,hh,fun j v hj=>by simp at hj,fun _ _ _=>rfl⟩
 | v::l,t,i,hh,hi=>by
  simp only[List.length_cons]at hi
  have hh':(nat i fun i=>(q3 i).s t v fun t=>setA l t (Nat.succ i) K)=some z:=hh
  rw[nat_eq]at hh'
  obtain⟨t1,h1,h2⟩:=q3_set t v (show i<512 by omega)
  rw[h1]at hh'
  obtain⟨t2,k1,k2,k3⟩:=setA_law hh' (by omega)
  refine⟨t2,k1,fun j u hj=>?_,fun j hj hc=>?_⟩
  ·cases j with
   | zero=>
    simp at hj; subst hj
    rw[k3 (i+0) (by omega) (by omega),h2 _ (by omega),if_pos (by omega)]
   | succ j=>
    have:=k2 j u (by simpa using hj)
    rw[show i+(j+1)=Nat.succ i+j by omega]; exact this
  ·simp only[List.length_cons]at hc
   rw[k3 j hj (by omega),h2 j hj,if_neg (by omega)]
theorem q1_e (j:Nat):(q1 j).g L1.e=.n:=by unfold q1; cases dg1 j<;>rfl
theorem q2_e (j:Nat):(q2 j).g L2.e=.n:=by unfold q2; cases dg2 j<;>exact q1_e j
theorem q3_e (j:Nat):(q3 j).g L3.e=.n:=by unfold q3; cases dg3 j<;>exact q2_e j
theorem zG.shutD (R:zG w0 e h w) {i:Nat} (hd:e.dom i) (hb:hget h i=.o .t):zG w0 (e.ji i 1) h (w.putObj (e.blk i) (.deferred Option.none)):=by
 have hi:=R.zY hd
 have R2:zG w0 (e.ji i 1) h w:=R.regh fun _=>by
  rw[hb]
  exact fun k=>by rw[kW]at k; cases k
 obtain⟨h1,P⟩:=put_ex h (.o .t) hi
 have R3:zG w0 (e.ji i 1) h1 (w.putObj (e.blk i) (.deferred Option.none)):=R2.put P hd (by rw[hb]; trivial) (by rw[hb]; exact fun k=>k) xk (fun k=>by rw[kW]at k; cases k)
 refine R3.same P.nxt.symm fun j hj=>?_
 rw[P.get j hj]
 by_cases c:j=i
 ·subst c; rw[if_pos rfl,hb]
 ·rw[if_neg c]
structure GhX (N:Nat) (e e':Env):Prop where
 dom:e'.dom=e.dom
 blk:e'.blk=e.blk
 cap:e'.cap=e.cap
 clo:e'.clo=e.clo
 gh:∀ j,j<N→e'.gh j=e.gh j
 dn:Dn e'=Dn e
 fr:jc e'=jc e
theorem leaves_law {fn:Func} {Rr:Ending→World→Prop} {u:FrameMode} (hu:u≠.run) {N:Nat} : ∀ (ids:List Nat) {e:Env} {w:World},zG w0 e h w→ids.Nodup→(∀ i∈ids,N≤i∧e.dom i∧hget h i=.o .t∧e.gh i=0)→
  (∀ e' w',zG w0 e' h w'→GhX N e e'→LeavesInM (FW none) 0 Pr fn tmps Rr [] u w')→LeavesInM (FW none) 0 Pr fn tmps Rr (ids.map fun i=>mkD (e.blk i)) u w
 | [],e,w,R,_,_,hk=>hk e w R ⟨rfl,rfl,rfl,rfl,fun _ _=>rfl,rfl,rfl⟩
 | i::ids,e,w,R,hn,hi,hk=>by
  obtain⟨k1,k2,k3,k4⟩:=hi i (by simp)
  have ok:=R.ok i k2
  rw[k3]at ok
  have hb:w.heap[e.blk i]? = some (.deferred (some [])):=ok k4
  refine⟨hu,.inl ⟨e.blk i,_,rfl,run_takeDeferred hb,?_⟩⟩
  have hn':=List.nodup_cons.1 hn
  exact leaves_law hu ids (e:=e.ji i 1) (R.shutD k2 k3) hn'.2 (fun j hj=>by
   obtain⟨m1,m2,m3,m4⟩:=hi j (List.mem_cons_of_mem _ hj)
   have hne:j≠i:=fun k=>hn'.1 (by rw[←k]; exact hj)
   exact⟨m1,m2,m3,by rw[setG_ne hne]; exact m4⟩) fun e' w' R' G=>hk e' w' R' ⟨G.dom,G.blk,G.cap,G.clo,fun j hj=>by rw[G.gh j hj,setG_ne (by omega)],by rw[G.dn,Dn_gh],by rw[G.fr,FRel_gh]⟩
end
end Go.Ev
end
section
set_option linter.unusedVariables false
set_option linter.unusedSimpArgs false
set_option linter.constructorNameAsVariable false
namespace Go.Ev
open Go.Lw Go.RowKit
def FOk (w0:World) (g:List AV→H→KV→Ev.R) (f:FuncId):Prop:=∀ {e:Env} {h:H} {K:KV} {z:List (AV×H)} {args:List AV} {us:List Value} {w:World},g args h K=some z→zN (Dn e) args us→zG w0 e h w→
 zy Pr f∧Calls Pr f ⟨us⟩ w fun en w'=>∃ v,en=.returned v∧Out w0 e h K v w'
section
variable {w0:World} {ih:IH}
theorem bod_law (iHo:IHOk w0 ih) {f:FuncId} {fn:Func} {c:Code} (hf:Pr.funcs[f]? = some fn) (hb:fn.body=some c) (h512:fn.ntmps≤512) (hok:okC fn.ntmps c=true) (hres:∀ r∈fn.results.toList,okR fn.ntmps r=true) (hname:(fn.name == "runtime.NumGoroutine")=false):FOk w0 ((bodE c fn.results.toList fn.ntmps).g ih) f:=by
 intro e h K z args us w hh ha R
 refine⟨zu hf hname (by rw[hb]; rfl),?_⟩
 obtain⟨g1,hh⟩:=zw hh
 have hlen:args.length≤fn.ntmps:=by rw[qU]at g1; exact Nat.le_of_ble_eq_true g1
 have hul:=ha.length
 obtain⟨t,hh,s1,s2⟩:=setA_law hh (by omega)
 have F:jc e fn.ntmps noZ t ((⟨us⟩:Array Value)++Array.replicate (fn.ntmps-us.length) undef):=by
  refine⟨by simp; omega,h512,fun j v hv _=>?_⟩
  by_cases cj:j<us.length
  ·have hv':us[j]? = some v:=by
    rw[Array.getElem?_append_left (by simpa using cj)]at hv
    simpa using hv
   have hj:=List.getElem?_eq_getElem (show j<args.length by omega)
   have:=s1 j _ hj
   rw[Nat.zero_add]at this
   rw[this]
   exact ha.at hj hv'
  ·rw[Array.getElem?_append_right (by simp; omega)]at hv
   have hlt:=(Array.getElem?_eq_some_iff.1 hv).1
   simp at hlt
   have hv2:v=undef:=by
    rw[Array.getElem?_replicate]at hv
    split at hv
    ·exact(Option.some.inj hv).symm
    ·cases hv
   rw[s2 j (by omega) (by omega),q3_e]
   exact hv2
 refine(jB (ro:=none) (n:=0)).1 (callsIn_of_wp_marks hf hb trivial (iHo none fn.ntmps h.nxt c hok (a:={ tmps:=(⟨us⟩:Array Value)++Array.replicate (fn.ntmps-us.length) undef,defers:=[] }) hh F R ⟨Nat.le_refl _,[],rfl,List.nodup_nil,fun i k=>by cases k⟩ (fun l k=>by cases k) fun ex a' w' o=>?_) rfl)
 obtain⟨x,e',τ',h',z',rfl,hk,F',R',Fr',D',_,_⟩:=o
 have key:retE fn.results.toList τ' h' K=some z'→LeavesInM (FW none) 0 Pr fn a'.tmps (fun en w'=>∃ v,en=.returned v∧Out w0 e h K v w') a'.defers .returning w':=fun hk=>by
  obtain⟨d0,ids,d1,d2,d3⟩:=D'
  rw[d1]
  refine leaves_law (by simp) ids R' d2 d3 fun e2 w2 R2 G=>?_
  obtain⟨v,x,r1,r2,r3⟩:=ret_is (by rw[G.fr]; exact F') R2 hk hres
  refine⟨v,r1,v,rfl,x,h',e2,z',r2,r3,R2,⟨⟨fun j hj=>by rw[G.dom]; exact Fr'.ext.dom j hj,fun j hj=>by rw[G.blk]; exact Fr'.ext.blk j hj,fun j hj=>by rw[G.cap]; exact Fr'.ext.cap j hj,fun j hj=>by rw[G.clo]; exact Fr'.ext.clo j hj,fun j hj=>by rw[G.gh j (R.lt j hj)]; exact Fr'.ext.gh j hj⟩,Fr'.nxt,Fr'.lo,Fr'.ac,fun j hj=>Fr'.new j (by rw[G.dom]at hj; exact hj),Fr'.out,Fr'.prot,Fr'.kp⟩⟩
 cases x with
 | n=>exact key hk
 | r=>exact key hk
 | x i=>cases hk
theorem tvL_law {t u:TV} : ∀ {n off:Nat},tvL t u n off=true→∀ j,j<n→t.get (off+j)=u.get (off+j)
 | 0,off,_,j,hj=>by omega
 | n+1,off,hh,j,hj=>by
  have hh':(avB (t.get off) (u.get off) && tvL t u n (Nat.succ off))=true:=hh
  simp only[Bool.and_eq_true]at hh'
  cases j with
  | zero=>exact avB_eq hh'.1
  | succ j=>
   have:=tvL_law hh'.2 j (by omega)
   rw[show off+(j+1)=Nat.succ off+j by omega]; exact this
theorem TOk.alike {e:Env} {n:Nat} {t u:TV} {cs:List Value} (k:TOk e n t cs) (hn:n≤xC u) (h:tvL t u n 0=true):TOk e n u cs:=⟨k.1,hn,fun j hj=>by
 obtain⟨s,v,h1,h2,h3⟩:=k.2.2 j hj
 have:=tvL_law h j hj
 rw[Nat.zero_add]at this
 exact⟨s,v,h1,by rw[←this]; exact h2,h3⟩⟩
theorem blB_law {e:Env} {h h':H} {w:World} {id:Nat} {a b:B} (hh:blB a b=true) (k:BOk e h w id a):BOk e h' w id b∧inB a∧refM b=none:=by
 unfold blB at hh
 split at hh
 ·simp only[Bool.and_eq_true]at hh
  obtain⟨⟨⟨h1,h2⟩,h3⟩,h4⟩:=hh
  have:=Nat.eq_of_beq_eq_true h1; subst this
  have:=Nat.eq_of_beq_eq_true h2; subst this
  obtain⟨cs,k1,k2,k3⟩:=k
  exact⟨⟨cs,k1,k2,k3.alike (Nat.le_of_ble_eq_true h3) h4⟩,trivial,rfl⟩
 ·simp only[Bool.and_eq_true]at hh
  obtain⟨⟨⟨h1,h2⟩,h3⟩,h4⟩:=hh
  have:=Nat.eq_of_beq_eq_true h1; subst this
  have:=Nat.eq_of_beq_eq_true h2; subst this
  obtain⟨cs,y,k1,k2,k3⟩:=k
  exact⟨⟨cs,y,k1,k2.alike (Nat.le_of_ble_eq_true h3) h4,k3⟩,trivial,rfl⟩
 ·cases hh
theorem leH_law {g h:H} : ∀ {l:List Nat},leH l g h=true→∀ i∈l,hget h i=.x∨blB (hget g i) (hget h i)=true
 | [],_,i,hi=>by cases hi
 | x::l,hh,i,hi=>by
  have hh':((isX (hget h x) || blB (hget g x) (hget h x)) && leH l g h)=true:=hh
  simp only[Bool.and_eq_true,Bool.or_eq_true]at hh'
  rcases List.mem_cons.1 hi with rfl | hi
  ·rcases hh'.1 with k | k
   ·left
    cases hb:hget h i with
    | x=>rfl
    | _=>rw[hb]at k; cases k
   ·exact .inr k
  ·exact leH_law hh'.2 i hi
theorem rngN_mem:∀ {n a i:Nat},a≤i→i<a+n→i∈rngN a n
 | 0,a,i,h1,h2=>by omega
 | n+1,a,i,h1,h2=>by
  show i∈a::rngN (Nat.succ a) n
  by_cases c:i=a
  ·simp[c]
  ·exact List.mem_cons_of_mem _ (rngN_mem (by show a+1≤i; omega) (by show i<a+1+n; omega))
theorem layM_law {fl:Bool} {r:H} {rs:List (AV×H)} {K:H→Ev.R} {z:List (AV×H)} : ∀ {l:List Nat} {h:H},layM fl l r rs h K=some z→h.nxt≤32768→(∀ j,j<32768→h.nxt≤j→hget h j=.x)→∃ h',K h'=some z∧h.nxt≤h'.nxt∧h'.nxt≤32768∧h'.lo=h.lo∧h'.ac=h.ac∧(∀ j,j<h.nxt→hget h' j=hget h j)∧(∀ j,j<32768→h'.nxt≤j→hget h' j=.x)
 | [],h,hh,ht,hx=>⟨h,hh,Nat.le_refl _,ht,rfl,rfl,fun _ _=>rfl,hx⟩
 | i::l,h,hh,ht,hx=>by
  have step:∀ b:B,(newB h b fun _ h=>layM fl l r rs h K)=some z→∃ h',K h'=some z∧h.nxt≤h'.nxt∧h'.nxt≤32768∧h'.lo=h.lo∧h'.ac=h.ac∧(∀ j,j<h.nxt→hget h' j=hget h j)∧(∀ j,j<32768→h'.nxt≤j→hget h' j=.x):=fun b hb=>by
   obtain⟨h1,N,hk⟩:=newB_law hb
   have lt:=N.lt
   have n1:=N.nxt
   obtain⟨h2,k1,k2,k3,k4,k5,k6,k7⟩:=layM_law hk (by omega) (fun j hj hle=>by rw[N.get j hj,if_neg (by omega)]; exact hx j hj (by omega))
   exact⟨h2,k1,by omega,k3,by rw[k4,N.lo],by rw[k5,N.ac],fun j hj=>by rw[k6 j (by omega),N.get j (by omega),if_neg (by omega)],k7⟩
  have hh':(Bool.rec (motive:=fun _=>Ev.R) (newB h .x fun _ h=>layM fl l r rs h K) (newB h (hget r i) fun _ h=>layM fl l r rs h K) (fl && agree i (hget r i) rs):Ev.R)=some z:=hh
  cases hb:(fl && agree i (hget r i) rs)with
  | false=>rw[hb]at hh'; exact step _ hh'
  | true=>rw[hb]at hh'; exact step _ hh'
end
end Go.Ev
end
section
set_option linter.unusedVariables false
set_option linter.unusedSimpArgs false
set_option linter.constructorNameAsVariable false
namespace Go.Ev
open Go.Lw Go.RowKit
section
variable {w0:World} {ih:IH}
theorem zG.less {e0 e:Env} {h g m:H} {w0' w:World} (R0:zG w0 e0 h w0') (R:zG w0 e g w) (F:Fr e0 (.mk h.nxt h.nxt (0,0) h.t) e g) (hn:g.nxt=m.nxt) (hlo:g.lo=h.nxt) (hmn:h.nxt≤m.nxt) (hold:∀ j,j<h.nxt→hget m j=hget h j) (hnew:∀ j,j<32768→m.nxt≤j→hget m j=.x)
  (hle:∀ i,h.nxt≤i→i<m.nxt→hget m i=.x∨blB (hget g i) (hget m i)=true):zG w0 e m w:=by
 have top:=R.top
 have old:∀ j,j<h.nxt→hget g j=hget m j:=fun j hj=>by
  rw[hold j hj]
  exact F.prot j hj (by rw[hlo]; exact hj) (by unfold H.act; simp)
 have sort:∀ j,e.dom j→(hget m j=hget g j∧j<h.nxt)∨hget m j=.x∨(BOk e m w j (hget m j)∧inB (hget g j)∧refM (hget m j)=Option.none):=fun j hj=>by
  have lt:=R.lt j hj
  by_cases c:j<h.nxt
  ·exact .inl ⟨(old j c).symm,c⟩
  ·rcases hle j (by omega) (by omega)with k | k
   ·exact .inr (.inl k)
   ·exact .inr (.inr (blB_law k (R.ok j hj)))
 have inOf:∀ j,e.dom j→inB (hget m j)→inB (hget g j):=fun j hj hin=>by
  rcases sort j hj with ⟨k,_⟩ | k | k
  ·rw[←k]; exact hin
  ·rw[k]at hin; exact hin.elim
  ·exact k.2.1
 have refOf:∀ j x,e.dom j→refM (hget m j)=some x→refM (hget g j)=some x:=fun j x hj hr=>by
  rcases sort j hj with ⟨k,_⟩ | k | k
  ·rw[←k]; exact hr
  ·rw[k]at hr; cases hr
  ·rw[k.2.2]at hr; cases hr
 refine⟨R.below,by rw[←hn]; exact R.top,fun j hj=>by rw[←hn]; exact R.lt j hj,fun j hj=>?_,fun j hj hin=>R.low j hj (inOf j hj hin),fun i j hi hj h1 h2 hb=>R.inj i j hi hj (inOf i hi h1) (inOf j hj h2) hb,hnew,fun i j x hi hj h1 h2=>R.uniq i j x hi hj (refOf i x hi h1) (refOf j x hj h2)⟩
 rcases sort j hj with ⟨k,c⟩ | k | k
 ·rw[k]
  have d0:e0.dom j:=by
   rcases F.new j hj with q | q
   ·exact q
   ·have:h.nxt≤j:=q
    omega
  refine BOk.step (h:=g) (w:=w) hj (.refl e) rfl (fun x hx dx hk=>⟨?_,rfl⟩) (R.ok j hj)
  have gj:hget g j=hget h j:=by rw[←k,hold j c]
  rw[gj]at hx
  have:=(R0.refs d0 hx).1
  exact(old x (R0.lt x this)).symm
 ·rw[k]; trivial
 ·exact k.1
theorem mrg_law {fl:Bool} {c:Fc} {f:FuncId} (hc:FOk w0 (c.g ih) f):FOk w0 ((mrgE fl c).g ih) f:=by
 intro e h K z args us w hh ha R
 have hh':(shut h (0,0) fun nx lo h1=>obn (c.g ih args h1 fun v h=>some [(v,h)]) fun rs=>List.rec (motive:=fun _=>Ev.R) none (fun r _ _=>
  layM fl (rngN nx (r.2.nxt-nx)) r.2 rs h1 fun hm=>obn (c.g ih args h1 fun v g=>gd (avB v r.1 && Nat.beq g.nxt hm.nxt && Nat.beq g.lo nx && leH (rngN nx (hm.nxt-nx)) g hm) (some [])) fun _=>frc r.1 fun v=>setLo hm (fun _=>lo) h.ac fun h=>K v h) rs)=some z:=hh
 rw[shut_eq]at hh'
 obtain⟨rs,h1,hh'⟩:=zO hh'
 cases rs with
 | nil=>cases hh'
 | cons r rs=>
  obtain⟨hm,hk,m1,m2,m3,m4,m5,m6⟩:=layM_law hh' R.top R.none
  obtain⟨_,h2,hk⟩:=zO hk
  rw[xy,setLo_eq]at hk
  have R1:zG w0 e (.mk h.nxt h.nxt (0,0) h.t) w:=R.same rfl fun _ _=>rfl
  obtain⟨ok,calls⟩:=hc h2 ha R1
  refine⟨ok,calls.mono fun en w' k=>?_⟩
  obtain⟨v,he,x,g,e',z',k1,k2,k3,k4⟩:=k
  refine⟨v,he,?_⟩
  obtain⟨g1,_⟩:=zw k1
  simp only[Bool.and_eq_true]at g1
  obtain⟨⟨⟨g1,g2⟩,g3⟩,g4⟩:=g1
  have ex:=avB_eq g1
  have en1:g.nxt=hm.nxt:=Nat.eq_of_beq_eq_true g2
  have el:g.lo=h.nxt:=Nat.eq_of_beq_eq_true g3
  have m1':h.nxt≤hm.nxt:=m1
  have Rm:zG w0 e' hm w':=R.less k3 k4 en1 el m1' m5 m6 fun i i1 i2=>leH_law g4 i (rngN_mem i1 (by omega))
  have top:=R.top
  have gm:∀ j,hget (.mk hm.nxt h.lo h.ac hm.t) j=hget hm j:=fun _=>rfl
  refine⟨r.1,.mk hm.nxt h.lo h.ac hm.t,e',z,hk,by rw[←ex]; exact k2,Rm.same rfl fun _ _=>rfl,⟨k4.ext,m1',Nat.le_refl _,rfl,k4.new,fun j hj _=>?_,fun j hj _ _=>?_,fun j hj=>?_⟩⟩
  ·rw[gm]; exact m5 j hj
  ·rw[gm]; exact m5 j hj
  ·rw[gm,show hget hm j=hget h j from m5 j hj]; exact .refl _
theorem mg_law {m:Nat} {c:Fc} {f:FuncId} (hc:FOk w0 (c.g ih) f):FOk w0 ((mgE m c).g ih) f:=by
 cases m with
 | zero=>exact hc
 | succ m=>
  cases m with
  | zero=>exact mrg_law (fl:=false) hc
  | succ m=>exact mrg_law (fl:=true) hc
def OcOk (w0:World) (O:FuncId→Option Orc):Prop:=∀ (f:FuncId) (o:Orc),O f=some o→FOk w0 o.g f
theorem fnB_ok (iHo:IHOk w0 ih) (f:FuncId):FOk w0 ((fncB f).g ih) f:=by
 intro e h K z args us w hh ha R
 unfold fncB at hh
 cases hf:Pr.funcs[f]? with
 | none=>rw[hf]at hh; cases hh
 | some fn=>
  rw[hf]at hh
  have hh2:(Option.rec (motive:=fun _=>Fc) (.mk fun _ _ _ _=>none) (fun c=>Bool.rec (motive:=fun _=>Fc) (.mk fun _ _ _ _=>none)
    (mgE (Mg f) (bodE c fn.results.toList fn.ntmps))
    (Nat.ble fn.ntmps 512 && okC fn.ntmps c && fn.results.toList.all (okR fn.ntmps) && !(fn.name == "runtime.NumGoroutine"))) fn.body:Fc).g ih args h K=some z:=hh
  cases hb:fn.body with
  | none=>rw[hb]at hh2; cases hh2
  | some c=>
   rw[hb]at hh2
   have hh3:(Bool.rec (motive:=fun _=>Fc) (.mk fun _ _ _ _=>none)
    (mgE (Mg f) (bodE c fn.results.toList fn.ntmps))
    (Nat.ble fn.ntmps 512 && okC fn.ntmps c && fn.results.toList.all (okR fn.ntmps) && !(fn.name == "runtime.NumGoroutine")):Fc).g ih args h K=some z:=hh2
   cases hc:(Nat.ble fn.ntmps 512 && okC fn.ntmps c && fn.results.toList.all (okR fn.ntmps) && !(fn.name == "runtime.NumGoroutine"))with
   | false=>rw[hc]at hh3; cases hh3
   | true=>
    rw[hc]at hh3
    simp only[Bool.and_eq_true,Bool.not_eq_true']at hc
    obtain⟨⟨⟨c1,c2⟩,c3⟩,c4⟩:=hc
    have B:FOk w0 ((bodE c fn.results.toList fn.ntmps).g ih) f:=bod_law iHo hf hb (Nat.le_of_ble_eq_true c1) c2 (List.all_eq_true.1 c3) c4
    exact mg_law B hh3 ha R
theorem fn_ok (OO:OcOk w0 ih.oc) (iHo:IHOk w0 ih):FnOk w0 ih:=by
 intro f e h K z args us w hh ha R
 have hh2:(Option.rec (motive:=fun _=>Ev.R) ((fncB f).g ih args h K) (fun o=>o.g args h K) (ih.oc f):Ev.R)=some z:=hh
 cases ho:ih.oc f with
 | some o=>
  rw[ho]at hh2
  exact OO f o ho hh2 ha R
 | none=>
  rw[ho]at hh2
  exact fnB_ok iHo f hh2 ha R
variable {O:FuncId→Option Orc}
theorem ih_ok (OO:OcOk w0 O):∀ k,IHOk w0 (fuel O k)
 | 0=>fun ro n N c _ {e τ h K z a w Q} hh=>by cases hh
 | k+1=>fun ro n N c hok=>code_law (ih:=fuel O k) (fn_ok OO (ih_ok OO k)) (rnd_law (ih_ok OO k)) 100000 ro n N c hok
def Env.nil:Env:={ dom:=fun _=>False,blk:=fun _=>0,cap:=fun _=>0,clo:=fun _=>.nilFunc,gh:=fun _=>0 }
theorem p1_e (j:Nat):(p1 j).g H1.e=.x:=by unfold p1; cases dg1 j<;>rfl
theorem p2_e (j:Nat):(p2 j).g H2.e=.x:=by unfold p2; cases dg2 j<;>exact p1_e j
theorem p3_e (j:Nat):(p3 j).g H3.e=.x:=by unfold p3; cases dg3 j<;>exact p2_e j
theorem p4_e (j:Nat):(p4 j).g H4.e=.x:=by unfold p4; cases dg4 j<;>exact p3_e j
theorem p5_e (j:Nat):(p5 j).g H5.e=.x:=by unfold p5; cases dg5 j<;>exact p4_e j
theorem zG.nil (w:World):zG w Env.nil H.e w:=
 ⟨Below.refl _ _,Nat.zero_le _,fun _ k=>k.elim,fun _ k=>k.elim,fun _ k=>k.elim,fun _ _ k=>k.elim,fun j _ _=>p5_e j,fun _ _ _ k=>k.elim⟩
end
theorem kX {O:FuncId→Option Orc} {f:FuncId} (h:runs O f=true) (w:World) (OO:OcOk w O):Calls Pr f #[] w fun en w'=>en=.returned (.bool true)∧Below w.heap.size w w':=by
 unfold runs isT at h
 cases hr:run O f [] H.e (fun v h=>asB v fun b=>gd b (some []))with
 | none=>rw[hr]at h; cases h
 | some z=>
  have:=(fnB_ok (ih_ok OO 1000) f (us:=[]) hr trivial (zG.nil w)).2
  refine this.mono fun en w' k=>?_
  obtain⟨v,rfl,x,h',e',z',k1,k2,k3,k4⟩:=k
  obtain⟨b,rfl,k1⟩:=asB_law k1
  obtain⟨rfl,_⟩:=zw k1
  have k2':v=.bool true:=k2
  subst k2'
  exact⟨rfl,k3.below⟩
theorem o0_ok (w:World):OcOk w O0:=fun f o h=>by cases h
end Go.Ev
end
section
set_option linter.unusedVariables false
set_option linter.unusedSimpArgs false
set_option linter.constructorNameAsVariable false
namespace Go.Ev
open Go.Lw Go.RowKit
noncomputable def cutE (ih:IH) (F:L3→H→R) (k:Nat):Code→L3→H→R:=Nat.rec (motive:=fun _=>Code→L3→H→R) (fun _ τ h=>F τ h)
 (fun _ rest c τ h=>(match c with
  | .seq a b=>(codeE a).g ih 100000 τ h fun ex τ h=>Ex.rec (motive:=fun _=>R) (rest b τ h) (fun _=>none) none ex
  | _=>none)) k
noncomputable def drpC (k:Nat):Code→Code:=Nat.rec (motive:=fun _=>Code→Code) (fun c=>c) (fun _ rest c=>(match c with | .seq _ b=>rest b | c=>c)) k
noncomputable def isU (v:AV):Bool:=match v with | .x (.o .u)=>true | _=>false
noncomputable def leF (τ τL:L3) (n:Nat):Bool:=Nat.rec (motive:=fun _=>Bool) true (fun t ih=>(isU ((q3 t).g τL) || avB ((q3 t).g τ) ((q3 t).g τL)) && ih) n
noncomputable def leS (n:Nat) (τ:L3) (h:H) (τL:L3) (hL:H):Bool:=Nat.beq h.nxt hL.nxt && leF τ τL n && leH (rngN 0 hL.nxt) h hL
theorem leF_law {τ τL:L3} : ∀ {n:Nat},leF τ τL n=true→∀ t,t<n→(q3 t).g τL=.u∨(q3 t).g τ=(q3 t).g τL
 | 0,_,t,ht=>by omega
 | n+1,h,t,ht=>by
  have h':((isU ((q3 n).g τL) || avB ((q3 n).g τ) ((q3 n).g τL)) && leF τ τL n)=true:=h
  simp only[Bool.and_eq_true,Bool.or_eq_true]at h'
  by_cases c:t=n
  ·subst c
   rcases h'.1 with k | k
   ·left
    unfold isU at k
    split at k
    ·assumption
    ·cases k
   ·exact .inr (avB_eq k)
  ·exact leF_law h'.2 t (by omega)
section
variable {w0:World} {e:Env} {h hL:H} {w:World} {n:Nat} {τ τL:L3}
theorem zG.weak (R:zG w0 e h w) (hn:h.nxt=hL.nxt) (hx:∀ j,j<32768→hL.nxt≤j→hget hL j=.x) (hle:leH (rngN 0 hL.nxt) h hL=true):zG w0 e hL w:=by
 have sort:∀ j,e.dom j→hget hL j=.x∨(BOk e hL w j (hget hL j)∧inB (hget h j)∧refM (hget hL j)=Option.none):=fun j hj=>by
  have lt:=R.lt j hj
  rcases leH_law hle j (rngN_mem (Nat.zero_le _) (by omega))with k | k
  ·exact .inl k
  ·exact .inr (blB_law k (R.ok j hj))
 have inOf:∀ j,e.dom j→inB (hget hL j)→inB (hget h j):=fun j hj hin=>by
  rcases sort j hj with k | k
  ·rw[k]at hin; exact hin.elim
  ·exact k.2.1
 have refOf:∀ j,e.dom j→refM (hget hL j)=Option.none:=fun j hj=>by
  rcases sort j hj with k | k
  ·rw[k]; rfl
  ·exact k.2.2
 refine⟨R.below,by rw[←hn]; exact R.top,fun j hj=>by rw[←hn]; exact R.lt j hj,fun j hj=>?_,fun j hj hin=>R.low j hj (inOf j hj hin),fun i j hi hj h1 h2 hb=>R.inj i j hi hj (inOf i hi h1) (inOf j hj h2) hb,hx,fun i j x hi hj h1 h2=>?_⟩
 ·rcases sort j hj with k | k
  ·rw[k]; trivial
  ·exact k.1
 ·rw[refOf i hi]at h1; cases h1
theorem jc.weak {tmps:Array Value} (F:jc e n noZ τ tmps) (hle:leF τ τL n=true):jc e n noZ τL tmps:=⟨F.1,F.2.1,fun t v hv hz=>by
 have ht:t<n:=by rw[←F.1]; exact(Array.getElem?_eq_some_iff.1 hv).1
 rcases leF_law hle t ht with k | k
 ·rw[k]; trivial
 ·rw[←k]; exact F.2.2 t v hv hz⟩
def PC (w0:World) (n:Nat) (Q:Exit→Act→World→Prop) (c:Code) (τL:L3) (hL:H):Prop:=∀ (e:Env) (a:Act) (w:World),jc e n noZ τL a.tmps→zG w0 e hL w→a.defers=[]→c.wpIn (FW none) 0 Pr Q a w
theorem dfs_nil (e:Env) (h:H):Dfs h.nxt e h []:=⟨Nat.le_refl _,[],rfl,List.nodup_nil,fun i k=>by cases k⟩
theorem ro_nil (e:Env) (h:H):RoOk e h none:=fun l k=>by cases k
theorem pieces_law {O:FuncId→Option Orc} (OO:OcOk w0 O) {k:Nat} {Q:Exit→Act→World→Prop} {F:L3→H→Ev.R} : ∀ {c:Code} {m:Nat} {τ:L3} {h:H} {z:List (AV×H)},cutE (fuel O k) F m c τ h=some z→okC n c=true→1000∉wrC c→
  (∀ (τ':L3) (h':H) (z':List (AV×H)) (e':Env) (a':Act) (w':World),F τ' h'=some z'→jc e' n noZ τ' a'.tmps→zG w0 e' h' w'→a'.defers=[]→(drpC m c).wpIn (FW none) 0 Pr Q a' w')→PC w0 n Q c τ h
 | c,0,τ,h,z,hh,_,_,hk=>fun e a w F' R D=>hk τ h z e a w hh F' R D
 | c,m+1,τ,h,z,hh,hok,h1000,hk=>fun e a w F' R D=>by
  cases c with
  | seq x y=>
   have hh':(codeE x).g (fuel O k) 100000 τ h (fun ex τ h=>Ex.rec (motive:=fun _=>Ev.R) (cutE (fuel O k) F m y τ h) (fun _=>none) none ex)=some z:=hh
   obtain⟨o1,o2⟩:=okC_seq hok
   have hw:1000∉wrC x∧1000∉wrC y:=by
    have:1000∉app (wrC x) (wrC y):=h1000
    rw[ko]at this; simpa using this
   refine wpIn_seq (code_law (fn_ok OO (ih_ok OO k)) (rnd_law (ih_ok OO k)) 100000 none n h.nxt x o1 hh' F' R (by rw[D]; exact dfs_nil e h) (ro_nil e h) fun ex a' w' o=>?_)
   obtain⟨q,e',τ',h',z',rfl,hk2,F2,R2,Fr2,D2,ad,ag⟩:=o
   cases q with
   | n=>exact pieces_law OO hk2 o2 hw.2 hk e' a' w' F2 R2 ((ad hw.1).trans D)
   | x i=>cases hk2
   | r=>cases hk2
  | _=>cases hh
theorem stage {O:FuncId→Option Orc} (OO:OcOk w0 O) {k m:Nat} {Q:Exit→Act→World→Prop} {c:Code} {τ τ1:L3} {h h1:H} (hh:isT (cutE (fuel O k) (fun τ h=>gd (leS n τ h τ1 h1) (some [])) m c τ h)=true) (hok:okC n c=true) (hw:1000∉wrC c)
  (hx:∀ j,j<32768→h1.nxt≤j→hget h1 j=.x) (next:PC w0 n Q (drpC m c) τ1 h1):PC w0 n Q c τ h:=by
 unfold isT at hh
 cases hr:cutE (fuel O k) (fun τ h=>gd (leS n τ h τ1 h1) (some [])) m c τ h with
 | none=>rw[hr]at hh; cases hh
 | some z=>
  refine pieces_law OO hr hok hw fun τ' h' z' e' a' w' hF F' R' D'=>?_
  obtain⟨g1,_⟩:=zw hF
  unfold leS at g1
  simp only[Bool.and_eq_true]at g1
  obtain⟨⟨g1,g2⟩,g3⟩:=g1
  exact next e' a' w' (F'.weak g2) (R'.weak (Nat.eq_of_beq_eq_true g1) hx g3) D'
end
noncomputable def endT (rs:List ResultVar):Ex→L3→H→R:=fun ex τ h=>Ex.rec (motive:=fun _=>R) (retE rs τ h fun v h=>asB v fun b=>gd b (some [])) (fun _=>none) (retE rs τ h fun v h=>asB v fun b=>gd b (some [])) ex
abbrev QT (w0:World) (fn:Func):Exit→Act→World→Prop:=bodyPostM (FW none) 0 Pr fn fun en w'=>en=.returned (.bool true)∧Below w0.heap.size w0 w'
theorem stage_end {w0:World} {O:FuncId→Option Orc} (OO:OcOk w0 O) {k:Nat} {fn:Func} {c:Code} {τ:L3} {h:H} (hh:isT ((codeE c).g (fuel O k) 100000 τ h (endT fn.results.toList))=true) (hok:okC fn.ntmps c=true) (hres:fn.results.toList.all (okR fn.ntmps)=true):PC w0 fn.ntmps (QT w0 fn) c τ h:=fun e a w F R D=>by
 unfold isT at hh
 cases hr:(codeE c).g (fuel O k) 100000 τ h (endT fn.results.toList)with
 | none=>rw[hr]at hh; cases hh
 | some z=>
  refine code_law (fn_ok OO (ih_ok OO k)) (rnd_law (ih_ok OO k)) 100000 none fn.ntmps h.nxt c hok hr F R (by rw[D]; exact dfs_nil e h) (ro_nil e h) fun ex a' w' o=>?_
  obtain⟨x,e',τ',h',z',rfl,hk,F',R',Fr',D',_,_⟩:=o
  have key:retE fn.results.toList τ' h' (fun v h=>asB v fun b=>gd b (some []))=some z'→LeavesInM (FW none) 0 Pr fn a'.tmps (fun en w'=>en=.returned (.bool true)∧Below w0.heap.size w0 w') a'.defers .returning w':=fun hk=>by
   obtain⟨d0,ids,d1,d2,d3⟩:=D'
   rw[d1]
   refine leaves_law (by simp) ids R' d2 d3 fun e2 w2 R2 G=>?_
   obtain⟨v,x,r1,r2,r3⟩:=ret_is (by rw[G.fr]; exact F') R2 hk (List.all_eq_true.1 hres)
   obtain⟨b,rfl,r2⟩:=asB_law r2
   obtain⟨rfl,_⟩:=zw r2
   have r3':v=.bool true:=r3
   subst r3'
   exact⟨_,r1,rfl,R2.below⟩
  cases x with
  | n=>exact key hk
  | r=>exact key hk
  | x i=>cases hk
theorem staged_true {f:FuncId} {fn:Func} {c:Code} (hf:Pr.funcs[f]? = some fn) (hb:fn.body=some c) (h512:Nat.ble fn.ntmps 512=true) (w:World) (h:PC w fn.ntmps (QT w fn) c L3.e H.e):Calls Pr f #[] w fun en w'=>en=.returned (.bool true)∧Below w.heap.size w w':=by
 refine(jB (ro:=none) (n:=0)).1 (callsIn_of_wp_marks hf hb trivial (h Env.nil { tmps:=#[]++Array.replicate (fn.ntmps-0) undef,defers:=[] } w ⟨by simp,Nat.le_of_ble_eq_true h512,fun j v hv _=>?_⟩ (zG.nil w) rfl) rfl)
 have hv2:v=undef:=by
  simp[Array.getElem?_replicate]at hv
  exact hv.2.symm
 rw[q3_e]
 exact hv2
end Go.Ev
end
section
set_option linter.unusedVariables false
set_option linter.constructorNameAsVariable false
namespace Go.Ev
open Go.Lw Go.RowKit
noncomputable def mkF (l:List AV) (i:Nat) (t:L3):L3:=List.rec (motive:=fun _=>Nat→L3→L3) (fun _ t=>t) (fun v _ ih i t=>nat i fun i=>(q3 i).s t v fun t=>ih (Nat.succ i) t) l i t
noncomputable def mkT (l:List Sc):TV:=Option.rec (motive:=fun _=>TV) (.s L1.e) (fun t=>t) (TV.emp (len l) fun t=>setL l t 0 some)
noncomputable def mkH5 (l:List (Nat×B)) (t:H5):H5:=List.rec (motive:=fun _=>H5→H5) (fun t=>t) (fun b _ ih t=>(p5 b.1).s t b.2 fun t=>ih t) l t
noncomputable def mkH (nxt:Nat) (l:List (Nat×B)):H:=.mk nxt 0 (0,0) (mkH5 l H5.e)
noncomputable def allLt (n:Nat) (l:List (Nat×B)):Bool:=List.rec (motive:=fun _=>Bool) true (fun b _ ih=>Nat.blt b.1 n && ih) l
theorem mkH5_law {n:Nat} : ∀ {l:List (Nat×B)} {t:H5},allLt n l=true→n≤32768→(∀ j,j<32768→n≤j→(p5 j).g t=.x)→∀ j,j<32768→n≤j→(p5 j).g (mkH5 l t)=.x
 | [],t,_,_,ht,j,hj,hn=>ht j hj hn
 | b::l,t,h,h3,ht,j,hj,hn=>by
  have h':(Nat.blt b.1 n && allLt n l)=true:=h
  simp only[Bool.and_eq_true]at h'
  have hb:=jI h'.1
  obtain⟨t',h1,h2⟩:=p5_set t b.2 (show b.1<32768 by omega)
  have e1:mkH5 (b::l) t=mkH5 l t':=h1 (fun t=>mkH5 l t)
  rw[e1]
  exact mkH5_law h'.2 h3 (fun q hq hnq=>by rw[h2 q hq,if_neg (by omega)]; exact ht q hq hnq) j hj hn
theorem mkH_law {n:Nat} {l:List (Nat×B)} (h:allLt n l=true) (h3:Nat.ble n 32768=true):∀ j,j<32768→(mkH n l).nxt≤j→hget (mkH n l) j=.x:=fun j hj hn=>mkH5_law h (Nat.le_of_ble_eq_true h3) (fun q _ _=>p5_e q) j hj hn
noncomputable def qO (f:FuncId):Code:=match Pr.funcs[f]? with | some fn=>(match fn.body with | some c=>c | none=>.skip) | none=>.skip
noncomputable def resOf (f:FuncId):List ResultVar:=match Pr.funcs[f]? with | some fn=>fn.results.toList | none=>[]
end Go.Ev
end
section
namespace Go.Ev
noncomputable def τ355_11:L3:=mkF [.x (.o .u),(.x (.p 7 0)),(.x (.o (.s 6 0 3 3))),(.x (.i .i64 (.ofNat 14))),(.x (.i .i64 (.ofNat 0))),.x (.o .u),(.x (.i .i64 (.ofNat 18))),.x (.o .u),(.x (.i .i64 (.ofNat 16))),.x (.o .u),(.x (.i .i64 (.ofNat 3))),(.x (.i .i64 (.ofNat 14))),(.x (.i .i64 (.ofNat 0))),(.x (.o (.s 2972 0 4 4))),(.x (.i .i64 (.ofNat 0))),(.x (.i .i64 (.ofNat 3))),(.x (.i .i64 (.ofNat 0))),(.x (.i .i64 (.ofNat 2))),(.x (.i .i64 (.ofNat 0))),(.x (.i .i64 (.ofNat 1))),(.x (.i .i64 (.ofNat 0))),.x (.o .u),.x (.o .u),.x (.o .u),.x (.o .u),.x (.o .u),.x (.o .u),.x (.o .u),.x (.o .u),.x (.o .u),.x (.o .u),.x (.o .u),.x (.o .u),.x (.o .u),.x (.o .u),.x (.o .u),.x (.o .u),.x (.o .u),.x (.o .u),.x (.o .u),.x (.o .u),.x (.o .u),.x (.o .u),.x (.o .u),.x (.o .u),.x (.o .u),.x (.o .u),.x (.o .u),.x (.o .u),.x (.o .u),.x (.o .u),.x (.o .u),.x (.o .u),.x (.o .u),.x (.o .u),.x (.o .u),.x (.o .u),.x (.o .u),.x (.o .u),.x (.o .u),.x (.o .u),.x (.o .u),.x (.o .u),.x (.o .u),.x (.o .u),.x (.o .u),.x (.o .u),.x (.o .u),.x (.o .u),.x (.o .u),.x (.o .u),.x (.o .u),.x (.o .u),.x (.o .u),.x (.o .u),.x (.o .u),.x (.o .u),.x (.o .u),.x (.o .u),.x (.o .u),.x (.o .u),.x (.o .u),.x (.o .u),.x (.o .u),.x (.o .u),.x (.o .u),.x (.o .u),.x (.o .u),.x (.o .u),.x (.o .u),.x (.o .u),.x (.o .u),.x (.o .u),.x (.o .u),.x (.o .u),.x (.o .u),.x (.o .u),.x (.o .u),.x (.o .u),.x (.o .u),.x (.o .u),.x (.o .u),.x (.o .u),.x (.o .u),.x (.o .u),.x (.o .u),.x (.o .u),.x (.o .u),.x (.o .u),.x (.o .u),.x (.o .u),.x (.o .u),.x (.o .u),.x (.o .u),.x (.o .u),.x (.o .u),.x (.o .u),.x (.o .u),.x (.o .u),.x (.o .u),.x (.o .u),.x (.o .u),.x (.o .u),.x (.o .u),.x (.o .u),.x (.o .u),.x (.o .u),.x (.o .u),.x (.o .u),.x (.o .u),.x (.o .u),.x (.o .u),.x (.o .u),.x (.o .u),.x (.o .u),.x (.o .u),.x (.o .u),.x (.o .u),.x (.o .u),.x (.o .u),.x (.o .u),.x (.o .u),.x (.o .u),.x (.o .u),.x (.o .u),.x (.o .u),.x (.o .u),.x (.o .u),.x (.o .u),.x (.o .u),.x (.o .u),.x (.o .u),.x (.o .u),.x (.o .u),.x (.o .u),.x (.o .u),.x (.o .u),.x (.o .u),.x (.o .u),.x (.o .u),.x (.o .u),.x (.o .u),.x (.o .u),.x (.o .u),.x (.o .u),.x (.o .u),.x (.o .u),.x (.o .u),.x (.o .u),.x (.o .u),.x (.o .u),.x (.o .u),.x (.o .u),.x (.o .u),.x (.o .u),.x (.o .u),.x (.o .u),.x (.o .u),.x (.o .u),.x (.o .u),.x (.o .u),.x (.o .u),.x (.o .u),.x (.o .u),.x (.o .u),.x (.o .u),.x (.o .u),.x (.o .u),.x (.o .u),.x (.o .u),.x (.o .u),.x (.o .u),.x (.o .u),.x (.o .u),.x (.o .u),.x (.o .u),.x (.o .u),.x (.o .u),.x (.o .u),.x (.o .u),.x (.o .u),.x (.o .u),.x (.o .u),.x (.o .u),.x (.o .u),.x (.o .u),.x (.o .u),.x (.o .u),.x (.o .u),.x (.o .u),.x (.o .u),.x (.o .u),.x (.o .u),.x (.o .u),.x (.o .u),.x (.o .u),.x (.o .u),.x (.o .u),.x (.o .u),.x (.o .u),.x (.o .u),.x (.o .u),.x (.o .u),.x (.o .u),.x (.o .u),.x (.o .u),.x (.o .u),.x (.o .u),.x (.o .u),.x (.o .u),.x (.o .u),.x (.o .u),.x (.o .u),.x (.o .u),.x (.o .u),.x (.o .u),.x (.o .u),.x (.o .u),.x (.o .u),.x (.o .u),.x (.o .u),.x (.o .u),.x (.o .u),.x (.o .u),.x (.o .u),.x (.o .u),.x (.o .u),.x (.o .u),.x (.o .u),.x (.o .u),.x (.o .u),.x (.o .u),.x (.o .u),.x (.o .u),.x (.o .u),.x (.o .u),.x (.o .u),.x (.o .u),.x (.o .u),.x (.o .u),.x (.o .u),.x (.o .u),.x (.o .u),.x (.o .u),.x (.o .u),.x (.o .u),.x (.o .u),.x (.o .u),.x (.o .u),.x (.o .u),.x (.o .u),.x (.o .u),.x (.o .u),.x (.o .u),.x (.o .u),.x (.o .u),.x (.o .u),.x (.o .u),.x (.o .u),.x (.o .u),.x (.o .u),.x (.o .u),.x (.o .u),.x (.o .u),.x (.o .u),.x (.o .u),.x (.o .u),.x (.o .u),.x (.o .u),.x (.o .u)] 0 L3.e
noncomputable def h355_11:H:=mkH 4932 [(2972,.c 43 8 (mkT [(.i .i64 (.ofNat 0)),(.i .i64 (.ofNat 1)),(.i .i64 (.ofNat 2)),(.i .i64 (.ofNat 2)),(.i .i64 (.ofNat 5)),(.i .i64 (.ofNat 1)),(.i .i64 (.ofNat 7)),(.i .i64 (.ofNat 2))])),(6,.c 41 9 (mkT [(.i .i64 (.ofNat 4)),(.i .i64 (.ofNat 10)),(.i .i64 (.ofNat 0)),(.i .i64 (.ofNat 2)),(.i .i64 (.ofNat 3)),(.i .i64 (.ofNat 0)),(.i .i64 (.ofNat 3)),(.i .i64 (.ofNat 4)),(.i .i64 (.ofNat 1))])),(7,.c 24 2 (mkT [(.i .i64 (.ofNat 10)),(.o (.s 1 0 2 2))])),(1,.c 3 2 (mkT [(.i .i64 (.ofNat 3)),(.i .i64 (.ofNat 8))]))]
end Go.Ev
end
section
namespace Go.Ev
noncomputable def τ286_12:L3:=mkF [.x (.o .u),(.x (.p 6 0)),(.x (.p 7 0)),(.x (.i .i64 (.ofNat 0))),(.x (.i .i64 (.ofNat 20))),(.x (.i .i64 (.ofNat 3))),(.x (.i .i64 (.ofNat 4))),(.x (.i .i64 (.ofNat 8))),(.x (.i .i64 (.ofNat 0))),.x (.o .u),(.x (.i .i64 (.ofNat 14))),(.x (.i .i64 (.ofNat 2))),(.x (.i .i64 (.ofNat 0))),(.x (.i .i64 (.ofNat 6))),(.x (.i .i64 (.ofNat 0))),(.x (.o (.s 1836 0 2 2))),(.x (.i .i64 (.ofNat 0))),(.x (.o (.w 1968 0 2 0))),(.x (.i .i64 (.ofNat 0))),(.x (.i .i64 (.ofNat 0))),(.x (.i .i64 (.ofNat 16))),(.x (.i .i64 (.ofNat 3))),(.x (.o (.w 2654 0 2 0))),(.x (.i .i64 (.ofNat 0))),.x (.o .u),.x (.o .u),.x (.o .u),.x (.o .u),.x (.o .u),.x (.o .u),.x (.o .u),.x (.o .u),.x (.o .u),.x (.o .u),.x (.o .u),.x (.o .u),.x (.o .u),.x (.o .u),.x (.o .u),.x (.o .u),.x (.o .u),.x (.o .u),.x (.o .u),.x (.o .u),.x (.o .u),.x (.o .u),.x (.o .u),.x (.o .u),.x (.o .u),.x (.o .u),.x (.o .u),.x (.o .u),.x (.o .u),.x (.o .u),.x (.o .u),.x (.o .u),.x (.o .u),.x (.o .u),.x (.o .u),.x (.o .u),.x (.o .u),.x (.o .u),.x (.o .u),.x (.o .u),.x (.o .u),.x (.o .u),.x (.o .u),.x (.o .u),.x (.o .u),.x (.o .u),.x (.o .u),.x (.o .u),.x (.o .u),.x (.o .u),.x (.o .u),.x (.o .u),.x (.o .u),.x (.o .u),.x (.o .u),.x (.o .u),.x (.o .u),.x (.o .u),.x (.o .u),.x (.o .u),.x (.o .u),.x (.o .u),.x (.o .u),.x (.o .u),.x (.o .u),.x (.o .u),.x (.o .u),.x (.o .u),.x (.o .u),.x (.o .u),.x (.o .u),.x (.o .u),.x (.o .u),.x (.o .u),.x (.o .u),.x (.o .u),.x (.o .u),.x (.o .u),.x (.o .u),.x (.o .u),.x (.o .u),.x (.o .u),.x (.o .u),.x (.o .u),.x (.o .u),.x (.o .u),.x (.o .u),.x (.o .u),.x (.o .u),.x (.o .u),.x (.o .u),.x (.o .u),.x (.o .u),.x (.o .u),.x (.o .u),.x (.o .u),.x (.o .u),.x (.o .u),.x (.o .u),.x (.o .u),.x (.o .u),.x (.o .u),.x (.o .u),.x (.o .u),.x (.o .u),.x (.o .u),.x (.o .u),.x (.o .u),.x (.o .u),.x (.o .u),.x (.o .u),.x (.o .u),.x (.o .u),.x (.o .u),.x (.o .u),.x (.o .u),.x (.o .u),.x (.o .u),.x (.o .u),.x (.o .u),.x (.o .u),.x (.o .u),.x (.o .u),.x (.o .u),.x (.o .u),.x (.o .u),.x (.o .u),.x (.o .u),.x (.o .u),.x (.o .u),.x (.o .u),.x (.o .u),.x (.o .u),.x (.o .u),.x (.o .u),.x (.o .u),.x (.o .u),.x (.o .u),.x (.o .u),.x (.o .u),.x (.o .u),.x (.o .u),.x (.o .u),.x (.o .u),.x (.o .u),.x (.o .u),.x (.o .u),.x (.o .u),.x (.o .u),.x (.o .u),.x (.o .u),.x (.o .u),.x (.o .u),.x (.o .u),.x (.o .u),.x (.o .u),.x (.o .u),.x (.o .u),.x (.o .u),.x (.o .u),.x (.o .u),.x (.o .u),.x (.o .u),.x (.o .u),.x (.o .u),.x (.o .u),.x (.o .u),.x (.o .u),.x (.o .u),.x (.o .u),.x (.o .u),.x (.o .u),.x (.o .u),.x (.o .u),.x (.o .u),.x (.o .u),.x (.o .u),.x (.o .u),.x (.o .u),.x (.o .u),.x (.o .u),.x (.o .u),.x (.o .u),.x (.o .u),.x (.o .u),.x (.o .u),.x (.o .u),.x (.o .u),.x (.o .u),.x (.o .u),.x (.o .u),.x (.o .u),.x (.o .u),.x (.o .u),.x (.o .u),.x (.o .u),.x (.o .u),.x (.o .u),.x (.o .u),.x (.o .u),.x (.o .u),.x (.o .u),.x (.o .u),.x (.o .u),.x (.o .u),.x (.o .u),.x (.o .u),.x (.o .u),.x (.o .u),.x (.o .u),.x (.o .u),.x (.o .u),.x (.o .u),.x (.o .u),.x (.o .u),.x (.o .u),.x (.o .u),.x (.o .u),.x (.o .u),.x (.o .u),.x (.o .u),.x (.o .u),.x (.o .u),.x (.o .u),.x (.o .u),.x (.o .u),.x (.o .u),.x (.o .u),.x (.o .u),.x (.o .u),.x (.o .u),.x (.o .u),.x (.o .u),.x (.o .u),.x (.o .u),.x (.o .u),.x (.o .u),.x (.o .u),.x (.o .u),.x (.o .u),.x (.o .u),.x (.o .u),.x (.o .u),.x (.o .u),.x (.o .u),.x (.o .u),.x (.o .u),.x (.o .u),.x (.o .u),.x (.o .u),.x (.o .u),.x (.o .u)] 0 L3.e
noncomputable def h286_12:H:=mkH 2659 [(2654,.r 22 2 (mkT [(.o (.w 2397 0 2 0)),(.o (.w 2590 0 2 0))])),(1968,.r 3 2 (mkT [(.i .i64 (.ofNat 0)),(.i .i64 (.ofNat 3))])),(1836,.c 327 8 (mkT [(.i .i64 (.ofNat 0)),(.i .i64 (.ofNat 0)),(.i .i64 (.ofNat 3)),(.i .i64 (.ofNat 1)),(.i .i64 (.ofNat 0)),(.i .i64 (.ofNat 3)),(.i .i64 (.ofNat 3)),(.i .i64 (.ofNat 1))])),(7,.c 322 2 (mkT [(.o (.s 4 0 4 4)),(.i .i64 (.ofNat 4))])),(6,.c 322 2 (mkT [(.o (.s 1 0 3 3)),(.i .i64 (.ofNat 4))])),(2590,.r 3 2 (mkT [(.i .i64 (.ofNat 1)),(.i .i64 (.ofNat 3))])),(2397,.r 3 2 (mkT [(.i .i64 (.ofNat 0)),(.i .i64 (.ofNat 2))])),(4,.c 9 4 (mkT [(.o (.c (.string ⟨#[111,46,111]⟩))),(.o (.c (.string ⟨#[46,35,46]⟩))),(.o (.c (.string ⟨#[46,46,46]⟩))),(.o (.c (.string ⟨#[111,46,111]⟩)))])),(1,.c 9 3 (mkT [(.o (.c (.string ⟨#[111,46,46,111]⟩))),(.o (.c (.string ⟨#[46,35,46,46]⟩))),(.o (.c (.string ⟨#[111,46,46,111]⟩)))]))]
end Go.Ev
end
section
set_option linter.unusedVariables false
set_option linter.constructorNameAsVariable false
namespace Go.Ev
noncomputable def strs (l:List Sc) (K:List ByteArray→R):R:=List.rec (motive:=fun _=>(List ByteArray→R)→R) (fun K=>K []) (fun s _ ih K=>(match s with | .o (.c (.string b))=>ih fun r=>K (b::r) | _=>none)) l K
noncomputable def joined (l:List ByteArray) (sep:ByteArray):List UInt8:=Lib.join (l.map (·.data.toList)) sep.data.toList
noncomputable def orJoin:Orc:=.mk fun args h K=>args2 args fun x y=>asO x fun x=>asO y fun y=>(match y with
 | .c (.string sep)=>(match x with
  | .s id off n c=>gd (Nat.ble n c) <| gd (Nat.blt 0 n && Nat.ble n 1000) (cellsS (.s id off n c) 1 h fun m cs=>strs cs fun l=>gd (Nat.ble (joined l sep).length 100000) (K (.x (.o (.c (.string ⟨(joined l sep).toArray⟩)))) h))
  | .w id off n c=>gd (Nat.blt 0 n && Nat.ble n 1000) (cellsS (.w id off n c) 1 h fun m cs=>strs cs fun l=>gd (Nat.ble (joined l sep).length 100000) (K (.x (.o (.c (.string ⟨(joined l sep).toArray⟩)))) h))
  | _=>none)
 | _=>none)
noncomputable def orTrim:Orc:=.mk fun args h K=>args2 args fun x y=>asO x fun x=>asO y fun y=>(match x,y with
 | .c (.string s),.c (.string cs)=>gd (Nat.ble s.size 100000 && Nat.ble cs.size 1000 && cs.data.toList.all (fun b=>Nat.blt b.toNat 128)) (K (.x (.o (.c (.string ⟨(Lib.trimS s.data.toList cs.data.toList).toArray⟩)))) h)
 | _,_=>none)
noncomputable def orCount:Orc:=.mk fun args h K=>args2 args fun x y=>asO x fun x=>asO y fun y=>(match x,y with
 | .c (.string s),.c (.string cs)=>(match cs.data.toList with | [c]=>nat (Lib.countByte s.data.toList c) fun n=>K (.i .i64 (.ofNat n)) h | _=>none)
 | _,_=>none)
noncomputable def byts (l:List Sc) (K:List UInt8→R):R:=List.rec (motive:=fun _=>(List UInt8→R)→R) (fun K=>K []) (fun s _ ih K=>(match s with | .i .u8 (.ofNat n)=>gd (Nat.blt n 256) (ih fun r=>K (UInt8.ofNat n::r)) | _=>none)) l K
noncomputable def orCopy:Orc:=.mk fun args h K=>ku args fun x=>asP x fun id off=>gd (Nat.beq off 0) (match hget h id with
 | .c E n t=>gd (Nat.beq E 563 && Nat.beq n 2) (match t.get 0 with
  | .x (.p i o)=>gd (Nat.beq i id && Nat.beq o 0) (K (.t []) h)
  | .x (.o (.c (.pointer none)))=>editB h id fun n t mk=>gd (Nat.ble 1 n) (setL [.p id 0] t 0 fun t=>xm h id (mk t) fun h=>K (.t []) h)
  | _=>none)
 | _=>none)
noncomputable def orStr:Orc:=.mk fun args h K=>ku args fun x=>asP x fun id off=>gd (Nat.beq off 0) (match hget h id with
 | .c E n t=>gd (Nat.beq E 563 && Nat.beq n 2) (match t.get 1 with
  | .x (.o (.w i o m c))=>gd (Nat.beq o 0 && Nat.blt 0 m) (match hget h i with
   | .r E' n' t'=>gd (Nat.beq E' 5 && Nat.ble m n') (getL t' 0 m fun cs=>byts cs fun l=>xm h i .x fun h=>K (.x (.o (.c (.string ⟨l.toArray⟩)))) h)
   | _=>none)
  | _=>none)
 | _=>none)
noncomputable def O1 (f:FuncId):Option Orc:=bif Nat.beq f 514 then some orJoin else bif Nat.beq f 515 then some orTrim else bif Nat.beq f 516 then some orCount else bif Nat.beq f 595 then some orCopy else bif Nat.beq f 532 then some orStr else none
end Go.Ev
end
section
namespace Go.Ev
noncomputable def τ286_13:L3:=mkF [.x (.o .u),(.x (.p 6 0)),(.x (.p 7 0)),(.x (.i .i64 (.ofNat 0))),(.x (.i .i64 (.ofNat 20))),(.x (.i .i64 (.ofNat 3))),(.x (.i .i64 (.ofNat 4))),(.x (.i .i64 (.ofNat 8))),(.x (.i .i64 (.ofNat 0))),.x (.o .u),(.x (.i .i64 (.ofNat 14))),(.x (.i .i64 (.ofNat 2))),(.x (.i .i64 (.ofNat 0))),(.x (.i .i64 (.ofNat 6))),(.x (.i .i64 (.ofNat 0))),(.x (.o (.s 1836 0 2 2))),(.x (.i .i64 (.ofNat 0))),(.x (.o (.w 1968 0 2 0))),(.x (.i .i64 (.ofNat 0))),(.x (.i .i64 (.ofNat 0))),(.x (.i .i64 (.ofNat 16))),(.x (.i .i64 (.ofNat 3))),(.x (.o (.w 2654 0 2 0))),(.x (.i .i64 (.ofNat 0))),(.x (.p 15580 0)),(.x (.i .i64 (.ofNat 0))),.x (.o .u),.x (.o .u),.x (.o .u),.x (.o .u),.x (.o .u),.x (.o .u),.x (.o .u),.x (.o .u),.x (.o .u),.x (.o .u),.x (.o .u),.x (.o .u),.x (.o .u),.x (.o .u),.x (.o .u),.x (.o .u),.x (.o .u),.x (.o .u),.x (.o .u),.x (.o .u),.x (.o .u),.x (.o .u),.x (.o .u),.x (.o .u),.x (.o .u),.x (.o .u),.x (.o .u),.x (.o .u),.x (.o .u),.x (.o .u),.x (.o .u),.x (.o .u),.x (.o .u),.x (.o .u),.x (.o .u),.x (.o .u),.x (.o .u),.x (.o .u),.x (.o .u),.x (.o .u),.x (.o .u),.x (.o .u),.x (.o .u),.x (.o .u),.x (.o .u),.x (.o .u),.x (.o .u),.x (.o .u),.x (.o .u),.x (.o .u),.x (.o .u),.x (.o .u),.x (.o .u),.x (.o .u),.x (.o .u),.x (.o .u),.x (.o .u),.x (.o .u),.x (.o .u),.x (.o .u),.x (.o .u),.x (.o .u),.x (.o .u),.x (.o .u),.x (.o .u),.x (.o .u),.x (.o .u),.x (.o .u),.x (.o .u),.x (.o .u),.x (.o .u),.x (.o .u),.x (.o .u),.x (.o .u),.x (.o .u),.x (.o .u),.x (.o .u),.x (.o .u),.x (.o .u),.x (.o .u),.x (.o .u),.x (.o .u),.x (.o .u),.x (.o .u),.x (.o .u),.x (.o .u),.x (.o .u),.x (.o .u),.x (.o .u),.x (.o .u),.x (.o .u),.x (.o .u),.x (.o .u),.x (.o .u),.x (.o .u),.x (.o .u),.x (.o .u),.x (.o .u),.x (.o .u),.x (.o .u),.x (.o .u),.x (.o .u),.x (.o .u),.x (.o .u),.x (.o .u),.x (.o .u),.x (.o .u),.x (.o .u),.x (.o .u),.x (.o .u),.x (.o .u),.x (.o .u),.x (.o .u),.x (.o .u),.x (.o .u),.x (.o .u),.x (.o .u),.x (.o .u),.x (.o .u),.x (.o .u),.x (.o .u),.x (.o .u),.x (.o .u),.x (.o .u),.x (.o .u),.x (.o .u),.x (.o .u),.x (.o .u),.x (.o .u),.x (.o .u),.x (.o .u),.x (.o .u),.x (.o .u),.x (.o .u),.x (.o .u),.x (.o .u),.x (.o .u),.x (.o .u),.x (.o .u),.x (.o .u),.x (.o .u),.x (.o .u),.x (.o .u),.x (.o .u),.x (.o .u),.x (.o .u),.x (.o .u),.x (.o .u),.x (.o .u),.x (.o .u),.x (.o .u),.x (.o .u),.x (.o .u),.x (.o .u),.x (.o .u),.x (.o .u),.x (.o .u),.x (.o .u),.x (.o .u),.x (.o .u),.x (.o .u),.x (.o .u),.x (.o .u),.x (.o .u),.x (.o .u),.x (.o .u),.x (.o .u),.x (.o .u),.x (.o .u),.x (.o .u),.x (.o .u),.x (.o .u),.x (.o .u),.x (.o .u),.x (.o .u),.x (.o .u),.x (.o .u),.x (.o .u),.x (.o .u),.x (.o .u),.x (.o .u),.x (.o .u),.x (.o .u),.x (.o .u),.x (.o .u),.x (.o .u),.x (.o .u),.x (.o .u),.x (.o .u),.x (.o .u),.x (.o .u),.x (.o .u),.x (.o .u),.x (.o .u),.x (.o .u),.x (.o .u),.x (.o .u),.x (.o .u),.x (.o .u),.x (.o .u),.x (.o .u),.x (.o .u),.x (.o .u),.x (.o .u),.x (.o .u),.x (.o .u),.x (.o .u),.x (.o .u),.x (.o .u),.x (.o .u),.x (.o .u),.x (.o .u),.x (.o .u),.x (.o .u),.x (.o .u),.x (.o .u),.x (.o .u),.x (.o .u),.x (.o .u),.x (.o .u),.x (.o .u),.x (.o .u),.x (.o .u),.x (.o .u),.x (.o .u),.x (.o .u),.x (.o .u),.x (.o .u),.x (.o .u),.x (.o .u),.x (.o .u),.x (.o .u),.x (.o .u),.x (.o .u),.x (.o .u),.x (.o .u),.x (.o .u),.x (.o .u),.x (.o .u),.x (.o .u),.x (.o .u),.x (.o .u),.x (.o .u),.x (.o .u),.x (.o .u),.x (.o .u),.x (.o .u),.x (.o .u),.x (.o .u),.x (.o .u)] 0 L3.e
noncomputable def h286_13:H:=mkH 15581 [(15580,.c 327 4 (mkT [(.i .i64 (.ofNat 0)),(.i .i64 (.ofNat 2)),(.i .i64 (.ofNat 3)),(.i .i64 (.ofNat 2))])),(2654,.r 22 2 (mkT [(.o (.w 2397 0 2 0)),(.o (.w 2590 0 2 0))])),(1968,.r 3 2 (mkT [(.i .i64 (.ofNat 0)),(.i .i64 (.ofNat 3))])),(1836,.c 327 8 (mkT [(.i .i64 (.ofNat 0)),(.i .i64 (.ofNat 0)),(.i .i64 (.ofNat 3)),(.i .i64 (.ofNat 1)),(.i .i64 (.ofNat 0)),(.i .i64 (.ofNat 3)),(.i .i64 (.ofNat 3)),(.i .i64 (.ofNat 1))])),(7,.c 322 2 (mkT [(.o (.s 4 0 4 4)),(.i .i64 (.ofNat 4))])),(6,.c 322 2 (mkT [(.o (.s 1 0 3 3)),(.i .i64 (.ofNat 4))])),(2590,.r 3 2 (mkT [(.i .i64 (.ofNat 1)),(.i .i64 (.ofNat 3))])),(2397,.r 3 2 (mkT [(.i .i64 (.ofNat 0)),(.i .i64 (.ofNat 2))])),(4,.c 9 4 (mkT [(.o (.c (.string ⟨#[111,46,111]⟩))),(.o (.c (.string ⟨#[46,35,46]⟩))),(.o (.c (.string ⟨#[46,46,46]⟩))),(.o (.c (.string ⟨#[111,46,111]⟩)))])),(1,.c 9 3 (mkT [(.o (.c (.string ⟨#[111,46,46,111]⟩))),(.o (.c (.string ⟨#[46,35,46,46]⟩))),(.o (.c (.string ⟨#[111,46,46,111]⟩)))]))]
end Go.Ev
end
