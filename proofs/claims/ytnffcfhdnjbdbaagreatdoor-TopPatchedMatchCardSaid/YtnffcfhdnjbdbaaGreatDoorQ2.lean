/- A part. -/
import Derived.WalkKit
import Derived.OrdersIn
import Derived.RangeFuncIn
import Derived.TacticsIn
import Derived.WalkSpells
import Derived.WalkLawsBesides
import Derived.RangeFuncRecord
import Derived.Maps.RangeRun
import Derived.Laws.StructEq
import Derived.Laws.MakeOwn
import Derived.KernelRfl
import Derived.Laws.Strings
import Derived.Laws.Slices
import Derived.Laws.DeepStrings4
import Derived.Test.YtnffcfhdnjbdbaaGreatDoorProg
import Derived.Lib.QuoteBits
set_option linter.unusedVariables false
set_option linter.unusedSimpArgs false
set_option linter.unusedSectionVars false
set_option linter.constructorNameAsVariable false
noncomputable section
namespace Go.Lw
open Go.RowKit
def FW (ro:Option Nat):Fence:={ fn:=λ_=>True,depth:=none,alive:=false,round:=ro }
theorem FW_round (ro:Option Nat):(FW ro).round=ro:=rfl
theorem FW_dep (ro:Option Nat) {p:Prop} : (FW ro).depth.isSome=true->p:=λh=>by cases h
theorem jG {ro:Option Nat} {n:Nat} {P:Program} {f:FuncId} {args:Array Value} {w:World} {R:Ending->World->Prop} : CallsIn (FW ro) n P f args w R↔Calls P f args w R:=by
 have h0:∀ (F:Fence),F.fn=(FW none).fn->F.depth=none->F.alive=false->(CallsIn F n P f args w R↔CallsIn Fence.wide n P f args w R):=by
  intro F h1 h2 h3;have e:∀ m:Machine,m.fenced P F↔m.fenced P Fence.wide:=λm=>by refine⟨λ_=>fenced_wide P m,λ_ g _=>⟨λh=>(by rw[h3]at h;cases h),Or.inl (by rw[h1];trivial),λ_ _=>(by rw[h1];trivial),λd hd=>(by rw[h2]at hd;cases hd)⟩⟩
  have e':Machine.fenced P F=Machine.fenced P Fence.wide:=funext λm=>propext (e m)
  unfold CallsIn;rw[e'];constructor
  ·rintro⟨_,h⟩;exact⟨trivial,λcs _=>h cs (λd hd=>(by rw[h2]at hd;cases hd))⟩
  ·rintro⟨_,h⟩;exact⟨by rw[h1];trivial,λcs _=>h cs (room_wide _)⟩
 exact(h0 (FW ro) rfl rfl rfl).trans callsIn_wide
def opW (P:Program) (o:Oper) (a:Act) (w:World) (K:Act->World->Prop):Prop:=
 match (execOp a.eval o).run P w with
 | .ok (.value v) w'=>K (a.put o.dst v) w'
 | .ok .skip w'=>K (a.put o.dst undef) w'
 | .ok (.enter f args) w'=>Calls P f args w' λe w''=>match e with
  | .returned v=>K (a.put o.dst v) w''
  | _=>False
 | .ok (.round l f tmps assign body) w'=>RoundIn (FW none) 0 P l f tmps assign body w' λe w''=>match e with
  | .returned v=>K (a.put o.dst v) w''
  | _=>False
 | _=>False
theorem opW_mono {P:Program} {o:Oper} {a:Act} {w:World} {K K':Act->World->Prop} (h:∀ a w,K a w->K' a w) (hh:opW P o a w K):opW P o a w K':=by
 unfold opW at *;generalize (execOp a.eval o).run P w=r at *;cases r with
 | ok x w'=>
  cases x<;>simp only at hh⊢<;>first
   | exact h _ _ hh
   | exact Calls.mono hh (λe w'' he=>by cases e<;>first | exact h _ _ he | exact he)
   | exact RoundIn.mono hh (λe w'' he=>by cases e<;>first | exact h _ _ he | exact he)
 | halt x w'=>exact hh
def Nd (o:Oper):Bool:=match o.op with | .defer _=>false | .select ..=>false | _=>true
theorem nd_defer {o:Oper} (h:Nd o=true):∀ c,o.op≠.defer c:=λc e=>by simp[Nd,e]at h
theorem nd_select {o:Oper} (h:Nd o=true):∀ cs b,o.op≠.select cs b:=λc b e=>by simp[Nd,e]at h
theorem roundIn_FW {ro:Option Nat} {P:Program} {l:Nat} {f:FuncId} {tmps:Array Value} {assign body:Code} {w:World} {R:Ending->World->Prop}
  (h:RoundIn (FW none) 0 P l f tmps assign body w R):RoundIn (FW ro) 0 P l f tmps assign body w R:=h
theorem opW_wpIn {P:Program} {o:Oper} {a:Act} {w:World} {K:Act->World->Prop} {Q:Exit->Act->World->Prop} {ro:Option Nat} (hn:Nd o=true)
  (h:opW P o a w K):o.wpIn (FW ro) 0 P a w K Q:=by
 refine⟨λ_ _=>trivial,?_⟩;rw[FW_round,Oper.semAt_eq ro a.eval o (nd_defer hn)];unfold opW at h;generalize (execOp a.eval o).run P w=r at *;cases r with
 | ok x w'=>
  cases x<;>simp only[Oper.uponIn]at h⊢<;>first
   | exact h
   | exact⟨FW_dep ro,jG.2 (Calls.mono h (λe w'' he=>by cases e<;>first | exact he | exact he.elim))⟩
   | exact⟨FW_dep ro,roundIn_FW (RoundIn.mono h (λe w'' he=>by cases e<;>first | exact he | exact he.elim))⟩
   | exact h.elim
 | halt x w'=>exact h.elim
def stW (P:Program) (ops:Array Oper) (o:Oper) (a:Act) (w:World) (K:Act->World->Prop):Prop:=
 if Region.wanted o (yielded ops a.tmps)then opW P o a w K else K (a.put o.dst undef) w
theorem qm {P:Program} {ops:Array Oper} {o:Oper} {a:Act} {w:World} {K K':Act->World->Prop} (h:∀ a w,K a w->K' a w) (hh:stW P ops o a w K):stW P ops o a w K':=by
 unfold stW at *;split
 ·rename_i hw;rw[if_pos hw]at hh;exact opW_mono h hh
 ·rename_i hw;rw[if_neg hw]at hh;exact h _ _ hh
theorem stW_wpOpIn {P:Program} {ops:Array Oper} {i:Nat} {o:Oper} {a:Act} {w:World} {K:Act->World->Prop} {Q:Exit->Act->World->Prop} {ro:Option Nat} (ho:ops[i]? = some o) (hn:Nd o=true)
  (h:stW P ops o a w K):wpOpIn (FW ro) 0 P ops Q i K a w:=by
 unfold wpOpIn;simp only[ho];unfold stW at h;split
 ·rename_i hw;rw[if_pos hw]at h;exact opW_wpIn hn h
 ·rename_i hw;rw[if_neg hw]at h;exact⟨λ_ _=>trivial,h⟩
def anyW (P:Program) (ops:Array Oper) (Qn:Act->World->Prop):Nat->Array Bool->Act->World->Prop
 | 0,listed,a,w=>Region.ready .any ops listed=[]/\Qn a w
 | fuel+1,listed,a,w=>(Region.ready .any ops listed=[]->Qn a w)/\
  ∀ i∈Region.ready .any ops listed,∃ o,ops[i]? = some o/\stW P ops o a w (anyW P ops Qn fuel (listed.setIfInBounds i true))
def Ndr (ops:Array Oper):Bool:=ops.all Nd
theorem ndr_at {ops:Array Oper} (h:Ndr ops=true) {i:Nat} {o:Oper} (ho:ops[i]? = some o):Nd o=true:=
 Array.all_eq_true_iff_forall_mem.1 h o (Array.mem_of_getElem? ho)
theorem anyW_sound {P:Program} {ops:Array Oper} {Q:Exit->Act->World->Prop} {ro:Option Nat} (hs:Ndr ops=true):∀ (fuel:Nat) (listed:Array Bool) (a:Act) (w:World),
  anyW P ops (Q .normal) fuel listed a w->wpAnyIn (FW ro) 0 P .any ops Q fuel listed a w
 | 0,_,_,_,h=>h
 | fuel+1,listed,a,w,h=>⟨h.1,λi hi=>by obtain⟨o,ho,hst⟩:=h.2 i hi;exact stW_wpOpIn ho (ndr_at hs ho) (qm (λa w=>anyW_sound hs fuel _ a w) hst)⟩
def anyM (P:Program) (ops:Array Oper) (Qn:Act->World->Prop) (M:List Nat) (S:World->Prop):Nat->Array Bool->Act->World->Prop
 | 0,listed,a,w=>Region.ready .any ops listed=[]/\Qn a w
 | fuel+1,listed,a,w=>(Region.ready .any ops listed=[]->Qn a w)/\
  ∀ i∈Region.ready .any ops listed,∃ o,ops[i]? = some o/\stW P ops o a w (λa' w'=>
   (M.contains i=false->S w'/\anyM P ops Qn M S fuel (listed.setIfInBounds i true) a' w')/\
   (M.contains i=true->anyW P ops Qn fuel (listed.setIfInBounds i true) a' w'))
section
variable {P:Program} {ops:Array Oper} {Qn:Act->World->Prop} {M:List Nat} {S S':World->Prop}
theorem anyM_any:∀ (fuel:Nat) (listed:Array Bool) (a:Act) (w:World),anyM P ops Qn M S fuel listed a w->anyW P ops Qn fuel listed a w
 | 0,_,_,_,h=>h
 | fuel+1,listed,a,w,h=>⟨h.1,λi hi=>by
   obtain⟨o,ho,hst⟩:=h.2 i hi;refine⟨o,ho,qm (λa w hk=>?_) hst⟩;cases hm:M.contains i with
   | false=>exact anyM_any fuel _ a w (hk.1 hm).2
   | true=>exact hk.2 hm⟩
theorem anyM_mono (hS:∀ w,S w->S' w):∀ (fuel:Nat) (listed:Array Bool) (a:Act) (w:World),anyM P ops Qn M S fuel listed a w->anyM P ops Qn M S' fuel listed a w
 | 0,_,_,_,h=>h
 | fuel+1,listed,a,w,h=>⟨h.1,λi hi=>by obtain⟨o,ho,hst⟩:=h.2 i hi;exact⟨o,ho,qm (λa w hk=>⟨λhm=>⟨hS _ (hk.1 hm).1,anyM_mono hS fuel _ a w (hk.1 hm).2⟩,hk.2⟩) hst⟩⟩
def jX (P:Program) (ops:Array Oper) (S:World->Prop) (o:Oper) (v:Value) (a:Act):Prop:=
 (Region.wanted o (yielded ops a.tmps)=true/\∀ w,S w->(execOp a.eval o).run P w=.ok (.value v) w)\/
 (Region.wanted o (yielded ops a.tmps)=false/\v=undef)
theorem jX.stW {o:Oper} {v:Value} {a:Act} (hy:jX P ops S o v a) {K:Act->World->Prop} {w:World} (hS:S w) (h:K (a.put o.dst v) w):stW P ops o a w K:=by
 unfold Go.Lw.stW;rcases hy with ⟨hw,hv⟩ | ⟨hw,rfl⟩
 ·rw[if_pos hw];unfold opW;rw[hv w hS];exact h
 ·rw[if_neg (by simp[hw])];exact h
theorem jX.of_same {o:Oper} {v:Value} {a a':Act} (hy:jX P ops S o v a) (he:execOp a'.eval o=execOp a.eval o)
  (hw:Region.wanted o (yielded ops a'.tmps)=Region.wanted o (yielded ops a.tmps)):jX P ops S o v a':=by
 unfold jX at *;rw[he,hw];exact hy
theorem stW_put {oi oj:Oper} {v:Value} (hap:oi.apart ops oj=true) (hsi:Nd oi=true) (hsj:Nd oj=true) {K:Act->World->Prop} {a:Act} {w:World}
  (hy:jX P ops S oi v a) (h:stW P ops oj (a.put oi.dst v) w K) :
  stW P ops oj a w (λa' w'=>jX P ops S oi v a'/\K (a'.put oi.dst v) w'):=by
 obtain⟨h1,h2,h3⟩:=Oper.apart_spec hap;have keep:∀ (a:Act),jX P ops S oi v a->∀ u,jX P ops S oi v (a.put oj.dst u):=λa hy u=>
  hy.of_same (execOp_put oi (nd_select hsi) a oj.dst u h3) (wanted_put oi a oj.dst u h3);unfold Go.Lw.stW at *;rw[wanted_put oj a oi.dst v h1]at h;split
 ·rename_i hw;rw[if_pos hw]at h;unfold opW at *;rw[execOp_put oj (nd_select hsj) a oi.dst v h1]at h;generalize (execOp a.eval oj).run P w=r at *;cases r with
  | ok x w'=>
   cases x<;>simp only at h⊢
   case value u=>exact⟨keep a hy u,by rw[<-Act.put_comm a v u h2];exact h⟩
   case skip=>exact⟨keep a hy _,by rw[<-Act.put_comm a v undef h2];exact h⟩
   case enter f args=>
    refine Calls.mono h λe w'' he=>?_;cases e with
    | returned u=>exact⟨keep a hy u,by rw[<-Act.put_comm a v u h2];exact he⟩
    | panicked c=>exact he
    | outgrown=>exact he
   case round l f tmps assign body=>
    refine RoundIn.mono h λe w'' he=>?_;cases e with
    | returned u=>exact⟨keep a hy u,by rw[<-Act.put_comm a v u h2];exact he⟩
    | panicked c=>exact he
    | outgrown=>exact he
  | halt x w'=>exact h
 ·rename_i hw;rw[if_neg hw]at h;exact⟨keep a hy _,by rw[<-Act.put_comm a v undef h2];exact h⟩
inductive Waits (ops:Array Oper):Nat->Nat->Prop
 | one {j i:Nat} {o:Oper} {e:Edge} (ho:ops[j]? = some o) (he:e∈o.after) (hb:Region.binds .any e=true) (hi:e.on=i):Waits ops j i
 | more {j i:Nat} {o:Oper} {e:Edge} (ho:ops[j]? = some o) (he:e∈o.after) (hb:Region.binds .any e=true) (h:Waits ops e.on i):Waits ops j i
def Down (ops:Array Oper) (listed:Array Bool):Prop:=∀ (j:Nat) (o:Oper),listed.getD j false=true->ops[j]? = some o->∀ e∈o.after,Region.binds .any e=true->listed.getD e.on false=true
theorem Down.waits {listed:Array Bool} (hd:Down ops listed) {j i:Nat} (hw:Waits ops j i) (hj:listed.getD j false=true):listed.getD i false=true:=by
 induction hw with
 | one ho he hb hi=>subst hi;exact hd _ _ hj ho _ he hb
 | more ho he hb _ ih=>exact ih (hd _ _ hj ho _ he hb)
theorem ready_waits {listed:Array Bool} (hd:Down ops listed) {j i:Nat} (hw:Waits ops j i) (hj:j∈Region.ready .any ops listed):listed.getD i false=true:=by
 obtain⟨_,o,ho,hall⟩:=mem_ready.1 hj;cases hw with
 | one ho' he hb hi=>rw[ho]at ho';cases ho';subst hi;exact hall _ he hb
 | more ho' he hb h=>rw[ho]at ho';cases ho';exact hd.waits h (hall _ he hb)
theorem Down.set {listed:Array Bool} (hd:Down ops listed) {j:Nat} (hj:j∈Region.ready .any ops listed):Down ops (listed.setIfInBounds j true):=by
 obtain⟨hj0,o,ho,hall⟩:=mem_ready.1 hj;intro k ok hk hok e he hb;by_cases hkj:j=k
 ·subst hkj;rw[ho]at hok;cases hok;exact getD_set_true (hall e he hb)
 ·rw[getD_set_ne false hkj]at hk;exact getD_set_true (hd k ok hk hok e he hb)
theorem anyM_first {i:Nat} {oi:Oper} {v:Value} (hi:ops[i]? = some oi) (hs:Ndr ops=true) (hMi:M.contains i=false) :
  ∀ (fuel:Nat) (listed:Array Bool) (a:Act) (w:World),Down ops listed->
   (∀ j,M.contains j=true->listed.getD j true=false->Waits ops j i)->
   (∀ j oj,ops[j]? = some oj->j≠i->listed.getD j true=false->(∀ e∈oj.after,Region.binds .any e=true->e.on≠i)->oi.apart ops oj=true)->
   i∈Region.ready .any ops listed->jX P ops S oi v a->S w->
   anyM P ops Qn M S fuel (listed.setIfInBounds i true) (a.put oi.dst v) w->anyM P ops Qn M S (fuel+1) listed a w:=by
 intro fuel;induction fuel with
 | zero=>
  intro listed a w hd _ _ hr hy hS H;refine⟨λh=>(by rw[h]at hr;cases hr),λj hj=>?_⟩;by_cases hji:j=i
  ·subst hji;exact⟨oi,hi,hy.stW hS ⟨λ_=>⟨hS,H⟩,λh=>(by rw[hMi]at h;cases h)⟩⟩
  ·have:=ready_mono hj hji
   rw[H.1]at this;cases this
 | succ fuel ih=>
  intro listed a w hd hM hfree hr hy hS H;refine⟨λh=>(by rw[h]at hr;cases hr),λj hj=>?_⟩;by_cases hji:j=i
  ·subst hji;exact⟨oi,hi,hy.stW hS ⟨λ_=>⟨hS,H⟩,λh=>(by rw[hMi]at h;cases h)⟩⟩
  ·obtain⟨oj',hoj',h1⟩:=H.2 j (ready_mono hj hji);obtain⟨hjun,oj,hoj,hall⟩:=mem_ready.1 hj;have e:=Option.some.inj (hoj.symm.trans hoj');subst e;have hun:listed.getD i false=false:=by
    have h0:=(mem_ready.1 hr).1
    rcases Nat.lt_or_ge i listed.size with h' | h'
    ·simp[h']at h0⊢;exact h0
    ·simp[Array.getElem?_eq_none h']
   have hnot:∀ e∈oj.after,Region.binds .any e=true->e.on≠i:=λe he hb heq=>by
    have h1:=hall e he hb
    rw[heq,hun]at h1;cases h1
   have hMj:M.contains j=false:=by
    cases hm:M.contains j with
    | false=>rfl
    | true=>
     have:=ready_waits hd (hM j hm hjun) hj
     rw[hun]at this;cases this
   have h2:=stW_put (hfree j oj hoj hji hjun hnot) (ndr_at hs hi) (ndr_at hs hoj) hy h1
   have keepUn:∀ k,(listed.setIfInBounds j true).getD k true=false->listed.getD k true=false:=λk hun=>by
    by_cases hjk:j=k
    ·subst hjk;exact hjun
    ·rw[getD_set_ne true hjk]at hun;exact hun
   have hfree':∀ k ok,ops[k]? = some ok->k≠i->(listed.setIfInBounds j true).getD k true=false->
     (∀ e∈ok.after,Region.binds .any e=true->e.on≠i)->oi.apart ops ok=true:=λk ok hk hki hun hno=>hfree k ok hk hki (keepUn k hun) hno
   refine⟨oj,hoj,qm (λa' w' h3=>⟨λ_=>?_,λh=>(by rw[hMj]at h;cases h)⟩) h2⟩;have h4:=h3.2.1 hMj;refine⟨h4.1,ih (listed.setIfInBounds j true) a' w' (hd.set hj) (λk hm hk=>hM k hm (keepUn k hk)) hfree' (ready_mono hr (Ne.symm hji)) h3.1 h4.1 ?_⟩;rw[Array.setIfInBounds_comm _ _ hji];exact h4.2
end
inductive Tr
 | done
 | q (i:Nat) (t:Tr)
 | n (writes:Bool) (i:Nat) (t:Tr)
 | two (i:Nat) (t:Tr) (j:Nat) (u:Tr)
 | br (is:List Nat) (f:Nat->Tr)
def tT:Nat->List Nat->Tr
 | _,[]=>.done
 | i,0::l=>.q i (tT (i+1) l)
 | i,1::l=>.n false i (tT (i+1) l)
 | i,_::l=>.n true i (tT (i+1) l)
def wpT (P:Program) (ops:Array Oper) (Qn:Act->World->Prop):Tr->(World->Prop)->Act->World->Prop
 | .done,_,a,w=>Qn a w
 | .q i t,S,a,w=>∃ o v,ops[i]? = some o/\jX P ops S o v a/\wpT P ops Qn t S (a.put o.dst v) w
 | .n wr i t,S,a,w=>∃ o,ops[i]? = some o/\stW P ops o a w (λa' w'=>∃ S':World->Prop,(wr=false->∀ u,S' u->S u)/\S' w'/\wpT P ops Qn t S' a' w')
 | .two i t j u,S,a,w=>(∃ o,ops[i]? = some o/\stW P ops o a w (λa' w'=>∃ S':World->Prop,(∀ u,S' u->S u)/\S' w'/\wpT P ops Qn t S' a' w'))/\
   (∃ o,ops[j]? = some o/\stW P ops o a w (λa' w'=>∃ S':World->Prop,(∀ u,S' u->S u)/\S' w'/\wpT P ops Qn u S' a' w'))
 | .br is f,S,a,w=>∀ i∈is,(∃ o,ops[i]? = some o/\stW P ops o a w (λa' w'=>∃ S':World->Prop,(∀ u,S' u->S u)/\S' w'/\wpT P ops Qn (f i) S' a' w'))
def Tr.len:Tr->Nat
 | .done=>0
 | .q _ t=>t.len+1
 | .n _ _ t=>t.len+1
 | .two _ t _ u=>max t.len u.len+1
 | .br is f=>is.foldr (λi m=>max (f i).len m) 0+1
def Tr.muts:Tr->List Nat
 | .done=>[]
 | .q _ t=>t.muts
 | .n wr i t=>if wr then i::t.muts else t.muts
 | .two _ t _ u=>t.muts++u.muts
 | .br is f=>is.flatMap λi=>(f i).muts
def waitsB (ops:Array Oper):Nat->Nat->Nat->Bool
 | 0,_,_=>false
 | fuel+1,j,i=>match ops[j]? with
  | none=>false
  | some o=>o.after.any λe=>Region.binds .any e && (e.on == i || (i<e.on && waitsB ops fuel e.on i))
theorem waitsB_spec {ops:Array Oper} : ∀ (fuel j i:Nat),waitsB ops fuel j i=true->Waits ops j i
 | 0,_,_,h=>by simp[waitsB]at h
 | fuel+1,j,i,h=>by
  unfold waitsB at h;cases ho:ops[j]? with
  | none=>rw[ho]at h;cases h
  | some o=>
   rw[ho]at h;obtain⟨e,he,hb⟩:=Array.any_eq_true'.1 h;simp only[Bool.and_eq_true,Bool.or_eq_true,beq_iff_eq,decide_eq_true_eq]at hb;rcases hb.2 with h1 | h1
   ·exact .one ho he hb.1 h1
   ·exact .more ho he hb.1 (waitsB_spec fuel _ _ h1.2)
def Tr.chk (ops:Array Oper) (M:List Nat) (wt:Nat->Nat->Bool):Tr->Array Bool->Bool
 | .done,listed=>(Region.ready .any ops listed).isEmpty
 | .q i t,listed=>Region.free .any ops listed i && (Region.ready .any ops listed).contains i && !M.contains i &&
   M.all (λj=>listed.getD j true || wt j i) && t.chk ops M wt (listed.setIfInBounds i true)
 | .n wr i t,listed=>(Region.ready .any ops listed == [i]) && (M.contains i == wr) && t.chk ops M wt (listed.setIfInBounds i true)
 | .two i t j u,listed=>(Region.ready .any ops listed == [i,j]) && !M.contains i && !M.contains j && t.chk ops M wt (listed.setIfInBounds i true) && u.chk ops M wt (listed.setIfInBounds j true)
 | .br is f,listed=>!is.isEmpty && (Region.ready .any ops listed == is) && is.all λi=>!M.contains i && (f i).chk ops M wt (listed.setIfInBounds i true)
theorem len_le {f:Nat->Tr} : ∀ {is:List Nat} {i:Nat},i∈is->(f i).len<=is.foldr (λi m=>max (f i).len m) 0
 | j::is,i,h=>by
  simp only[List.foldr_cons];rcases List.mem_cons.1 h with rfl | h
  ·exact Nat.le_max_left _ _
  ·exact Nat.le_trans (len_le h) (Nat.le_max_right _ _)
theorem wpT_sound {P:Program} {ops:Array Oper} {Qn:Act->World->Prop} {M:List Nat} {wt:Nat->Nat->Bool} (hs:Ndr ops=true) (hw:∀ j i,wt j i=true->Waits ops j i) :
  ∀ (t:Tr) (listed:Array Bool) (fuel:Nat) (S:World->Prop) (a:Act) (w:World),t.len<=fuel->Down ops listed->t.chk ops M wt listed=true->S w->wpT P ops Qn t S a w->
   anyM P ops Qn M S fuel listed a w:=by
 intro t;induction t with
 | done=>
  intro listed fuel S a w _ _ hc _ h;have hr:Region.ready .any ops listed=[]:=by simpa [Tr.chk]using hc
  cases fuel with
  | zero=>exact⟨hr,h⟩
  | succ f=>exact⟨λ_=>h,by rw[hr];simp⟩
 | q i t ih=>
  intro listed fuel S a w hf hd hc hS h;obtain⟨o,v,ho,hy,h⟩:=h;simp only[Tr.chk,Bool.and_eq_true,Bool.not_eq_true']at hc;obtain⟨⟨⟨⟨hfree,hready⟩,hMi⟩,hM⟩,hc⟩:=hc;cases fuel with
  | zero=>simp[Tr.len]at hf
  | succ f=>
   have hr:i∈Region.ready .any ops listed:=by simpa using hready
   refine anyM_first ho hs hMi f listed a w hd (λj hm hj=>?_) (Region.free_spec ho hfree) hr hy hS
    (ih _ f S _ w (by simp[Tr.len]at hf;omega) (hd.set hr) hc hS h);have:=List.all_eq_true.1 hM j (by simpa using hm);rw[hj,Bool.false_or]at this;exact hw j i this
 | n wr i t ih=>
  intro listed fuel S a w hf hd hc hS h;obtain⟨o,ho,h⟩:=h;simp only[Tr.chk,Bool.and_eq_true,beq_iff_eq]at hc;obtain⟨⟨hr,hm⟩,hc⟩:=hc;cases fuel with
  | zero=>simp[Tr.len]at hf
  | succ f=>
   refine⟨λh0=>(by rw[hr]at h0;cases h0),λj hj=>?_⟩;have hj':=hj;rw[hr]at hj;obtain rfl:j=i:=by simpa using hj
   refine⟨o,ho,qm (λa' w' hk=>?_) h⟩;obtain⟨S',hle,hS',hk⟩:=hk;have h2:=ih _ f S' a' w' (by simp[Tr.len]at hf;omega) (hd.set hj') hc hS' hk;refine⟨λhm'=>?_,λhm'=>anyM_any _ _ _ _ h2⟩;rw[hm']at hm;exact⟨hle hm.symm _ hS',anyM_mono (hle hm.symm) _ _ _ _ h2⟩
 | two i t j u iht ihu=>
  intro listed fuel S a w hf hd hc hS h;obtain⟨⟨o1,ho1,h1⟩,⟨o2,ho2,h2⟩⟩:=h;simp only[Tr.chk,Bool.and_eq_true,beq_iff_eq,Bool.not_eq_true']at hc;obtain⟨⟨⟨⟨hr,hm1⟩,hm2⟩,hc1⟩,hc2⟩:=hc;cases fuel with
  | zero=>simp[Tr.len]at hf
  | succ f=>
   simp only[Tr.len]at hf;refine⟨λh0=>(by rw[hr]at h0;cases h0),λk hk=>?_⟩;have hk':=hk;rw[hr]at hk;simp at hk;rcases hk with rfl | rfl
   ·refine⟨o1,ho1,qm (λa' w' hk=>?_) h1⟩;obtain⟨S',hle,hS',hk⟩:=hk;have h3:=iht _ f S' a' w' (by omega) (hd.set hk') hc1 hS' hk;exact⟨λ_=>⟨hle _ hS',anyM_mono hle _ _ _ _ h3⟩,λhm'=>(by rw[hm1]at hm';cases hm')⟩
   ·refine⟨o2,ho2,qm (λa' w' hk=>?_) h2⟩;obtain⟨S',hle,hS',hk⟩:=hk;have h3:=ihu _ f S' a' w' (by omega) (hd.set hk') hc2 hS' hk;exact⟨λ_=>⟨hle _ hS',anyM_mono hle _ _ _ _ h3⟩,λhm'=>(by rw[hm2]at hm';cases hm')⟩
 | br is g ih=>
  intro listed fuel S a w hf hd hc hS h;simp only[Tr.chk,Bool.and_eq_true,beq_iff_eq]at hc;obtain⟨⟨hb0,hr⟩,hall⟩:=hc;cases fuel with
  | zero=>simp[Tr.len]at hf
  | succ f=>
   simp only[Tr.len]at hf;refine⟨λh0=>?_,λk hk=>?_⟩
   ·rw[hr]at h0;subst h0;simp at hb0
   ·have hk':=hk
    rw[hr]at hk;obtain⟨o1,ho1,h1⟩:=h k hk;have hc:=List.all_eq_true.1 hall k hk;simp only[Bool.and_eq_true,Bool.not_eq_true']at hc;refine⟨o1,ho1,qm (λa' w' hk=>?_) h1⟩;obtain⟨S',hle,hS',hk2⟩:=hk;have h3:=ih k _ f S' a' w' (by have:=len_le (f:=g) hk;omega) (hd.set hk') hc.2 hS' hk2;exact⟨λ_=>⟨hle _ hS',anyM_mono hle _ _ _ _ h3⟩,λhm'=>(by rw[hc.1]at hm';cases hm')⟩
def Tr.okDraw (ops:Array Oper) (t:Tr):Bool:=
 Ndr ops && decide (t.len<=ops.size) && t.chk ops t.muts (λj i=>waitsB ops ops.size j i) (Array.replicate ops.size false)
theorem wp_region_drawn {P:Program} {id:Nat} {ops:Array Oper} {Q:Exit->Act->World->Prop} {a:Act} {w:World} {ro:Option Nat} (t:Tr) (hm:P.follows .mixedOrders=true)
  (hc:t.okDraw ops=true) (S:World->Prop) (hS:S w.drew) (h:wpT P ops (Q .normal) t S a w.drew):(Code.region id ops true).wpIn (FW ro) 0 P Q a w:=by
 simp only[Tr.okDraw,Bool.and_eq_true,decide_eq_true_eq]at hc;refine wpIn_region_any hm ?_;refine anyW_sound hc.1.1 _ _ _ _ (anyM_any _ _ _ _ (wpT_sound (wt:=λj i=>waitsB ops ops.size j i) hc.1.1 (λj i h=>waitsB_spec _ j i h) t _ _ S a _ hc.1.2 ?_ hc.2 hS h));intro j o hj;simp[Array.getElem?_replicate]at hj;split at hj<;>simp at hj
def Tr.lin (n:Nat):Tr->Nat->Bool
 | .done,k=>k == n
 | .q i t,k=>i == k && t.lin n (k+1)
 | .n _ i t,k=>i == k && t.lin n (k+1)
 | .two ..,_=>false
 | .br ..,_=>false
theorem wpT_lin {P:Program} {ops:Array Oper} {Q:Exit->Act->World->Prop} {ro:Option Nat} (hs:Ndr ops=true):∀ (t:Tr) (k:Nat) (S:World->Prop) (a:Act) (w:World),t.lin ops.size k=true->S w->wpT P ops (Q .normal) t S a w->
  k<=ops.size/\wpOpsIn (FW ro) 0 P ops Q (List.range' k (ops.size-k)) a w:=by
 intro t;induction t with
 | done=>
  intro k S a w hl _ h;have:k=ops.size:=by simpa [Tr.lin]using hl
  subst this;have h':Q .normal a w:=h;exact⟨Nat.le_refl _,by simpa [wpOpsIn]using h'⟩
 | q i t ih=>
  intro k S a w hl hS h;simp only[Tr.lin,Bool.and_eq_true,beq_iff_eq]at hl;obtain⟨rfl,hl⟩:=hl;obtain⟨o,v,ho,hy,h⟩:=h;obtain⟨hk,h⟩:=ih _ S _ w hl hS h;have e:ops.size-i=(ops.size-(i+1))+1:=by omega
  rw[e,List.range'_succ];refine⟨by omega,?_⟩;rw[wpOpsIn_cons];exact stW_wpOpIn ho (ndr_at hs ho) (hy.stW hS h)
 | n wr i t ih=>
  intro k S a w hl hS h;simp only[Tr.lin,Bool.and_eq_true,beq_iff_eq]at hl;obtain⟨rfl,hl⟩:=hl;obtain⟨o,ho,h⟩:=h;have hk:i+1<=ops.size:=(Array.getElem?_eq_some_iff.1 ho).1;have e:ops.size-i=(ops.size-(i+1))+1:=by omega
  rw[e,List.range'_succ];refine⟨by omega,?_⟩;rw[wpOpsIn_cons];refine stW_wpOpIn ho (ndr_at hs ho) (qm (λa' w' hk=>?_) h);obtain⟨S',_,hS',hk⟩:=hk;exact(ih _ S' a' w' hl hS' hk).2
 | two i t j u _ _=>intro k S a w hl;simp[Tr.lin]at hl
 | br is f _=>intro k S a w hl;simp[Tr.lin]at hl
def Tr.okText (ops:Array Oper) (t:Tr):Bool:=Ndr ops && t.lin ops.size 0
theorem wp_region_text {P:Program} {id:Nat} {ops:Array Oper} {Q:Exit->Act->World->Prop} {a:Act} {w:World} {ro:Option Nat} (t:Tr)
  (hc:t.okText ops=true) (S:World->Prop) (hS:S w) (h:wpT P ops (Q .normal) t S a w):(Code.region id ops false).wpIn (FW ro) 0 P Q a w:=by
 simp only[Tr.okText,Bool.and_eq_true]at hc;refine wpIn_region ?_;have:=(wpT_lin (ro:=ro) hc.1 t 0 S a w hc.2 hS h).2;rw[List.range_eq_range'];simpa using this
abbrev View:=Nat->Option Obj
def Le (V V':View):Prop:=∀ k o,V k=some o->V' k=some o
theorem Le.refl (V:View):Le V V:=λ_ _ h=>h
theorem Le.trans {A B C:View} (h:Le A B) (k:Le B C):Le A C:=λi o hi=>k i o (h i o hi)
def hp (w:World):View:=λk=>w.heap[k]?
theorem Below.le {w w':World} (h:Below w.heap.size w w'):Le (hp w) (hp w'):=λk o hk=>by
 have hk':w.heap[k]? = some o:=hk
 show w'.heap[k]? = some o
 rw[h.block k (Array.getElem?_eq_some_iff.1 hk').1];exact hk'
theorem Le.lt {V:View} {w:World} (h:Le V (hp w)) {k:Nat} {o:Obj} (hk:V k=some o):k<w.heap.size:=(Array.getElem?_eq_some_iff.1 (show w.heap[k]? = some o from h k o hk)).1
inductive Own
 | blk (b:Nat) (o:Obj)
 | row (v:Value) (e:TypeId) (s n:Nat) (xs:List Value)
def Own.holds (B:Nat) (w:World):Own->List Nat->Prop
 | .blk b o,fp=>fp=[b]/\B<=b/\w.heap[b]? = some o
 | .row v e s n xs,fp=>fp=v.ownBlock.toList/\w.ownsRow B e s v n xs
def OwnsL (B:Nat) (w:World):List Own->List Nat->Prop
 | [],fp=>fp=[]
 | x::l,fp=>∃ f g,fp=f++g/\x.holds B w f/\OwnsL B w l g
theorem Own.holds.lt {B:Nat} {w:World} {x:Own} {fp:List Nat} (h:x.holds B w fp):∀ b∈fp,B<=b/\b<w.heap.size:=by
 cases x with
 | blk b o=>
  obtain⟨rfl,hB,ho⟩:=h;intro c hc;obtain rfl:c=b:=by simpa using hc
  exact⟨hB,(Array.getElem?_eq_some_iff.1 ho).1⟩
 | row v e s n xs=>obtain⟨rfl,ho⟩:=h;intro c hc;exact ho.lt c (by cases hv:v.ownBlock<;>simp[hv]at hc⊢;exact hc.symm)
theorem Own.holds.kept {B:Nat} {w w':World} {x:Own} {fp:List Nat} (h:x.holds B w fp) (hk:∀ b∈fp,w'.heap[b]? = w.heap[b]?):x.holds B w' fp:=by
 cases x with
 | blk b o=>
  obtain⟨rfl,hB,ho⟩:=h;exact⟨rfl,hB,by rw[hk b (by simp)];exact ho⟩
 | row v e s n xs=>
  obtain⟨rfl,h1,h2⟩:=h;refine⟨rfl,h1,?_⟩;rcases h2 with hn | ⟨g,cap,cur,rfl,hb,hg,rest⟩
  ·exact .inl hn
  ·exact .inr ⟨g,cap,cur,rfl,hb,by rw[hk g (by simp[Value.ownBlock])];exact hg,rest⟩
theorem OwnsL.lt {B:Nat} {w:World} : ∀ {O:List Own} {fp:List Nat},OwnsL B w O fp->∀ b∈fp,B<=b/\b<w.heap.size
 | [],_,h,b,hb=>by cases h;cases hb
 | _::_,_,⟨f,g,e,hx,hl⟩,b,hb=>by
  subst e;rcases List.mem_append.1 hb with h | h
  ·exact hx.lt b h
  ·exact hl.lt b h
theorem OwnsL.kept {B:Nat} {w w':World} : ∀ {O:List Own} {fp:List Nat},OwnsL B w O fp->(∀ b∈fp,w'.heap[b]? = w.heap[b]?)->OwnsL B w' O fp
 | [],_,h,_=>h
 | _::_,_,⟨f,g,e,hx,hl⟩,hk=>by subst e;exact⟨f,g,rfl,hx.kept λb hb=>hk b (List.mem_append_left _ hb),hl.kept λb hb=>hk b (List.mem_append_right _ hb)⟩
theorem OwnsL.perm {B:Nat} {w:World} {O O':List Own} (hp:O.Perm O'):∀ {fp:List Nat},OwnsL B w O fp->∃ fp',fp.Perm fp'/\OwnsL B w O' fp':=by
 induction hp with
 | nil=>exact λh=>⟨_,.refl _,h⟩
 | cons x _ ih=>
  rintro fp ⟨f,g,rfl,hx,hl⟩;obtain⟨g',hg,hl'⟩:=ih hl;exact⟨f++g',hg.append_left f,f,g',rfl,hx,hl'⟩
 | swap x y l=>
  rintro fp ⟨f,g,rfl,hx,f2,g2,rfl,hy,hl⟩;refine⟨f2++(f++g2),?_,f2,_,rfl,hy,f,g2,rfl,hx,hl⟩;rw[<-List.append_assoc,<-List.append_assoc];exact List.perm_append_comm.append_right g2
 | trans _ _ ih1 ih2=>intro fp h;obtain⟨f1,p1,h1⟩:=ih1 h;obtain⟨f2,p2,h2⟩:=ih2 h1;exact⟨f2,p1.trans p2,h2⟩
structure Cx where
 w0:World
 V0:View
 ds:List Deferred:=[]
structure Mem (cx:Cx) (O:List Own) (V:View) (w:World):Prop where
 below:Below cx.w0.heap.size cx.w0 w
 le0:Le cx.V0 V
 fresh:∀ k o,V k=some o->cx.V0 k=some o\/cx.w0.heap.size<=k
 view:Le V (hp w)
 own:∃ fp,OwnsL cx.w0.heap.size w O fp/\fp.Nodup/\∀ b∈fp,V b=none
section
variable {cx:Cx} {O O':List Own} {V V':View} {w w':World}
theorem Mem.perm (h:Mem cx O V w) (hp:O.Perm O'):Mem cx O' V w:=by obtain⟨fp,h1,h2,h3⟩:=h.own;obtain⟨fp',p,h1'⟩:=h1.perm hp;exact⟨h.below,h.le0,h.fresh,h.view,fp',h1',p.nodup_iff.1 h2,λb hb=>h3 b (p.mem_iff.2 hb)⟩
theorem Mem.drop {x:Own} (h:Mem cx (x::O) V w):Mem cx O V w:=by obtain⟨fp,⟨f,g,rfl,_,hl⟩,h2,h3⟩:=h.own;exact⟨h.below,h.le0,h.fresh,h.view,g,hl,(List.nodup_append.1 h2).2.1,λb hb=>h3 b (List.mem_append_right _ hb)⟩
inductive Part:List Own->List Own->Prop
 | nil (O:List Own):Part [] O
 | take {x:Own} {l O R:List Own} (hx:O.Perm (x::R)) (h:Part l R):Part (x::l) O
theorem Mem.cons {x:Own} (h:Mem cx (x::O) V w) {O':List Own} (hk:∀ fp,OwnsL cx.w0.heap.size w O fp->∃ fp',OwnsL cx.w0.heap.size w O' fp'/\(∀ b∈fp',b∈fp)/\(fp.Nodup->fp'.Nodup)):Mem cx (x::O') V w:=by
 obtain⟨fp,⟨f,g,rfl,hx,hl⟩,h2,h3⟩:=h.own;obtain⟨g',hl',hs,hn⟩:=hk g hl;obtain⟨n1,n2,n3⟩:=List.nodup_append.1 h2;refine⟨h.below,h.le0,h.fresh,h.view,f++g',⟨f,g',rfl,hx,hl'⟩,List.nodup_append.2 ⟨n1,hn n2,λa ha b hb=>n3 a ha b (hs b hb)⟩,λb hb=>?_⟩;rcases List.mem_append.1 hb with h | h
 ·exact h3 b (List.mem_append_left _ h)
 ·exact h3 b (List.mem_append_right _ (hs b h))
theorem Part.owns {B:Nat} {l O:List Own} (hp:Part l O):∀ {fp:List Nat},OwnsL B w O fp->∃ fp',OwnsL B w l fp'/\(∀ b∈fp',b∈fp)/\(fp.Nodup->fp'.Nodup):=by
 induction hp with
 | nil O=>exact λ_=>⟨[],rfl,λ_ h=>by(cases h),λ_=>List.nodup_nil⟩
 | take hx _ ih=>
  intro fp h;obtain⟨fp1,p,f,g,rfl,hx',hl⟩:=h.perm hx;obtain⟨g',hl',hs,hn⟩:=ih hl;refine⟨f++g',⟨f,g',rfl,hx',hl'⟩,λb hb=>p.mem_iff.2 ?_,λh=>?_⟩
  ·rcases List.mem_append.1 hb with h | h
   ·exact List.mem_append_left _ h
   ·exact List.mem_append_right _ (hs b h)
  ·obtain⟨n1,n2,n3⟩:=List.nodup_append.1 (p.nodup_iff.1 h);exact List.nodup_append.2 ⟨n1,hn n2,λa ha b hb=>n3 a ha b (hs b hb)⟩
theorem Mem.part (h:Mem cx O V w) (hp:Part O' O):Mem cx O' V w:=by obtain⟨fp,h1,h2,h3⟩:=h.own;obtain⟨fp',h1',hs,hn⟩:=hp.owns h1;exact⟨h.below,h.le0,h.fresh,h.view,fp',h1',hn h2,λb hb=>h3 b (hs b hb)⟩
theorem Mem.ext (h:Mem cx O V w) (hb:Below w.heap.size w w'):Mem cx O V w':=by obtain⟨fp,h1,h2,h3⟩:=h.own;exact⟨h.below.trans (hb.mono h.below.size),h.le0,h.fresh,h.view.trans (Below.le hb),fp,h1.kept λb hb'=>hb.block b (h1.lt b hb').2,h2,h3⟩
theorem Mem.more (h:Mem cx O V w) (hb:Below w.heap.size w w') (hl:Le V V') (hv:Le V' (hp w')) (hf:∀ k o,V' k=some o->V k=some o\/w.heap.size<=k):Mem cx O V' w':=by
 have h':=h.ext hb
 obtain⟨fp,h1,h2,h3⟩:=h.own;refine⟨h'.below,h.le0.trans hl,λk o hk=>?_,hv,fp,h1.kept λb hb'=>hb.block b (h1.lt b hb').2,h2,λb hb'=>?_⟩
 ·rcases hf k o hk with h4 | h4
  ·exact h.fresh k o h4
  ·exact .inr (Nat.le_trans h.below.size h4)
 ·cases hv':V' b with
  | none=>rfl
  | some o=>
   rcases hf b o hv' with h4 | h4
   ·rw[h3 b hb']at h4;cases h4
   ·have:=(h1.lt b hb').2;omega
theorem Mem.less (h:Mem cx O V' w) (h0:Le cx.V0 V) (hl:Le V V'):Mem cx O V w:=by
 obtain⟨fp,h1,h2,h3⟩:=h.own;refine⟨h.below,h0,λk o hk=>h.fresh k o (hl k o hk),hl.trans h.view,fp,h1,h2,λb hb=>?_⟩;cases hv:V b with
 | none=>rfl
 | some o=>have:=hl b o hv;rw[h3 b hb]at this;cases this
theorem Mem.alloc (h:Mem cx O V w) (o:Obj):Mem cx (.blk w.heap.size o::O) V (w.alloc o):=by
 obtain⟨fp,h1,h2,h3⟩:=h.own;have h':=h.ext ((Below.refl w.heap.size w).alloc (Nat.le_refl _) o);refine⟨h'.below,h'.le0,h'.fresh,h'.view,w.heap.size::fp,⟨[w.heap.size],fp,rfl,⟨rfl,h.below.size,heap_alloc_new w o⟩,h1.kept λb hb=>heap_alloc_old w o (h1.lt b hb).2⟩,List.nodup_cons.2 ⟨λhm=>?_,h2⟩,λb hb=>?_⟩
 ·have:=(h1.lt _ hm).2;omega
 ·rcases List.mem_cons.1 hb with rfl | hb
  ·cases hv:V w.heap.size with
   | none=>rfl
   | some o'=>have:=h.view.lt hv;omega
  ·exact h3 b hb
theorem Mem.blk {b:Nat} {o:Obj} (h:Mem cx (.blk b o::O) V w):w.heap[b]? = some o:=by obtain⟨_,⟨_,_,_,⟨_,_,ho⟩,_⟩,_⟩:=h.own;exact ho
theorem Mem.old {b:Nat} {o:Obj} (h:Mem cx (.blk b o::O) V w):cx.w0.heap.size<=b:=by obtain⟨_,⟨_,_,_,⟨_,ho,_⟩,_⟩,_⟩:=h.own;exact ho
theorem Mem.set {b:Nat} {o o':Obj} (h:Mem cx (.blk b o::O) V w) (hg:w.grownBy w' (some b)) (ho:w'.heap[b]? = some o'):Mem cx (.blk b o'::O) V w':=by
 obtain⟨fp,⟨f,g,rfl,⟨rfl,hB,hb⟩,hl⟩,h2,h3⟩:=h.own;have hn:∀ k∈g,k≠b:=λk hk e=>by subst e;exact(List.nodup_append.1 h2).2.2 k (by simp) k hk rfl
 refine⟨⟨hg.os.trans h.below.os,hg.tape.trans h.below.tape,hg.output.trans h.below.output,Nat.le_trans h.below.size hg.size,λk hk=>?_⟩,h.le0,h.fresh,λk o2 hk=>?_,[b]++g,⟨[b],g,rfl,⟨rfl,hB,ho⟩,hl.kept λk hk=>?_⟩,h2,h3⟩
 ·rw[hg.block k (Nat.lt_of_lt_of_le hk h.below.size) (by intro e;cases e;omega)];exact h.below.block k hk
 ·show w'.heap[k]? = some o2
  have hk':w.heap[k]? = some o2:=h.view k o2 hk
  rw[hg.block k (h.view.lt hk) (by intro e;cases e;rw[h3 b (by simp)]at hk;cases hk)];exact hk'
 ·exact hg.block k (hl.lt k hk).2 (λe=>hn k hk (Option.some.inj e))
theorem Mem.give {b:Nat} {o:Obj} (h:Mem cx (.blk b o::O) V w):∃ V':View,Le V V'/\V' b=some o/\Mem cx O V' w:=by
 obtain⟨fp,⟨f,g,rfl,⟨rfl,hB,hb⟩,hl⟩,h2,h3⟩:=h.own;have hn:∀ k∈g,k≠b:=λk hk e=>by subst e;exact(List.nodup_append.1 h2).2.2 k (by simp) k hk rfl
 refine⟨λk=>if k=b then some o else V k,λk o2 hk=>?_,(by simp),h.below,λk o2 hk=>?_,λk o2 hk=>?_,λk o2 hk=>?_,g,hl,(List.nodup_append.1 h2).2.1,λk hk=>?_⟩
 ·by_cases e:k=b
  ·subst e;rw[h3 k (by simp)]at hk;cases hk
  ·simp[e,hk]
 ·by_cases e:k=b
  ·subst e;have:=h.le0 k o2 hk;rw[h3 k (by simp)]at this;cases this
  ·simp[e,h.le0 k o2 hk]
 ·by_cases e:k=b
  ·subst e;exact .inr hB
  ·simp[e]at hk;exact h.fresh k o2 hk
 ·by_cases e:k=b
  ·subst e;simp at hk;subst hk;exact hb
  ·simp[e]at hk;exact h.view k o2 hk
 ·simp[hn k hk,h3 k (List.mem_append_right _ hk)]
end
/-! ### Readings of memory -/
def jb (V:View) (p:Addr):Option Value:=
 match V p.block with
 | some (.cells c _ _)=>if p.spot.isSome then none else c[p.off]?
 | _=>none
theorem jy (w:World) (p:Addr):jb (hp w) p=w.cell? p:=rfl
theorem vcell_le {V V':View} (h:Le V V') {p:Addr} {v:Value} (hv:jb V p=some v):jb V' p=some v:=by
 unfold jb at *;cases ho:V p.block with
 | none=>rw[ho]at hv;cases hv
 | some o=>rw[h _ _ ho];rw[ho]at hv;exact hv
def Cells (V:View) (p:Addr) (us:List Value):Prop:=∀ j u,us[j]? = some u->jb V (p.add j)=some u
theorem Cells.le {V V':View} {p:Addr} {us:List Value} (h:Cells V p us) (hl:Le V V'):Cells V' p us:=λj u hj=>vcell_le hl (h j u hj)
def Sl {α:Type} (V:View) (enc:α->List Value) (s:Nat) (v:Value) (l:List α):Prop:=
 ∃ a cap,v=.slice a l.length cap/\l.length<=cap/\cap<=maxLen/\(l≠[]->a.isSome=true)/\∀ p,a=some p->∀ i x,l[i]? = some x->Cells V (p.add (i*s)) (enc x)
theorem Sl.le {α:Type} {V V':View} {enc:α->List Value} {s:Nat} {v:Value} {l:List α} (h:Sl V enc s v l) (hl:Le V V'):Sl V' enc s v l:=by obtain⟨a,cap,h1,h2,h3,h4,h5⟩:=h;exact⟨a,cap,h1,h2,h3,h4,λp hp i x hi=>(h5 p hp i x hi).le hl⟩
theorem Sl.nil {α:Type} (V:View) (enc:α->List Value) (s:Nat):Sl V enc s (.slice none 0 0) ([]:List α):=
 ⟨none,0,rfl,Nat.le_refl _,Nat.zero_le _,λh=>absurd rfl h,λ_ h=>(by cases h)⟩
theorem Sl.jC {α:Type} {V:View} {enc:α->List Value} {s:Nat} {v:Value} {l:List α} (h:Sl V enc s v l):l.length<=9223372036854775807:=by obtain⟨a,cap,h1,h2,h3,_⟩:=h;unfold maxLen at h3;omega
def ei (x:Int):List Value:=[.int .i64 x]
abbrev SlI (V:View) (v:Value) (l:List Int):Prop:=Sl V ei 1 v l
/-! ### What is known of a frame -/
def look:List (Nat×Value)->Nat->Option Value
 | [],_=>none
 | (j,v)::l,i=>bif Nat.beq j i then some v else look l i
def ev (ks:List (Nat×Value)):Operand->Option Value
 | .tmp t=>look ks t
 | .const v=>some v
 | .global g=>some (.pointer (some ⟨g,0,none⟩))
 | .func f=>some (.func (.func f) #[] #[])
structure Kn (cx:Cx) (n:Nat) (ks:List (Nat×Value)) (a:Act):Prop where
 defers:a.defers=cx.ds
 size:a.tmps.size=n
 known:∀ i v,look ks i=some v->a.tmps[i]? = some v
theorem Kn.ev {cx:Cx} {n:Nat} {ks:List (Nat×Value)} {a:Act} (h:Kn cx n ks a) {x:Operand} {v:Value} (hv:ev ks x=some v):a.eval x=v:=by
 cases x with
 | tmp t=>simp[Act.eval,h.known t v hv]
 | const u=>exact Option.some.inj hv
 | global g=>exact Option.some.inj hv
 | func f=>exact Option.some.inj hv
theorem Kn.put {cx:Cx} {n:Nat} {ks:List (Nat×Value)} {a:Act} (h:Kn cx n ks a) {d:Nat} (hd:d<n) (v:Value):Kn cx n ((d,v)::ks) (a.put (some d) v):=by
 refine⟨h.defers,by simp[Act.put,h.size],λi u hu=>?_⟩;simp only[look]at hu;by_cases e:d=i
 ·subst e;have:Nat.beq d d=true:=Nat.beq_refl d;simp only[this,cond_true,Option.some.injEq]at hu;subst hu;simp[Act.put,h.size,hd]
 ·have:Nat.beq d i=false:=by cases hb:Nat.beq d i with | false=>rfl | true=>exact absurd (Nat.eq_of_beq_eq_true hb) e
  simp only[this,cond_false]at hu;simp only[Act.put,Array.getElem?_setIfInBounds_ne e];exact h.known i u hu
def Sub:List (Nat×Value)->List (Nat×Value)->Prop
 | [],_=>True
 | (i,v)::l,ks=>look ks i=some v/\Sub l ks
theorem Sub.look {ks' ks:List (Nat×Value)} (h:Sub ks' ks):∀ i v,look ks' i=some v->Go.Lw.look ks i=some v:=by
 induction ks' with
 | nil=>intro i v h;cases h
 | cons p l ih=>
  obtain⟨j,u⟩:=p;intro i v hv;simp only[Go.Lw.look]at hv;cases hb:Nat.beq j i with
  | true=>
   rw[hb]at hv;simp at hv;subst hv;have:=Nat.eq_of_beq_eq_true hb;subst this;exact h.1
  | false=>rw[hb]at hv;simp at hv;exact ih h.2 i v hv
theorem Kn.sub {cx:Cx} {n:Nat} {ks ks':List (Nat×Value)} {a:Act} (h:Kn cx n ks a) (hs:Sub ks' ks):Kn cx n ks' a:=⟨h.defers,h.size,λi v hv=>h.known i v (hs.look i v hv)⟩
theorem wpIn_loop_ghost {F:Fence} {n:Nat} {P:Program} {Q:Exit->Act->World->Prop} {c:Code} {ι:Type} (I:ι->Act->World->Prop) (μ:ι->Nat)
  (round:∀ i a w,I i a w->c.wpIn F n P (Exit.then (λa' w'=>∃ i',I i' a' w'/\μ i'<μ i) Q) a w):∀ i a w,I i a w->(Code.loop c).wpIn F n P Q a w:=by
 intro i0 a w h₀ b k cs hro hb hr;have key:∀ j i a w,μ i=j->I i a w->
   ∃ e a' w',Q e a' w'/\ArrivesIn (Machine.fenced P F) P (lone (b.atR a (.code c::.inLoop c::k)) cs w) b k cs e a' w':=by
  intro j;induction j using Nat.strongRecOn with
  | _ j ih=>
   intro i a w hn hI;obtain⟨e,a₁,w₁,hq,harr⟩:=round i a w hI b (.inLoop c::k) cs hro hb hr;cases e with
   | normal=>
    obtain⟨i',hI₁,hlt⟩:=hq;obtain⟨e₂,a₂,w₂,hq₂,harr₂⟩:=ih (μ i') (hn▸hlt) i' a₁ w₁ rfl hI₁;exact⟨e₂,a₂,w₂,hq₂,.of_steps (StepsIn.trans harr (.one (fenced_calm hb hr rfl) stepR_inLoop)) harr₂⟩
   | exit id=>exact⟨_,a₁,w₁,hq,.pass (x:=.inLoop c) rfl (λ_ _=>.inl (by simp)) harr⟩
   | goto l=>exact⟨_,a₁,w₁,hq,.pass (x:=.inLoop c) rfl (λ_ _=>.inl (by simp)) harr⟩
   | ret=>exact⟨_,a₁,w₁,hq,.pass (x:=.inLoop c) rfl (λ_ _=>.inl (by simp)) harr⟩
   | panic ch=>exact⟨_,a₁,w₁,hq,.pass (x:=.inLoop c) rfl (λ_ _=>.inl (by simp)) harr⟩
   | outgrown=>exact⟨_,a₁,w₁,hq,.pass (x:=.inLoop c) rfl (λ_ _=>.inl (by simp)) harr⟩
 obtain⟨e,a',w',hq,harr⟩:=key _ i0 a w rfl h₀;exact⟨e,a',w',hq,.of_steps (.one (fenced_calm hb hr rfl) stepR_loop) harr⟩
/-! ### The judgements -/
def At (cx:Cx) (n:Nat) (ks:List (Nat×Value)) (O:List Own) (V:View) (K:Act->World->Prop):Prop:=∀ a w,Kn cx n ks a->Mem cx O V w->K a w
def AtT (cx:Cx) (n:Nat) (ks:List (Nat×Value)) (O:List Own) (V:View) (P:Program) (ops:Array Oper) (Qn:Act->World->Prop) (t:Tr):Prop:=
 ∀ a w,Kn cx n ks a->Mem cx O V w->wpT P ops Qn t (Mem cx O V) a w
section
variable {cx:Cx} {n:Nat} {ks:List (Nat×Value)} {O:List Own} {V:View} {P:Program} {ro:Option Nat} {Q:Exit->Act->World->Prop} {K:Act->World->Prop}
theorem At.seq {x y:Code} (h:At cx n ks O V (x.wpIn (FW ro) 0 P (Exit.then (y.wpIn (FW ro) 0 P Q) Q))):At cx n ks O V ((Code.seq x y).wpIn (FW ro) 0 P Q):=λa w hk hm=>wpIn_seq (h a w hk hm)
theorem At.block {id:Nat} {c:Code} (h:At cx n ks O V (c.wpIn (FW ro) 0 P (Exit.inBlock id Q))):At cx n ks O V ((Code.block id c).wpIn (FW ro) 0 P Q):=λa w hk hm=>wpIn_block (h a w hk hm)
theorem At.skip (h:At cx n ks O V (Q .normal)):At cx n ks O V (Code.skip.wpIn (FW ro) 0 P Q):=λa w hk hm=>wpIn_skip (h a w hk hm)
theorem At.label {l:Nat} (h:At cx n ks O V (Q .normal)):At cx n ks O V ((Code.label l).wpIn (FW ro) 0 P Q):=λa w hk hm=>wpIn_label (h a w hk hm)
theorem At.exit {id:Nat} (h:At cx n ks O V (Q (.exit id))):At cx n ks O V ((Code.exit id).wpIn (FW ro) 0 P Q):=λa w hk hm=>wpIn_exit (h a w hk hm)
theorem At.ret (h:At cx n ks O V (Q .ret)):At cx n ks O V (Code.ret.wpIn (FW ro) 0 P Q):=λa w hk hm=>wpIn_ret (h a w hk hm)
theorem At.cond {c:Operand} {x y:Code} {b:Bool} (hc:ev ks c=some (.bool b)) (ht:b=true->At cx n ks O V (x.wpIn (FW ro) 0 P Q)) (hf:b=false->At cx n ks O V (y.wpIn (FW ro) 0 P Q)) :
  At cx n ks O V ((Code.cond c x y).wpIn (FW ro) 0 P Q):=λa w hk hm=>wpIn_cond_split (hk.ev hc) (λh=>ht h a w hk hm) (λh=>hf h a w hk hm)
theorem zI {c:Operand} {x y:Code} {p:Prop} [Decidable p] (hc:ev ks c=some (.bool (decide p))) (ht:p->At cx n ks O V (x.wpIn (FW ro) 0 P Q)) (hf:¬ p->At cx n ks O V (y.wpIn (FW ro) 0 P Q)) :
  At cx n ks O V ((Code.cond c x y).wpIn (FW ro) 0 P Q):=At.cond hc (λh=>ht (of_decide_eq_true h)) (λh=>hf (of_decide_eq_false h))
theorem ql {c:Operand} {x y:Code} {b:Bool} (hc:ev ks c=some (.bool b)) (hb:b=true) (h:At cx n ks O V (x.wpIn (FW ro) 0 P Q)):At cx n ks O V ((Code.cond c x y).wpIn (FW ro) 0 P Q):=
 At.cond hc (λ_=>h) (λe=>by rw[hb]at e;cases e)
theorem zS {c:Operand} {x y:Code} {b:Bool} (hc:ev ks c=some (.bool b)) (hb:b=false) (h:At cx n ks O V (y.wpIn (FW ro) 0 P Q)):At cx n ks O V ((Code.cond c x y).wpIn (FW ro) 0 P Q):=
 At.cond hc (λe=>by rw[hb]at e;cases e) (λ_=>h)
theorem At.then {next:Act->World->Prop} (h:At cx n ks O V next):At cx n ks O V (Exit.then next Q .normal):=h
theorem thenX {next:Act->World->Prop} {id:Nat} (h:At cx n ks O V (Q (.exit id))):At cx n ks O V (Exit.then next Q (.exit id)):=h
theorem thenR {next:Act->World->Prop} (h:At cx n ks O V (Q .ret)):At cx n ks O V (Exit.then next Q .ret):=h
theorem inN {id:Nat} (h:At cx n ks O V (Q .normal)):At cx n ks O V (Exit.inBlock id Q .normal):=h
theorem inR {id:Nat} (h:At cx n ks O V (Q .ret)):At cx n ks O V (Exit.inBlock id Q .ret):=h
theorem inX {id:Nat} (h:At cx n ks O V (Q .normal)):At cx n ks O V (Exit.inBlock id Q (.exit id)):=λa w hk hm=>by
 show(if id=id then Q .normal a w else _);rw[if_pos rfl];exact h a w hk hm
theorem inY {id id':Nat} (hn:Nat.beq id' id=false) (h:At cx n ks O V (Q (.exit id'))):At cx n ks O V (Exit.inBlock id Q (.exit id')):=λa w hk hm=>by
 show(if id'=id then _ else Q (.exit id') a w)
 rw[if_neg (λe=>by subst e;rw[Nat.beq_refl]at hn;cases hn)];exact h a w hk hm
theorem At.sub {ks':List (Nat×Value)} (hs:Sub ks' ks) (h:At cx n ks' O V K):At cx n ks O V K:=λa w hk hm=>h a w (hk.sub hs) hm
theorem At.part {O':List Own} (hp:Part O' O) (h:At cx n ks O' V K):At cx n ks O V K:=λa w hk hm=>h a w hk (hm.part hp)
theorem At.perm {O':List Own} (hp:O.Perm O') (h:At cx n ks O' V K):At cx n ks O V K:=λa w hk hm=>h a w hk (hm.perm hp)
theorem At.give {b:Nat} {o:Obj} (h:∀ V',Le V V'->V' b=some o->At cx n ks O V' K):At cx n ks (.blk b o::O) V K:=λa w hk hm=>by obtain⟨V',h1,h2,h3⟩:=hm.give;exact h V' h1 h2 a w hk h3
theorem xm {id:Nat} {ops:Array Oper} (t:Tr) (hm:P.follows .mixedOrders=true) (hc:t.okDraw ops=true) (h:AtT cx n ks O V P ops (Q .normal) t) :
  At cx n ks O V ((Code.region id ops true).wpIn (FW ro) 0 P Q):=λa w hk hw=>
 have hd:Mem cx O V w.drew:=hw.ext (Below.refl _ w).drew
 wp_region_drawn t hm hc (Mem cx O V) hd (h a w.drew hk hd)
theorem xI {id:Nat} {ops:Array Oper} (t:Tr) (hc:t.okText ops=true) (h:AtT cx n ks O V P ops (Q .normal) t) :
  At cx n ks O V ((Code.region id ops false).wpIn (FW ro) 0 P Q):=λa w hk hw=>wp_region_text t hc (Mem cx O V) hw (h a w hk hw)
theorem At.loop {ι:Type} {c:Code} (KS:ι->List (Nat×Value)) (OS:ι->List Own) (VS:ι->View->Prop) (μ:ι->Nat) (i0:ι)
  (hs:Sub (KS i0) ks) (hp:Part (OS i0) O) (hv:VS i0 V)
  (hbody:∀ i V',VS i V'->Le cx.V0 V'->At cx n (KS i) (OS i) V' (c.wpIn (FW ro) 0 P (Exit.then (λa w=>∃ i' V'',μ i'<μ i/\VS i' V''/\Kn cx n (KS i') a/\Mem cx (OS i') V'' w) Q))) :
  At cx n ks O V ((Code.loop c).wpIn (FW ro) 0 P Q):=λa w hk hm=>
 wpIn_loop_ghost (λ(i:ι) a w=>∃ V',VS i V'/\Kn cx n (KS i) a/\Mem cx (OS i) V' w) μ
  (λi a w ⟨V',hV,hk,hm⟩=>wpIn_mono (hbody i V' hV hm.le0 a w hk hm) (λe a' w' hq=>by
   cases e with
   | normal=>
    obtain⟨i',V'',hlt,hV',hk',hm'⟩:=hq;exact⟨i',⟨V'',hV',hk',hm'⟩,hlt⟩
   | exit id=>exact hq
   | goto l=>exact hq
   | ret=>exact hq
   | panic ch=>exact hq
   | outgrown=>exact hq)) i0 a w ⟨V,hv,hk.sub hs,hm.part hp⟩
end
/-! ### Types -/
def aggB:TypeDesc->Bool
 | .struct _=>true
 | .array _ _=>true
 | _=>false
def tkB (P:Program) (T:TypeId):Option (Bool×Nat):=
 match P.underlying T,P.info? T with
 | some d,some i=>some (aggB d,i.size)
 | _,_=>none
theorem run_isAgg {P:Program} {T:TypeId} {b:Bool} {s:Nat} (h:tkB P T=some (b,s)) (w:World):(isAgg T).run P w=.ok b w:=by
 unfold tkB at h;cases hu:P.underlying T with
 | none=>rw[hu]at h;cases h
 | some d=>
  cases hi:P.info? T with
  | none=>rw[hu,hi]at h;cases h
  | some i=>rw[hu,hi]at h;simp only[Option.some.injEq,Prod.mk.injEq]at h;unfold isAgg;simp only[Sem.run_bind,run_underlying hu,Result.andThen_ok];rw[<-h.1];cases d<;>rfl
theorem run_sizeOf {P:Program} {T:TypeId} {b:Bool} {s:Nat} (h:tkB P T=some (b,s)) (w:World):(sizeOf T).run P w=.ok s w:=by
 unfold tkB at h;cases hu:P.underlying T with
 | none=>rw[hu]at h;cases h
 | some d=>
  cases hi:P.info? T with
  | none=>rw[hu,hi]at h;cases h
  | some i=>rw[hu,hi]at h;simp only[Option.some.injEq,Prod.mk.injEq]at h;simp[sizeOf,typeInfo,hi,h.2]
def zK (P:Program) (T:TypeId):Option Value:=(P.info? T).bind (·.zero)
theorem run_zero {P:Program} {T:TypeId} {z:Value} (h:zK P T=some z) (w:World):(zeroValue T).run P w=.ok z w:=by
 unfold zK at h;cases hi:P.info? T with
 | none=>rw[hi]at h;cases h
 | some i=>rw[hi]at h;simp only[Option.bind_some]at h;simp[zeroValue,typeInfo,hi,h]
theorem addr_add_add (p:Addr) (i j:Nat):(p.add i).add j=p.add (i+j):=by
 unfold Addr.add;by_cases hi:i=0
 ·subst hi;simp
 ·by_cases hj:j=0
  ·subst hj;simp
  ·simp[hi,hj,Nat.add_assoc]
def Fit (z:Int):Prop:=-9223372036854775808<=z/\z<=9223372036854775807
theorem wrap_fit {z:Int} (h:Fit z):IntKind.i64.wrap z=z:=IntWalk.i64_in _ h
theorem Fit.of {z:Int} (h1 : -9223372036854775808<=z) (h2:z<=9223372036854775807):Fit z:=⟨h1,h2⟩
section
variable {cx:Cx} {n:Nat} {ks:List (Nat×Value)} {O:List Own} {V:View} {P:Program} {ops:Array Oper} {Qn:Act->World->Prop} {t:Tr} {i d:Nat} {T:TypeId} {pos:String} {after:Array Edge} {gd:Option (Nat×Bool)}
theorem AtT.done (h:At cx n ks O V Qn):AtT cx n ks O V P ops Qn .done:=λa w hk hm=>h a w hk hm
def Gd (ks:List (Nat×Value)) (ops:Array Oper):Option (Nat×Bool)->Prop
 | none=>True
 | some (j,want)=>∃ (od:Oper) (g:Nat),ops[j]? = some od/\od.dst=some g/\look ks g=some (.bool want)
theorem Gd.wanted {o:Oper} {a:Act} (hg:Gd ks ops o.guard) (hk:Kn cx n ks a):Region.wanted o (yielded ops a.tmps)=true:=by
 cases h:o.guard with
 | none=>simp[Region.wanted,h]
 | some jw=>obtain⟨j,want⟩:=jw;rw[h]at hg;obtain⟨od,g,h1,h2,h3⟩:=hg;have:=hk.known g _ h3;simp[Region.wanted,h,yielded,h1,h2,this]
theorem AtT.q {o:Oper} {v:Value} (ho:ops[i]? = some o) (hg:Gd ks ops o.guard) (hd:o.dst=some d) (hn:d<n)
  (hy:∀ a w,Kn cx n ks a->Mem cx O V w->(execOp a.eval o).run P w=.ok (.value v) w)
  (next:AtT cx n ((d,v)::ks) O V P ops Qn t):AtT cx n ks O V P ops Qn (.q i t):=λa w hk hm=>
 ⟨o,v,ho,.inl ⟨hg.wanted hk,λu hu=>hy a u hk hu⟩,by rw[hd];exact next _ w (hk.put hn v) hm⟩
theorem AtT.pass {o:Oper} {g:Nat} {want:Bool} {od:Oper} {gd:Nat} (ho:ops[i]? = some o) (hg:o.guard=some (g,want)) (hog:ops[g]? = some od) (hgd:od.dst=some gd) (hgv:look ks gd=some (.bool (!want))) (hd:o.dst=some d) (hn:d<n)
  (next:AtT cx n ((d,undef)::ks) O V P ops Qn t):AtT cx n ks O V P ops Qn (.q i t):=λa w hk hm=>
 ⟨o,undef,ho,.inr ⟨by
  have:=hk.known gd _ hgv
  simp[Region.wanted,hg,yielded,hog,hgd,this],rfl⟩,by rw[hd];exact next _ w (hk.put hn undef) hm⟩
theorem passN {o:Oper} {g:Nat} {want:Bool} {od:Oper} {gd:Nat} {wr:Bool} (ho:ops[i]? = some o) (hg:o.guard=some (g,want)) (hog:ops[g]? = some od) (hgd:od.dst=some gd) (hgv:look ks gd=some (.bool (!want))) (hd:o.dst=some d) (hn:d<n)
  (next:AtT cx n ((d,undef)::ks) O V P ops Qn t):AtT cx n ks O V P ops Qn (.n wr i t):=λa w hk hm=>
 ⟨o,ho,by
  have:=hk.known gd _ hgv
  unfold stW;rw[if_neg (by simp[Region.wanted,hg,yielded,hog,hgd,this]),hd];exact⟨Mem cx O V,λ_ _ h=>h,hm,next _ w (hk.put hn undef) hm⟩⟩
theorem AtT.x {o:Oper} {wr:Bool} (ho:ops[i]? = some o) (hg:Gd ks ops o.guard)
  (h:∀ a w,Kn cx n ks a->Mem cx O V w->opW P o a w (λa' w'=>∃ ks' O' V',Kn cx n ks' a'/\Mem cx O' V' w'/\(wr=false->∀ u,Mem cx O' V' u->Mem cx O V u)/\AtT cx n ks' O' V' P ops Qn t)) :
  AtT cx n ks O V P ops Qn (.n wr i t):=λa w hk hm=>
 ⟨o,ho,by
  unfold stW;rw[if_pos (hg.wanted hk)];exact opW_mono (λa' w' ⟨ks',O',V',hk',hm',hle,hn⟩=>⟨Mem cx O' V',hle,hm',hn a' w' hk' hm'⟩) (h a w hk hm)⟩
theorem xX {b:Bool} (ht:b=true->AtT cx n ks O V P ops Qn t) (hf:b=false->AtT cx n ks O V P ops Qn t):AtT cx n ks O V P ops Qn t:=by
 cases b
 ·exact hf rfl
 ·exact ht rfl
theorem AtT.sub {ks':List (Nat×Value)} (hs:Sub ks' ks) (h:AtT cx n ks' O V P ops Qn t):AtT cx n ks O V P ops Qn t:=λa w hk hm=>h a w (hk.sub hs) hm
/-! #### Copies and arithmetic -/
theorem AtT.move {x:Operand} {v:Value} (ho:ops[i]? = some ⟨some d,.move x,T,pos,after,gd⟩) (hg:Gd ks ops gd) (hx:ev ks x=some v) (hn:d<n)
  (next:AtT cx n ((d,v)::ks) O V P ops Qn t):AtT cx n ks O V P ops Qn (.q i t):=
 .q ho hg rfl hn (λa w hk _=>by simp[execOp,hk.ev hx]) next
theorem AtT.assign {x:Operand} {v:Value} (ho:ops[i]? = some ⟨some d,.assign x,T,pos,after,gd⟩) (hg:Gd ks ops gd) (hx:ev ks x=some v) (hn:d<n)
  (next:AtT cx n ((d,v)::ks) O V P ops Qn t):AtT cx n ks O V P ops Qn (.q i t):=
 .q ho hg rfl hn (λa w hk _=>by simp[execOp,hk.ev hx]) next
theorem AtT.pick {c x y:Operand} {b:Bool} {u v:Value} (ho:ops[i]? = some ⟨some d,.pick c x y,T,pos,after,gd⟩) (hg:Gd ks ops gd) (hc:ev ks c=some (.bool b)) (hx:ev ks x=some u) (hy:ev ks y=some v) (hn:d<n)
  (next:AtT cx n ((d,bif b then u else v)::ks) O V P ops Qn t):AtT cx n ks O V P ops Qn (.q i t):=
 .q ho hg rfl hn (λa w hk _=>by cases b<;>simp[execOp,hk.ev hx,hk.ev hy,hk.ev hc,asBool]) next
variable {x y:Operand} {u v:Value} {k:IntKind} {p q:Int} {X Y:TypeId}
theorem AtT.addW (ho:ops[i]? = some ⟨some d,.binOp .add X x y Y,T,pos,after,gd⟩) (hg:Gd ks ops gd) (hx:ev ks x=some (.int k p)) (hy:ev ks y=some (.int k q)) (hn:d<n)
  (next:AtT cx n ((d,.int k (k.wrap (p+q)))::ks) O V P ops Qn t):AtT cx n ks O V P ops Qn (.q i t):=
 .q ho hg rfl hn (λa w hk _=>by simp[execOp,hk.ev hx,hk.ev hy,eqGuard_add,binOp_add,Op.intArith]) next
theorem AtT.subW (ho:ops[i]? = some ⟨some d,.binOp .sub X x y Y,T,pos,after,gd⟩) (hg:Gd ks ops gd) (hx:ev ks x=some (.int k p)) (hy:ev ks y=some (.int k q)) (hn:d<n)
  (next:AtT cx n ((d,.int k (k.wrap (p-q)))::ks) O V P ops Qn t):AtT cx n ks O V P ops Qn (.q i t):=
 .q ho hg rfl hn (λa w hk _=>by simp[execOp,hk.ev hx,hk.ev hy,eqGuard_sub,binOp_sub,Op.intArith]) next
theorem AtT.mulW (ho:ops[i]? = some ⟨some d,.binOp .mul X x y Y,T,pos,after,gd⟩) (hg:Gd ks ops gd) (hx:ev ks x=some (.int k p)) (hy:ev ks y=some (.int k q)) (hn:d<n)
  (next:AtT cx n ((d,.int k (k.wrap (p*q)))::ks) O V P ops Qn t):AtT cx n ks O V P ops Qn (.q i t):=
 .q ho hg rfl hn (λa w hk _=>by simp[execOp,hk.ev hx,hk.ev hy,eqGuard_mul,binOp_mul,Op.intArith]) next
theorem AtT.add (ho:ops[i]? = some ⟨some d,.binOp .add X x y Y,T,pos,after,gd⟩) (hg:Gd ks ops gd) (hx:ev ks x=some (.int .i64 p)) (hy:ev ks y=some (.int .i64 q)) (hn:d<n) (hf:Fit (p+q))
  (next:AtT cx n ((d,.int .i64 (p+q))::ks) O V P ops Qn t):AtT cx n ks O V P ops Qn (.q i t):=.addW ho hg hx hy hn (by rw[wrap_fit hf];exact next)
theorem subt (ho:ops[i]? = some ⟨some d,.binOp .sub X x y Y,T,pos,after,gd⟩) (hg:Gd ks ops gd) (hx:ev ks x=some (.int .i64 p)) (hy:ev ks y=some (.int .i64 q)) (hn:d<n) (hf:Fit (p-q))
  (next:AtT cx n ((d,.int .i64 (p-q))::ks) O V P ops Qn t):AtT cx n ks O V P ops Qn (.q i t):=.subW ho hg hx hy hn (by rw[wrap_fit hf];exact next)
theorem AtT.mul (ho:ops[i]? = some ⟨some d,.binOp .mul X x y Y,T,pos,after,gd⟩) (hg:Gd ks ops gd) (hx:ev ks x=some (.int .i64 p)) (hy:ev ks y=some (.int .i64 q)) (hn:d<n) (hf:Fit (p*q))
  (next:AtT cx n ((d,.int .i64 (p*q))::ks) O V P ops Qn t):AtT cx n ks O V P ops Qn (.q i t):=.mulW ho hg hx hy hn (by rw[wrap_fit hf];exact next)
theorem AtT.quo (ho:ops[i]? = some ⟨some d,.binOp .quo X x y Y,T,pos,after,gd⟩) (hg:Gd ks ops gd) (hx:ev ks x=some (.int .i64 p)) (hy:ev ks y=some (.int .i64 q)) (hn:d<n) (hq:q≠0) (hf:Fit (p.tdiv q))
  (next:AtT cx n ((d,.int .i64 (p.tdiv q))::ks) O V P ops Qn t):AtT cx n ks O V P ops Qn (.q i t):=
 .q ho hg rfl hn (λa w hk _=>by simp[execOp,hk.ev hx,hk.ev hy,eqGuard_quo,binOp_quo,Op.intDiv,hq,wrap_fit hf]) next
theorem AtT.rem (ho:ops[i]? = some ⟨some d,.binOp .rem X x y Y,T,pos,after,gd⟩) (hg:Gd ks ops gd) (hx:ev ks x=some (.int k p)) (hy:ev ks y=some (.int k q)) (hn:d<n) (hq:q≠0)
  (next:AtT cx n ((d,.int k (p.tmod q))::ks) O V P ops Qn t):AtT cx n ks O V P ops Qn (.q i t):=
 .q ho hg rfl hn (λa w hk _=>by simp[execOp,hk.ev hx,hk.ev hy,eqGuard_rem,binOp_rem,Op.intDiv,hq]) next
theorem xJ (ho:ops[i]? = some ⟨some d,.binOp .eql X x y Y,T,pos,after,gd⟩) (hg:Gd ks ops gd) (hx:ev ks x=some (.int k p)) (hy:ev ks y=some (.int k q)) (hn:d<n)
  (next:AtT cx n ((d,.bool (decide (p=q)))::ks) O V P ops Qn t):AtT cx n ks O V P ops Qn (.q i t):=
 .q ho hg rfl hn (λa w hk _=>by simp[execOp,hk.ev hx,hk.ev hy,eqGuard_at_int,binOp_eql];rfl) next
theorem neI (ho:ops[i]? = some ⟨some d,.binOp .neq X x y Y,T,pos,after,gd⟩) (hg:Gd ks ops gd) (hx:ev ks x=some (.int k p)) (hy:ev ks y=some (.int k q)) (hn:d<n)
  (next:AtT cx n ((d,.bool (decide (p≠q)))::ks) O V P ops Qn t):AtT cx n ks O V P ops Qn (.q i t):=
 .q ho hg rfl hn (λa w hk _=>by simp[execOp,hk.ev hx,hk.ev hy,eqGuard_at_int,binOp_neq,bne,BEq.beq]) next
theorem AtT.lss (ho:ops[i]? = some ⟨some d,.binOp .lss X x y Y,T,pos,after,gd⟩) (hg:Gd ks ops gd) (hx:ev ks x=some (.int k p)) (hy:ev ks y=some (.int k q)) (hn:d<n)
  (next:AtT cx n ((d,.bool (decide (p<q)))::ks) O V P ops Qn t):AtT cx n ks O V P ops Qn (.q i t):=
 .q ho hg rfl hn (λa w hk _=>by simp[execOp,hk.ev hx,hk.ev hy,eqGuard_at_int,binOp_lss]) next
theorem AtT.leq (ho:ops[i]? = some ⟨some d,.binOp .leq X x y Y,T,pos,after,gd⟩) (hg:Gd ks ops gd) (hx:ev ks x=some (.int k p)) (hy:ev ks y=some (.int k q)) (hn:d<n)
  (next:AtT cx n ((d,.bool (decide (p<=q)))::ks) O V P ops Qn t):AtT cx n ks O V P ops Qn (.q i t):=
 .q ho hg rfl hn (λa w hk _=>by simp[execOp,hk.ev hx,hk.ev hy,eqGuard_at_int,binOp_leq]) next
theorem AtT.gtr (ho:ops[i]? = some ⟨some d,.binOp .gtr X x y Y,T,pos,after,gd⟩) (hg:Gd ks ops gd) (hx:ev ks x=some (.int k p)) (hy:ev ks y=some (.int k q)) (hn:d<n)
  (next:AtT cx n ((d,.bool (decide (q<p)))::ks) O V P ops Qn t):AtT cx n ks O V P ops Qn (.q i t):=
 .q ho hg rfl hn (λa w hk _=>by simp[execOp,hk.ev hx,hk.ev hy,eqGuard_at_int,binOp_gtr]) next
theorem AtT.geq (ho:ops[i]? = some ⟨some d,.binOp .geq X x y Y,T,pos,after,gd⟩) (hg:Gd ks ops gd) (hx:ev ks x=some (.int k p)) (hy:ev ks y=some (.int k q)) (hn:d<n)
  (next:AtT cx n ((d,.bool (decide (q<=p)))::ks) O V P ops Qn t):AtT cx n ks O V P ops Qn (.q i t):=
 .q ho hg rfl hn (λa w hk _=>by simp[execOp,hk.ev hx,hk.ev hy,eqGuard_at_int,binOp_geq]) next
theorem AtT.negW (ho:ops[i]? = some ⟨some d,.unOp .neg X x,T,pos,after,gd⟩) (hg:Gd ks ops gd) (hx:ev ks x=some (.int k p)) (hn:d<n)
  (next:AtT cx n ((d,.int k (k.wrap (-p)))::ks) O V P ops Qn t):AtT cx n ks O V P ops Qn (.q i t):=
 .q ho hg rfl hn (λa w hk _=>by simp[execOp,hk.ev hx,Op.unary,Op.intArith]) next
theorem AtT.neg (ho:ops[i]? = some ⟨some d,.unOp .neg X x,T,pos,after,gd⟩) (hg:Gd ks ops gd) (hx:ev ks x=some (.int .i64 p)) (hn:d<n) (hf:Fit (-p))
  (next:AtT cx n ((d,.int .i64 (-p))::ks) O V P ops Qn t):AtT cx n ks O V P ops Qn (.q i t):=.negW ho hg hx hn (by rw[wrap_fit hf];exact next)
theorem AtT.not {b:Bool} (ho:ops[i]? = some ⟨some d,.unOp .not X x,T,pos,after,gd⟩) (hg:Gd ks ops gd) (hx:ev ks x=some (.bool b)) (hn:d<n)
  (next:AtT cx n ((d,.bool (!b))::ks) O V P ops Qn t):AtT cx n ks O V P ops Qn (.q i t):=
 .q ho hg rfl hn (λa w hk _=>by simp[execOp,hk.ev hx,Op.unary]) next
theorem xK {src:TypeId} (ho:ops[i]? = some ⟨some d,.convert src X x,T,pos,after,gd⟩) (hg:Gd ks ops gd) (hs:(P.underlying src).isSome=true) (hX:P.underlying X=some (.int k)) {k':IntKind} (hx:ev ks x=some (.int k' p)) (hn:d<n)
  (next:AtT cx n ((d,.int k (k.wrap p))::ks) O V P ops Qn t):AtT cx n ks O V P ops Qn (.q i t):=
 .q ho hg rfl hn (λa w hk _=>by obtain⟨ds,hs⟩:=Option.isSome_iff_exists.1 hs;simp[execOp,hk.ev hx,convert,run_underlying hs,run_underlying hX,Conv.intToInt]) next
theorem AtT.max2 (ho:ops[i]? = some ⟨some d,.call ⟨.builtin .max,#[x,y],#[X,Y]⟩,T,pos,after,gd⟩) (hg:Gd ks ops gd) (hx:ev ks x=some (.int k p)) (hy:ev ks y=some (.int k q)) (hn:d<n)
  (next:AtT cx n ((d,.int k (max p q))::ks) O V P ops Qn t):AtT cx n ks O V P ops Qn (.q i t):=
 .q ho hg rfl hn (λa w hk _=>by
  have e:(if q > p then q else p)=max p q:=by split<;>omega
  simp[execOp,resolve,invoke,builtin,hk.ev hx,hk.ev hy,Builtin.max_,Builtin.max2,e]) next
theorem AtT.min2 (ho:ops[i]? = some ⟨some d,.call ⟨.builtin .min,#[x,y],#[X,Y]⟩,T,pos,after,gd⟩) (hg:Gd ks ops gd) (hx:ev ks x=some (.int k p)) (hy:ev ks y=some (.int k q)) (hn:d<n)
  (next:AtT cx n ((d,.int k (min p q))::ks) O V P ops Qn t):AtT cx n ks O V P ops Qn (.q i t):=
 .q ho hg rfl hn (λa w hk _=>by
  have e:(if q<p then q else p)=min p q:=by split<;>omega
  simp[execOp,resolve,invoke,builtin,hk.ev hx,hk.ev hy,Builtin.min_,Builtin.min2,e]) next
end
inductive zo (x:Own):List Own->List Own->Prop
 | here {l:List Own} : zo x (x::l) l
 | there {y:Own} {l l':List Own} (h:zo x l l'):zo x (y::l) (y::l')
theorem zo.perm {x:Own} {l R:List Own} (h:zo x l R):l.Perm (x::R):=by
 induction h with
 | here=>exact .refl _
 | there _ ih=>exact(ih.cons _).trans (.swap _ _ _)
inductive Upd (x y:Own):List Own->List Own->Prop
 | here {l:List Own} : Upd x y (x::l) (y::l)
 | there {z:Own} {l l':List Own} (h:Upd x y l l'):Upd x y (z::l) (z::l')
theorem Upd.perm {x y:Own} {l l':List Own} (h:Upd x y l l'):∃ R,l.Perm (x::R)/\l'.Perm (y::R):=by
 induction h with
 | here=>exact⟨_,.refl _,.refl _⟩
 | there _ ih=>obtain⟨R,h1,h2⟩:=ih;exact⟨_,(h1.cons _).trans (.swap _ _ _),(h2.cons _).trans (.swap _ _ _)⟩
inductive Pt:List Own->List Own->Prop
 | nil {l:List Own} : Pt [] l
 | cons {x:Own} {l' l R:List Own} (hx:zo x l R) (h:Pt l' R):Pt (x::l') l
theorem Pt.part {l' l:List Own} (h:Pt l' l):Part l' l:=by
 induction h with
 | nil=>exact .nil _
 | cons hx _ ih=>exact .take hx.perm ih
inductive SetAt:List Value->Nat->Value->List Value->Prop
 | here {x v:Value} {l:List Value} : SetAt (x::l) 0 v (v::l)
 | there {x v:Value} {l l':List Value} {n:Nat} (h:SetAt l n v l'):SetAt (x::l) (n+1) v (x::l')
theorem SetAt.eq {l l':List Value} {n:Nat} {v:Value} (h:SetAt l n v l'):n<l.length/\l'=l.set n v:=by
 induction h with
 | here=>simp
 | there _ ih=>simp[ih.1,<-ih.2]
theorem Mem.pick {cx:Cx} {O R:List Own} {V:View} {w:World} {x:Own} (h:Mem cx O V w) (hp:zo x O R):Mem cx (x::R) V w:=h.perm hp.perm
def LC (cs:List Value) (E:TypeId) (fr:Nat×Nat:=(0,0)):Obj:=.cells ⟨cs⟩ E fr
theorem qP {w:World} {b off:Nat} {cs:List Value} {E:TypeId} {fr:Nat×Nat} (h:w.heap[b]? = some (LC cs E fr)):w.cell? ⟨b,off,none⟩=cs[off]?:=by simp[World.cell?,h,LC]
theorem run_load_cell {P:Program} {T:TypeId} {s:Nat} {w:World} {p:Addr} {v:Value} (hT:tkB P T=some (false,s)) (h:w.cell? p=some v):(Instr.loadAt T (.pointer (some p))).run P w=.ok v w:=by simp[Instr.loadAt,Instr.sureAddr,loadVar,run_isAgg hT,run_load,h]
theorem kC {P:Program} {T:TypeId} {w:World} {p:Addr} {us:List Value} {m:Nat} (hT:tkB P T=some (true,m)) (hl:us.length=m) (h:∀ j u,us[j]? = some u->w.cell? (p.add j)=some u) :
  (Instr.loadAt T (.pointer (some p))).run P w=.ok (.agg us.toArray) w:=by
 subst hl;simp[Instr.loadAt,Instr.sureAddr,loadVar,run_isAgg hT,run_sizeOf hT,run_loadCells_list w p us h]
theorem Cells.run {V:View} {w:World} {p:Addr} {us:List Value} (h:Cells V p us) (hv:Le V (hp w)):∀ j u,us[j]? = some u->w.cell? (p.add j)=some u:=λj u hj=>vcell_le hv (h j u hj)
theorem zX {P:Program} {b:Nat} {E:TypeId} : ∀ (us:List Value) (i off:Nat) (cs:List Value) (w:World),w.heap[b]? = some (LC cs E)->off+i+us.length<=cs.length->(∀ u∈us,u.oneCell'=true)->
  ∃ w',(storeCells ⟨b,off,none⟩ us i).run P w=.ok () w'/\w.grownBy w' (some b)/\w'.heap[b]? = some (LC (cs.take (off+i)++us++cs.drop (off+i+us.length)) E)
 | [],i,off,cs,w,hb,_,_=>⟨w,rfl,⟨rfl,rfl,rfl,Nat.le_refl _,λ_ _ _=>rfl⟩,by simpa using hb⟩
 | u::us,i,off,cs,w,hb,hl,h1=>by
  have hadd:(⟨b,off,none⟩:Addr).add i=⟨b,off+i,none⟩:=Addr.add_lit b off i
  simp only[List.length_cons]at hl;have hc:w.cell? ⟨b,off+i,none⟩=some (cs[off+i]'(by omega)):=by rw[qP hb];simp
  have hf:w.frozen? ⟨b,off+i,none⟩=false:=by simp[World.frozen?,hb,LC]
  have hb':(w.setCell ⟨b,off+i,none⟩ u).heap[b]? = some (LC (cs.set (off+i) u) E):=by simp only[World.setCell,Array.getElem?_modify,hb,LC];simp
  obtain⟨w',hr,hg,hh⟩:=zX (P:=P) us (i+1) off (cs.set (off+i) u) _ hb' (by simp;omega) (λx hx=>h1 x (List.mem_cons_of_mem _ hx));refine⟨w',?_,?_,?_⟩
  ·simp only[storeCells,Sem.run_bind,hadd,run_store P w _ u .plain (h1 u (by simp)),hc,hf,Bool.false_eq_true,if_false,Result.andThen_ok];exact hr
  ·have h0:w.grownBy (w.setCell ⟨b,off+i,none⟩ u) (some b):=⟨rfl,rfl,rfl,by simp,λk _ hk=>Below.heap_setCell _ _ _ _ (λe=>hk (by simp[e]))⟩
   exact⟨hg.os.trans h0.os,hg.tape.trans h0.tape,hg.output.trans h0.output,Nat.le_trans h0.size hg.size,λk hk hne=>(hg.block k (Nat.lt_of_lt_of_le hk h0.size) hne).trans (h0.block k hk hne)⟩
  ·rw[hh];congr 2;have e1:off+(i+1)=off+i+1:=by omega
   have e2:off+(i+1)+us.length=off+i+(us.length+1):=by omega
   rw[e2,e1,List.take_succ_eq_append_getElem (by simp;omega),List.take_set_of_le (by omega),List.drop_set_of_lt (by omega)];simp
theorem run_storeAt_blk {P:Program} {T:TypeId} {ag:Bool} {b off:Nat} {E:TypeId} {cs:List Value} {w:World} {v:Value} {us:List Value} (hT:tkB P T=some (ag,us.length)) (hv:v.cells=us.toArray) (hb:w.heap[b]? = some (LC cs E)) (hl:off+us.length<=cs.length) (h1:∀ u∈us,u.oneCell'=true) :
  ∃ w',(Instr.storeAt T (.pointer (some ⟨b,off,none⟩)) v).run P w=.ok () w'/\w.grownBy w' (some b)/\w'.heap[b]? = some (LC (cs.take off++us++cs.drop (off+us.length)) E):=by
 obtain⟨w',hr,hg,hh⟩:=zX (P:=P) us 0 off cs w hb (by omega) h1;refine⟨w',?_,hg,by simpa using hh⟩;simp[Instr.storeAt,Instr.sureAddr,storeVar,run_sizeOf hT,hv,hr]
def zi (P:Program) (f:FuncId):Prop:=∀ (args:Array Value) (w:World),(callFunc f args).run P w=.ok (.enter f args) w
theorem zf {P:Program} {f:FuncId} {fn:Func} (hf:P.funcs[f]? = some fn) (hn:(fn.name == "runtime.NumGoroutine")=false) (hb:fn.body.isNone=false):zi P f:=λargs w=>by simp only[callFunc,Sem.run_bind,run_program,Result.andThen_ok,hf,hn,hb,Bool.false_eq_true,if_false,Sem.run_pure]
def Fnc (P:Program) (f:FuncId) (args:List Value) (V:View) (R:Value->View->Prop):Prop:=
 ∀ w,Le V (hp w)->Calls P f args.toArray w λe w'=>∃ v V',e=.returned v/\Below w.heap.size w w'/\Le V V'/\Le V' (hp w')/\(∀ k o,V' k=some o->V k=some o\/w.heap.size<=k)/\R v V'
theorem Fnc.mono {P:Program} {f:FuncId} {args:List Value} {V:View} {R R':Value->View->Prop} (h:Fnc P f args V R) (hr:∀ v V',Le V V'->R v V'->R' v V'):Fnc P f args V R':=λw hw=>
 (h w hw).mono λe w' ⟨v,V',h1,h2,h3,h4,h5,h6⟩=>⟨v,V',h1,h2,h3,h4,h5,hr v V' h3 h6⟩
theorem Fnc.more {P:Program} {f:FuncId} {args:List Value} {V V':View} {R:Value->Prop} (h:Fnc P f args V (λv _=>R v)) (hl:Le V V'):Fnc P f args V' (λv _=>R v):=λw hw=>
 (h w (hl.trans hw)).mono λe w' ⟨v,V1,h1,h2,_,_,_,h6⟩=>⟨v,V',h1,h2,Le.refl _,hw.trans (Below.le h2),λk o hk=>.inl hk,h6⟩
def frame:List Value->Nat->List (Nat×Value)
 | [],_=>[]
 | v::l,i=>(i,v)::frame l (i+1)
theorem frame_known:∀ (l:List Value) (i j:Nat) (v:Value),look (frame l i) j=some v->i<=j/\l[j-i]? = some v
 | [],_,_,_,h=>by cases h
 | u::l,i,j,v,h=>by
  simp only[frame,look]at h;cases hb:Nat.beq i j with
  | true=>
   rw[hb]at h;simp at h;have:=Nat.eq_of_beq_eq_true hb;subst this;exact⟨Nat.le_refl _,by simp[h]⟩
  | false=>
   rw[hb]at h;simp at h;have:=frame_known l (i+1) j v h;refine⟨by omega,?_⟩;have e:j-i=(j-(i+1))+1:=by omega
   rw[e];simpa using this.2
theorem zG {P:Program} {f:FuncId} {fn:Func} {c:Code} {args:List Value} {V:View} {R:Value->View->Prop} {n:Nat} (hf:P.funcs[f]? = some fn) (hb:fn.body=some c) (hn:fn.ntmps=n) (hl:args.length<=n)
  (h:∀ w,Le V (hp w)->At ⟨w,V,[]⟩ n (frame args 0) [] V (c.wpIn (FW none) 0 P (bodyPost P fn λe w'=>∃ v V',e=.returned v/\Below w.heap.size w w'/\Le V V'/\Le V' (hp w')/\(∀ k o,V' k=some o->V k=some o\/w.heap.size<=k)/\R v V'))) :
  Fnc P f args V R:=λw hw=>by
 refine(jG (ro:=none) (n:=0)).1 (callsIn_of_wp hf hb trivial (h w hw _ w ⟨rfl,?_,λi v hi=>?_⟩ ⟨Below.refl _ _,Le.refl _,λk o hk=>.inl hk,hw,[],rfl,List.nodup_nil,λb hb=>by cases hb⟩) rfl)
 ·simp[hn];omega
 ·have:=(frame_known args 0 i v hi).2
  simp only[Nat.sub_zero]at this;have hlt:=(List.getElem?_eq_some_iff.1 this).1;rw[Array.getElem?_append_left (by simpa using hlt)];simpa using this
section
variable {cx:Cx} {n:Nat} {ks:List (Nat×Value)} {O O' R:List Own} {V:View} {P:Program} {ops:Array Oper} {Qn:Act->World->Prop} {t:Tr} {i d:Nat} {T:TypeId} {pos:String} {after:Array Edge} {gd:Option (Nat×Bool)} {x y:Operand} {u v:Value} {wr:Bool}
theorem vcell_of {V:View} {p:Addr} {us:List Value} {j:Nat} {v:Value} (h:Cells V p us) (hj:us[j]? = some v):jb V (p.add j)=some v:=h j v hj
theorem vcell_of0 {V:View} {p:Addr} {us:List Value} {v:Value} (h:Cells V p us) (hj:us[0]? = some v):jb V p=some v:=h 0 v hj
/-! #### Reading -/
theorem AtT.load {X:TypeId} {p:Addr} {s:Nat} (ho:ops[i]? = some ⟨some d,.load X x,T,pos,after,gd⟩) (hg:Gd ks ops gd) (hx:ev ks x=some (.pointer (some p))) (hT:tkB P X=some (false,s)) (hc:jb V p=some v) (hn:d<n)
  (next:AtT cx n ((d,v)::ks) O V P ops Qn t):AtT cx n ks O V P ops Qn (.q i t):=
 .q ho hg rfl hn (λa w hk hm=>by simp[execOp,hk.ev hx,run_load_cell hT (vcell_le hm.view hc)]) next
theorem loadA {X:TypeId} {p:Addr} {us:List Value} {m:Nat} (ho:ops[i]? = some ⟨some d,.load X x,T,pos,after,gd⟩) (hg:Gd ks ops gd) (hx:ev ks x=some (.pointer (some p))) (hT:tkB P X=some (true,m)) (hc:Cells V p us) (hl:us.length=m) (hn:d<n)
  (next:AtT cx n ((d,.agg us.toArray)::ks) O V P ops Qn t):AtT cx n ks O V P ops Qn (.q i t):=
 .q ho hg rfl hn (λa w hk hm=>by simp[execOp,hk.ev hx,kC hT hl (hc.run hm.view)]) next
theorem jM {X:TypeId} {b off:Nat} {cs:List Value} {E:TypeId} {fr:Nat×Nat} {s:Nat} (ho:ops[i]? = some ⟨some d,.load X x,T,pos,after,gd⟩) (hg:Gd ks ops gd) (hx:ev ks x=some (.pointer (some ⟨b,off,none⟩))) (hT:tkB P X=some (false,s)) (hp:zo (.blk b (LC cs E fr)) O R) (hc:cs[off]? = some v) (hn:d<n)
  (next:AtT cx n ((d,v)::ks) O V P ops Qn t):AtT cx n ks O V P ops Qn (.q i t):=
 .q ho hg rfl hn (λa w hk hm=>by simp[execOp,hk.ev hx,run_load_cell hT ((qP (hm.pick hp).blk).trans hc)]) next
theorem loadOA {X:TypeId} {b:Nat} {cs:List Value} {E:TypeId} {fr:Nat×Nat} {m:Nat} (ho:ops[i]? = some ⟨some d,.load X x,T,pos,after,gd⟩) (hg:Gd ks ops gd) (hx:ev ks x=some (.pointer (some ⟨b,0,none⟩))) (hT:tkB P X=some (true,m)) (hp:zo (.blk b (LC cs E fr)) O R) (hl:cs.length=m) (hn:d<n)
  (next:AtT cx n ((d,.agg cs.toArray)::ks) O V P ops Qn t):AtT cx n ks O V P ops Qn (.q i t):=
 .q ho hg rfl hn (λa w hk hm=>by
  have hb:=(hm.pick hp).blk
  simp[execOp,hk.ev hx,kC hT hl (λj u hj=>by rw[Addr.add_lit,qP hb,Nat.zero_add];exact hj)]) next
theorem loadOP {X:TypeId} {b off:Nat} {cs us:List Value} {E:TypeId} {fr:Nat×Nat} {m:Nat} (ho:ops[i]? = some ⟨some d,.load X x,T,pos,after,gd⟩) (hg:Gd ks ops gd) (hx:ev ks x=some (.pointer (some ⟨b,off,none⟩))) (hT:tkB P X=some (true,m)) (hp:zo (.blk b (LC cs E fr)) O R) (hu:(cs.drop off).take m=us) (hl:us.length=m) (hn:d<n)
  (next:AtT cx n ((d,.agg us.toArray)::ks) O V P ops Qn t):AtT cx n ks O V P ops Qn (.q i t):=
 .q ho hg rfl hn (λa w hk hm=>by
  have hb:=(hm.pick hp).blk
  simp[execOp,hk.ev hx,kC hT hl (λj u hj=>by
   rw[Addr.add_lit,qP hb];subst hu;rw[List.getElem?_take]at hj;split at hj
   ·rw[List.getElem?_drop]at hj;exact hj
   ·cases hj)]) next
/-! #### Addresses -/
def foB (P:Program) (S:TypeId) (f:Nat):Option Nat:=
 match P.underlying S with
 | some (.struct fs)=>match fs[f]? with
  | some fd=>match P.info? fd.type with
   | some j=>if j.size=0 then none else some fd.offset
   | none=>none
  | none=>none
 | _=>none
theorem run_fieldAt {P:Program} {S:TypeId} {f k:Nat} (h:foB P S f=some k) (p:Addr) (w:World):(Instr.fieldAt S (.pointer (some p)) f).run P w=.ok (.pointer (some (p.add k))) w:=by
 unfold foB at h;cases hu:P.underlying S with
 | none=>rw[hu]at h;cases h
 | some dd=>
  cases dd with
  | struct fs=>
   rw[hu]at h;simp only at h;cases hf:fs[f]? with
   | none=>rw[hf]at h;cases h
   | some fd=>
    rw[hf]at h;simp only at h;cases hi:P.info? fd.type with
    | none=>rw[hi]at h;cases h
    | some j=>
     rw[hi]at h;simp only at h;by_cases hz:j.size=0
     ·rw[if_pos hz]at h;cases h
     ·rw[if_neg hz]at h;simp only[Option.some.injEq]at h;simp[Instr.fieldAt,run_underlying hu,hf,Instr.sureAddr,fieldPlace,sizeOf,typeInfo,hi,hz,h]
  | _=>rw[hu]at h;cases h
theorem AtT.field {S f:Nat} {p:Addr} {k:Nat} (ho:ops[i]? = some ⟨some d,.fieldAddr S x f,T,pos,after,gd⟩) (hg:Gd ks ops gd) (hx:ev ks x=some (.pointer (some p))) (hf:foB P S f=some k) (hn:d<n)
  (next:AtT cx n ((d,.pointer (some (p.add k)))::ks) O V P ops Qn t):AtT cx n ks O V P ops Qn (.q i t):=
 .q ho hg rfl hn (λa w hk hm=>by simp[execOp,hk.ev hx,run_fieldAt hf]) next
theorem field2 {S f:Nat} {p:Addr} {j k:Nat} (ho:ops[i]? = some ⟨some d,.fieldAddr S x f,T,pos,after,gd⟩) (hg:Gd ks ops gd) (hx:ev ks x=some (.pointer (some (p.add j)))) (hf:foB P S f=some k) (hn:d<n)
  (next:AtT cx n ((d,.pointer (some (p.add (j+k))))::ks) O V P ops Qn t):AtT cx n ks O V P ops Qn (.q i t):=
 .field ho hg hx hf hn (by rw[addr_add_add];exact next)
theorem fieldO {S f:Nat} {b off:Nat} {k:Nat} (ho:ops[i]? = some ⟨some d,.fieldAddr S x f,T,pos,after,gd⟩) (hg:Gd ks ops gd) (hx:ev ks x=some (.pointer (some ⟨b,off,none⟩))) (hf:foB P S f=some k) (hn:d<n)
  (next:AtT cx n ((d,.pointer (some ⟨b,off+k,none⟩))::ks) O V P ops Qn t):AtT cx n ks O V P ops Qn (.q i t):=
 .field ho hg hx hf hn (by rw[Addr.add_lit];exact next)
theorem AtT.nil {p:Addr} (ho:ops[i]? = some ⟨some d,.nilCheck x,T,pos,after,gd⟩) (hg:Gd ks ops gd) (hx:ev ks x=some (.pointer (some p))) (hn:d<n)
  (next:AtT cx n ((d,.pointer (some p))::ks) O V P ops Qn t):AtT cx n ks O V P ops Qn (.q i t):=
 .q ho hg rfl hn (λa w hk hm=>by simp[execOp,hk.ev hx]) next
theorem AtT.idx {α:Type} {X E:TypeId} {enc:α->List Value} {s:Nat} {l:List α} {k:IntKind} {j:Int} {ag:Bool} (ho:ops[i]? = some ⟨some d,.indexAddr X x y,T,pos,after,gd⟩) (hg:Gd ks ops gd) (hX:P.underlying X=some (.slice E)) (hE:tkB P E=some (ag,s))
  (hx:ev ks x=some v) (hl:Sl V enc s v l) (hy:ev ks y=some (.int k j)) (h0:0<=j) (h1:j<l.length) (hn:d<n)
  (next:∀ (p:Addr) (e:α),l[j.toNat]? = some e->Cells V p (enc e)->AtT cx n ((d,.pointer (some p))::ks) O V P ops Qn t):AtT cx n ks O V P ops Qn (.q i t):=by
 obtain⟨a,cap,rfl,h2,h3,h4,h5⟩:=hl;have hlt:j.toNat<l.length:=by omega
 cases a with
 | none=>exact absurd (h4 (by intro e;rw[e]at hlt;cases hlt)) (by simp)
 | some b=>
  have he:l[j.toNat]? = some (l[j.toNat]):=List.getElem?_eq_getElem hlt
  refine .q ho hg rfl hn (λa w hk hm=>?_) (next (b.add (j.toNat*s)) _ he (h5 b rfl _ _ he));simp only[execOp,hk.ev hx,hk.ev hy];simp[Instr.indexAt,asIntOf,run_underlying hX,run_sizeOf hE,h0,h1]
theorem idxA {X E:TypeId} {len s:Nat} {k:IntKind} {j:Int} {b off:Nat} {ag:Bool} (ho:ops[i]? = some ⟨some d,.indexAddr X x y,T,pos,after,gd⟩) (hg:Gd ks ops gd) (hX:P.underlying X=some (.array len E)) (hE:tkB P E=some (ag,s))
  (hx:ev ks x=some (.pointer (some ⟨b,off,none⟩))) (hy:ev ks y=some (.int k j)) (h0:0<=j) (h1:j<len) (hn:d<n)
  (next:AtT cx n ((d,.pointer (some ⟨b,off+j.toNat*s,none⟩))::ks) O V P ops Qn t):AtT cx n ks O V P ops Qn (.q i t):=
 .q ho hg rfl hn (λa w hk hm=>by simp only[execOp,hk.ev hx,hk.ev hy];simp[Instr.indexAt,asIntOf,run_underlying hX,run_sizeOf hE,h0,h1,Instr.sureAddr,Addr.add_lit]) next
theorem idxO {X E:TypeId} {len cap s:Nat} {k:IntKind} {j:Int} {b off:Nat} {ag:Bool} (ho:ops[i]? = some ⟨some d,.indexAddr X x y,T,pos,after,gd⟩) (hg:Gd ks ops gd) (hX:P.underlying X=some (.slice E)) (hE:tkB P E=some (ag,s))
  (hx:ev ks x=some (.slice (some ⟨b,off,none⟩) len cap)) (hy:ev ks y=some (.int k j)) (h0:0<=j) (h1:j<len) (hn:d<n)
  (next:AtT cx n ((d,.pointer (some ⟨b,off+j.toNat*s,none⟩))::ks) O V P ops Qn t):AtT cx n ks O V P ops Qn (.q i t):=
 .q ho hg rfl hn (λa w hk hm=>by simp only[execOp,hk.ev hx,hk.ev hy];simp[Instr.indexAt,asIntOf,run_underlying hX,run_sizeOf hE,h0,h1,Addr.add_lit]) next
/-! #### Lengths -/
theorem xL {α:Type} {X E:TypeId} {enc:α->List Value} {s:Nat} {l:List α} (ho:ops[i]? = some ⟨some d,.call ⟨.builtin .len,#[x],#[X]⟩,T,pos,after,gd⟩) (hg:Gd ks ops gd) (hX:P.underlying X=some (.slice E))
  (hx:ev ks x=some v) (hl:Sl V enc s v l) (hn:d<n)
  (next:AtT cx n ((d,.int .i64 l.length)::ks) O V P ops Qn t):AtT cx n ks O V P ops Qn (.q i t):=by
 obtain⟨a,cap,rfl,h2,h3,h4,h5⟩:=hl;refine .q ho hg rfl hn (λb w hk hm=>?_) next
 simp[execOp,resolve,invoke,builtin,hk.ev hx,run_len_slice (P:=P) w X T a l.length cap (by simp[Program.elem,hX]),goInt]
theorem lenR {X E:TypeId} {a:Option Addr} {m cap:Nat} (ho:ops[i]? = some ⟨some d,.call ⟨.builtin .len,#[x],#[X]⟩,T,pos,after,gd⟩) (hg:Gd ks ops gd) (hX:P.underlying X=some (.slice E))
  (hx:ev ks x=some (.slice a m cap)) (hn:d<n)
  (next:AtT cx n ((d,.int .i64 m)::ks) O V P ops Qn t):AtT cx n ks O V P ops Qn (.q i t):=by
 refine .q ho hg rfl hn (λb w hk hm=>?_) next
 simp[execOp,resolve,invoke,builtin,hk.ev hx,run_len_slice (P:=P) w X T a m cap (by simp[Program.elem,hX]),goInt]
/-! #### New memory -/
theorem AtT.alloc {E:TypeId} {z:Value} {cs:List Value} (ho:ops[i]? = some ⟨some d,.alloc E,T,pos,after,gd⟩) (hg:Gd ks ops gd) (hz:zK P E=some z) (hc:z.cells=cs.toArray) (hn:d<n)
  (next:∀ b,AtT cx n ((d,.pointer (some ⟨b,0,none⟩))::ks) (.blk b (LC cs E)::O) V P ops Qn t):AtT cx n ks O V P ops Qn (.n wr i t):=
 .x ho hg λa w hk hm=>by simp only[opW,execOp,Instr.alloc,newVar,newRow,Sem.run_bind,run_zero hz,Result.andThen_ok,run_newObj,Sem.run_pure];rw[hc];exact⟨_,.blk w.heap.size (LC cs E)::O,V,hk.put hn _,hm.alloc (LC cs E),λ_ u hu=>hu.drop,next _⟩
theorem AtT.box {E:TypeId} {cs:List Value} (ho:ops[i]? = some ⟨some d,.box E x,T,pos,after,gd⟩) (hg:Gd ks ops gd) (hx:ev ks x=some v) (hc:v.cells=cs.toArray) (hn:d<n)
  (next:∀ b,AtT cx n ((d,.pointer (some ⟨b,0,none⟩))::ks) (.blk b (LC cs E)::O) V P ops Qn t):AtT cx n ks O V P ops Qn (.n wr i t):=
 .x ho hg λa w hk hm=>by simp only[opW,execOp,Instr.box,newVar,newRow,Sem.run_bind,hk.ev hx,Result.andThen_ok,run_newObj,Sem.run_pure];rw[hc];exact⟨_,.blk w.heap.size (LC cs E)::O,V,hk.put hn _,hm.alloc (LC cs E),λ_ u hu=>hu.drop,next _⟩
def evs (ks:List (Nat×Value)):List Operand->Option (List Value)
 | []=>some []
 | o::l=>match ev ks o,evs ks l with
  | some v,some vs=>some (v::vs)
  | _,_=>none
theorem evs_map {a:Act} (hk:Kn cx n ks a):∀ (l:List Operand) (vs:List Value),evs ks l=some vs->l.map a.eval=vs
 | [],vs,h=>by simp only[evs,Option.some.injEq]at h;subst h;rfl
 | o::l,vs,h=>by
  simp only[evs]at h;cases ho:ev ks o with
  | none=>rw[ho]at h;cases h
  | some v=>
   cases hl:evs ks l with
   | none=>rw[ho,hl]at h;cases h
   | some us=>rw[ho,hl]at h;simp only[Option.some.injEq]at h;subst h;simp only[List.map_cons,hk.ev ho,evs_map hk l us hl]
def evp (ks:List (Nat×Value)):List (Nat×Operand)->Option (List (Nat×Value))
 | []=>some []
 | (j,o)::l=>match ev ks o,evp ks l with
  | some v,some vs=>some ((j,v)::vs)
  | _,_=>none
theorem evp_map {a:Act} (hk:Kn cx n ks a):∀ (l:List (Nat×Operand)) (vs:List (Nat×Value)),evp ks l=some vs->l.map (λ(j,o)=>(j,a.eval o))=vs
 | [],vs,h=>by simp only[evp,Option.some.injEq]at h;subst h;rfl
 | (j,o)::l,vs,h=>by
  simp only[evp]at h;cases ho:ev ks o with
  | none=>rw[ho]at h;cases h
  | some v=>
   cases hl:evp ks l with
   | none=>rw[ho,hl]at h;cases h
   | some us=>rw[ho,hl]at h;simp only[Option.some.injEq]at h;subst h;simp only[List.map_cons,hk.ev ho,evp_map hk l us hl]
theorem AtT.build {X:TypeId} {ps:List (Nat×Operand)} {vs:List (Nat×Value)} (ho:ops[i]? = some ⟨some d,.build X ps.toArray,T,pos,after,gd⟩) (hg:Gd ks ops gd) (hp:evp ks ps=some vs)
  (hr:∀ w,(Instr.build X vs.toArray).run P w=.ok v w) (hn:d<n)
  (next:AtT cx n ((d,v)::ks) O V P ops Qn t):AtT cx n ks O V P ops Qn (.q i t):=
 .q ho hg rfl hn (λa w hk hm=>by
  have e:(ps.toArray.map λ(j,o)=>(j,a.eval o))=vs.toArray:=by rw[<-evp_map hk ps vs hp];simp
  simp only[execOp,e,Sem.run_bind,hr,Result.andThen_ok,Sem.run_pure]) next
theorem bslice {X E:TypeId} {m:Nat} {cs:List Value} {ps:List (Nat×Operand)} {vs:List (Nat×Value)} (ho:ops[i]? = some ⟨some d,.buildSlice X m ps.toArray,T,pos,after,gd⟩) (hg:Gd ks ops gd) (hp:evp ks ps=some vs)
  (hr:∀ w,(Instr.buildSlice X m vs.toArray).run P w=.ok (.slice (some ⟨w.heap.size,0,none⟩) m m) (w.alloc (LC cs E))) (hn:d<n)
  (next:∀ b,AtT cx n ((d,.slice (some ⟨b,0,none⟩) m m)::ks) (.blk b (LC cs E)::O) V P ops Qn t):AtT cx n ks O V P ops Qn (.n wr i t):=
 .x ho hg λa w hk hm=>by
  have e:(ps.toArray.map λ(j,o)=>(j,a.eval o))=vs.toArray:=by rw[<-evp_map hk ps vs hp];simp
  simp only[opW,execOp,e,Sem.run_bind,hr,Result.andThen_ok,Sem.run_pure];exact⟨_,.blk w.heap.size (LC cs E)::O,V,hk.put hn _,hm.alloc (LC cs E),λ_ u hu=>hu.drop,next _⟩
theorem AtT.fn {f:Fn} {fs cs:List Operand} {us vs:List Value} (ho:ops[i]? = some ⟨some d,.makeFunc f fs.toArray cs.toArray,T,pos,after,gd⟩) (hg:Gd ks ops gd) (hf:evs ks fs=some us) (hc:evs ks cs=some vs) (hn:d<n)
  (next:AtT cx n ((d,.func f us.toArray vs.toArray)::ks) O V P ops Qn t):AtT cx n ks O V P ops Qn (.q i t):=
 .q ho hg rfl hn (λa w hk _=>by
  have e1:fs.toArray.map a.eval=us.toArray:=by rw[<-evs_map hk fs us hf];simp
  have e2:cs.toArray.map a.eval=vs.toArray:=by rw[<-evs_map hk cs vs hc];simp
  simp[execOp,Instr.makeFunc,e1,e2]) next
/-! #### Writing -/
theorem AtT.store {X E:TypeId} {b off:Nat} {cs cs' us:List Value} {ag:Bool} {m:Nat} (ho:ops[i]? = some ⟨none,.store X x y,T,pos,after,gd⟩) (hg:Gd ks ops gd) (hx:ev ks x=some (.pointer (some ⟨b,off,none⟩))) (hy:ev ks y=some v)
  (hT:tkB P X=some (ag,m)) (hv:v.cells=us.toArray) (hm':us.length=m) (hl:off+us.length<=cs.length) (h1:us.all Value.oneCell'=true) (hc:cs.take off++us++cs.drop (off+us.length)=cs') (hp:Upd (.blk b (LC cs E)) (.blk b (LC cs' E)) O O')
  (next:AtT cx n ks O' V P ops Qn t):AtT cx n ks O V P ops Qn (.n true i t):=
 .x ho hg λa w hk hm=>by obtain⟨R,p1,p2⟩:=hp.perm;have hm1:=hm.perm p1;subst hm';obtain⟨w',hr,hg,hh⟩:=run_storeAt_blk (P:=P) hT hv hm1.blk hl (by simpa [List.all_eq_true]using h1);simp only[opW,execOp,hk.ev hx,hk.ev hy,Sem.run_bind,hr,Result.andThen_ok,Sem.run_pure];exact⟨ks,O',V,hk,(hm1.set hg (hc▸hh)).perm p2.symm,λh=>(by cases h),next⟩
theorem store1 {X E:TypeId} {b off:Nat} {cs cs':List Value} (ho:ops[i]? = some ⟨none,.store X x y,T,pos,after,gd⟩) (hg:Gd ks ops gd) (hx:ev ks x=some (.pointer (some ⟨b,off,none⟩))) (hy:ev ks y=some v)
  (hT:tkB P X=some (false,1)) (hv:v.cells=[v].toArray) (h1:v.oneCell'=true) (hp:Upd (.blk b (LC cs E)) (.blk b (LC cs' E)) O O') (hs:SetAt cs off v cs')
  (next:AtT cx n ks O' V P ops Qn t):AtT cx n ks O V P ops Qn (.n true i t):=by
 obtain⟨hlt,rfl⟩:=hs.eq;refine .store ho hg hx hy hT hv rfl (by simp;omega) (by simpa using h1) ?_ hp next
 rw[List.set_eq_take_append_cons_drop,if_pos hlt];simp
theorem storeA {X E:TypeId} {b:Nat} {cs us:List Value} {m:Nat} (ho:ops[i]? = some ⟨none,.store X x y,T,pos,after,gd⟩) (hg:Gd ks ops gd) (hx:ev ks x=some (.pointer (some ⟨b,0,none⟩))) (hy:ev ks y=some (.agg us.toArray))
  (hT:tkB P X=some (true,m)) (hm':us.length=m) (hl:cs.length=m) (h1:us.all Value.oneCell'=true) (hp:Upd (.blk b (LC cs E)) (.blk b (LC us E)) O O')
  (next:AtT cx n ks O' V P ops Qn t):AtT cx n ks O V P ops Qn (.n true i t):=
 .store ho hg hx hy hT rfl hm' (by omega) h1 (by simp[hm',<-hl]) hp next
/-! #### Calls -/
theorem AtT.call {f:FuncId} {args:List Operand} {ts:Array TypeId} {vs:List Value} {R:Value->View->Prop} (ho:ops[i]? = some ⟨some d,.call ⟨.value (.func f),args.toArray,ts⟩,T,pos,after,gd⟩) (hg:Gd ks ops gd) (ha:evs ks args=some vs) (hf:zi P f) (hn:d<n)
  (hc:Fnc P f vs V R) (next:∀ v V',Le V V'->R v V'->AtT cx n ((d,v)::ks) O V' P ops Qn t):AtT cx n ks O V P ops Qn (.n wr i t):=
 .x ho hg λa w hk hm=>by
  have e:args.toArray.map a.eval=vs.toArray:=by rw[<-evs_map hk args vs ha];simp
  have e2:a.eval (.func f)=.func (.func f) #[] #[]:=rfl
  simp only[opW,execOp,resolve,e,e2,Deferred.ofValue,Sem.run_bind,Sem.run_pure,Result.andThen_ok,invoke,Array.empty_append,Array.append_empty];rw[hf vs.toArray w];refine(hc w hm.view).mono λe w' ⟨v,V',h1,h2,h3,h4,h5,h6⟩=>?_;subst h1;exact⟨_,O,V',hk.put hn v,hm.more h2 h3 h4 h5,λ_ u hu=>hu.less hm.le0 h3,next v V' h3 h6⟩
theorem callP {f:FuncId} {args:List Operand} {ts:Array TypeId} {vs:List Value} {R:Value->Prop} (ho:ops[i]? = some ⟨some d,.call ⟨.value (.func f),args.toArray,ts⟩,T,pos,after,gd⟩) (hg:Gd ks ops gd) (ha:evs ks args=some vs) (hf:zi P f) (hn:d<n)
  (hc:Fnc P f vs V (λv _=>R v)) (next:∀ v,R v->AtT cx n ((d,v)::ks) O V P ops Qn t):AtT cx n ks O V P ops Qn (.n wr i t):=
 .x ho hg λa w hk hm=>by
  have e:args.toArray.map a.eval=vs.toArray:=by rw[<-evs_map hk args vs ha];simp
  have e2:a.eval (.func f)=.func (.func f) #[] #[]:=rfl
  simp only[opW,execOp,resolve,e,e2,Deferred.ofValue,Sem.run_bind,Sem.run_pure,Result.andThen_ok,invoke,Array.empty_append,Array.append_empty];rw[hf vs.toArray w];refine(hc w hm.view).mono λe w' ⟨v,V',h1,h2,h3,h4,h5,h6⟩=>?_;subst h1;exact⟨_,O,V,hk.put hn v,hm.ext h2,λ_ u hu=>hu,next v h6⟩
theorem xM {c:Operand} {f:FuncId} {args:List Operand} {fs cs:List Value} {ts:Array TypeId} {vs:List Value} {R:Value->Prop} (ho:ops[i]? = some ⟨some d,.call ⟨.value c,args.toArray,ts⟩,T,pos,after,gd⟩) (hg:Gd ks ops gd) (hcv:ev ks c=some (.func (.func f) fs.toArray cs.toArray)) (ha:evs ks args=some vs) (hf:zi P f) (hn:d<n)
  (hc:Fnc P f (fs++vs++cs) V (λv _=>R v)) (next:∀ v,R v->AtT cx n ((d,v)::ks) O V P ops Qn t):AtT cx n ks O V P ops Qn (.n wr i t):=
 .x ho hg λa w hk hm=>by
  have e:args.toArray.map a.eval=vs.toArray:=by rw[<-evs_map hk args vs ha];simp
  have e3:(fs.toArray++vs.toArray++cs.toArray)=(fs++vs++cs).toArray:=by simp
  simp only[opW,execOp,resolve,e,hk.ev hcv,Deferred.ofValue,Sem.run_bind,Sem.run_pure,Result.andThen_ok,invoke,e3];rw[hf];refine(hc w hm.view).mono λe w' ⟨v,V',h1,h2,h3,h4,h5,h6⟩=>?_;subst h1;exact⟨_,O,V,hk.put hn v,hm.ext h2,λ_ u hu=>hu,next v h6⟩
def ovl (V:View):List Own->View
 | []=>V
 | .blk b o::l=>λk=>if k=b then some o else ovl V l k
 | .row ..::l=>ovl V l
theorem ovl_hp {w:World} : ∀ {O:List Own} {fp:List Nat},Le V (hp w)->OwnsL cx.w0.heap.size w O fp->Le (ovl V O) (hp w)
 | [],_,hv,_=>hv
 | .blk b o::l,_,hv,⟨f,g,_,⟨_,_,hb⟩,hl⟩=>λk o' hk=>by
  simp only[ovl]at hk;by_cases e:k=b
  ·subst e;simp at hk;subst hk;exact hb
  ·simp[e]at hk;exact ovl_hp hv hl k o' hk
 | .row ..::l,_,hv,⟨f,g,_,_,hl⟩=>λk o' hk=>ovl_hp hv hl k o' hk
theorem xY {f:FuncId} {args:List Operand} {ts:Array TypeId} {vs:List Value} {R:Value->Prop} (ho:ops[i]? = some ⟨some d,.call ⟨.value (.func f),args.toArray,ts⟩,T,pos,after,gd⟩) (hg:Gd ks ops gd) (ha:evs ks args=some vs) (hf:zi P f) (hn:d<n)
  (hc:Fnc P f vs (ovl V O) (λv _=>R v)) (next:∀ v,R v->AtT cx n ((d,v)::ks) O V P ops Qn t):AtT cx n ks O V P ops Qn (.n wr i t):=
 .x ho hg λa w hk hm=>by
  have e:args.toArray.map a.eval=vs.toArray:=by rw[<-evs_map hk args vs ha];simp
  have e2:a.eval (.func f)=.func (.func f) #[] #[]:=rfl
  obtain⟨fp,hown,_,_⟩:=hm.own;simp only[opW,execOp,resolve,e,e2,Deferred.ofValue,Sem.run_bind,Sem.run_pure,Result.andThen_ok,invoke,Array.empty_append,Array.append_empty];rw[hf vs.toArray w];refine(hc w (ovl_hp hm.view hown)).mono λe w' ⟨v,V',h1,h2,h3,h4,h5,h6⟩=>?_;subst h1;exact⟨_,O,V,hk.put hn v,hm.ext h2,λ_ u hu=>hu,next v h6⟩
theorem AtT.extract {us:List Value} {j:Nat} (ho:ops[i]? = some ⟨some d,.extract x j,T,pos,after,gd⟩) (hg:Gd ks ops gd) (hx:ev ks x=some (.tuple us.toArray)) (hu:us[j]? = some v) (hn:d<n)
  (next:AtT cx n ((d,v)::ks) O V P ops Qn t):AtT cx n ks O V P ops Qn (.q i t):=
 .q ho hg rfl hn (λa w hk hm=>by simp[execOp,hk.ev hx,Instr.extract,hu]) next
end
/-! ### Several blocks that are laid in whatever order -/
structure AlS where
 i:Nat
 d:Nat
 E:TypeId
 cs:List Value
def Tr.al:Nat->List Nat->Tr->Tr
 | 0,_,t=>t
 | k+1,is,t=>.br is (λi=>Tr.al k (is.erase i) t)
def AlOk (P:Program) (ops:Array Oper) (n:Nat):List AlS->Prop
 | []=>True
 | a::l=>(∃ T pos after z,ops[a.i]? = some ⟨some a.d,.alloc a.E,T,pos,after,none⟩/\zK P a.E=some z/\z.cells=a.cs.toArray/\a.d<n)/\AlOk P ops n l
theorem AlOk.at {P:Program} {ops:Array Oper} {n:Nat} : ∀ {l:List AlS} {a:AlS},AlOk P ops n l->a∈l->∃ T pos after z,ops[a.i]? = some ⟨some a.d,.alloc a.E,T,pos,after,none⟩/\zK P a.E=some z/\z.cells=a.cs.toArray/\a.d<n
 | b::l,a,h,ha=>by
  rcases List.mem_cons.1 ha with rfl | ha
  ·exact h.1
  ·exact AlOk.at h.2 ha
theorem AlOk.sub {P:Program} {ops:Array Oper} {n:Nat} : ∀ {l l':List AlS},AlOk P ops n l->(∀ a∈l',a∈l)->AlOk P ops n l'
 | l,[],_,_=>trivial
 | l,a::l',h,hs=>⟨h.at (hs a (by simp)),AlOk.sub h λb hb=>hs b (List.mem_cons_of_mem _ hb)⟩
section
variable {cx:Cx} {n:Nat} {ks:List (Nat×Value)} {O:List Own} {V:View} {P:Program} {ops:Array Oper} {Qn:Act->World->Prop} {t:Tr}
theorem AtT.br {is:List Nat} {f:Nat->Tr} (h:∀ i∈is,AtT cx n ks O V P ops Qn (.n false i (f i))):AtT cx n ks O V P ops Qn (.br is f):=λa w hk hm i hi=>by obtain⟨o,ho,hs⟩:=h i hi a w hk hm;exact⟨o,ho,qm (λa' w' ⟨S',h1,h2,h3⟩=>⟨S',h1 rfl,h2,h3⟩) hs⟩
theorem AtT.kn {ks':List (Nat×Value)} (hs:∀ i v,look ks' i=some v->look ks i=some v) (h:AtT cx n ks' O V P ops Qn t):AtT cx n ks O V P ops Qn t:=λa w hk hm=>h a w ⟨hk.defers,hk.size,λi v hv=>hk.known i v (hs i v hv)⟩ hm
theorem xN {O':List Own} (hp:O.Perm O') (h:AtT cx n ks O' V P ops Qn t):AtT cx n ks O V P ops Qn t:=λa w hk hm=>by
 have:=h a w hk (hm.perm hp)
 have e:Mem cx O' V=Mem cx O V:=funext λu=>propext ⟨λh=>h.perm hp.symm,λh=>h.perm hp⟩
 rwa[e]at this
abbrev alK (bs:Nat->Nat) (zas:List AlS):List (Nat×Value):=zas.map λa=>(a.d,Value.pointer (some ⟨bs a.d,0,none⟩))
abbrev alO (bs:Nat->Nat) (zas:List AlS):List Own:=zas.map λa=>Own.blk (bs a.d) (LC a.cs a.E)
theorem look_app:∀ (l ks:List (Nat×Value)) (i:Nat),look (l++ks) i=(look l i).or (look ks i)
 | [],ks,i=>by simp[look]
 | (j,v)::l,ks,i=>by
  simp only[List.cons_append,look];cases Nat.beq j i with
  | true=>simp
  | false=>simpa using look_app l ks i
theorem look_alK (bs:Nat->Nat):∀ (zas:List AlS) (i:Nat) (v:Value),look (alK bs zas) i=some v->i∈zas.map (·.d)/\v=.pointer (some ⟨bs i,0,none⟩)
 | a::zas,i,v,h=>by
  simp only[alK,List.map_cons,look]at h;cases hb:Nat.beq a.d i with
  | true=>
   rw[hb]at h;simp at h;have:=Nat.eq_of_beq_eq_true hb;subst this;exact⟨by simp,h.symm⟩
  | false=>rw[hb]at h;simp at h;have:=look_alK bs zas i v h;exact⟨List.mem_cons_of_mem _ this.1,this.2⟩
theorem look_alK_some (bs:Nat->Nat):∀ (zas:List AlS) (i:Nat),i∈zas.map (·.d)->look (alK bs zas) i=some (.pointer (some ⟨bs i,0,none⟩))
 | a::zas,i,h=>by
  simp only[alK,List.map_cons,look];cases hb:Nat.beq a.d i with
  | true=>
   have:=Nat.eq_of_beq_eq_true hb
   subst this;simp
  | false=>
   simp only[cond_false];refine look_alK_some bs zas i ?_;rcases List.mem_cons.1 h with e | h
   ·rw[e,Nat.beq_refl]at hb;cases hb
   ·exact h
theorem alO_congr (bs bs':Nat->Nat):∀ (zas:List AlS),(∀ a∈zas,bs a.d=bs' a.d)->alO bs zas=alO bs' zas
 | [],_=>rfl
 | a::zas,h=>by simp only[alO,List.map_cons];rw[h a (by simp)];congr 1;exact alO_congr bs bs' zas λb hb=>h b (List.mem_cons_of_mem _ hb)
theorem als_step (bs:Nat->Nat) (b:Nat) {a:AlS} {l1 l2:List AlS} {ks:List (Nat×Value)} {O:List Own} (hnd:a.d∉(l1++l2).map (·.d)) :
  ∃ bs':Nat->Nat,(∀ j v,look (alK bs' (l1++a::l2)++ks) j=some v->look (alK bs (l1++l2)++((a.d,.pointer (some ⟨b,0,none⟩))::ks)) j=some v)/\
   (alO bs (l1++l2)++(.blk b (LC a.cs a.E)::O)).Perm (alO bs' (l1++a::l2)++O):=by
 let bs':Nat->Nat:=λj=>if j=a.d then b else bs j
 have hbs:∀ c∈l1++l2,bs' c.d=bs c.d:=λc hc=>by
  have:c.d≠a.d:=λe=>hnd (by rw[<-e];exact List.mem_map_of_mem hc)
  simp[bs',this]
 have hba:bs' a.d=b:=by simp[bs']
 refine⟨bs',λj v hv=>?_,?_⟩
 ·rw[look_app]at hv⊢;cases hl:look (alK bs' (l1++a::l2)) j with
  | none=>
   rw[hl]at hv;have hj:j∉(l1++a::l2).map (·.d):=λhm=>by rw[look_alK_some _ _ _ hm]at hl;cases hl
   have hj1:look (alK bs (l1++l2)) j=none:=by
    cases hl2:look (alK bs (l1++l2)) j with
    | none=>rfl
    | some u=>
     have:=(look_alK _ _ _ _ hl2).1
     exact absurd (by simp at this⊢;rcases this with h | h<;>simp[h]) hj
   rw[hj1];have hja:Nat.beq a.d j=false:=by
    cases hb:Nat.beq a.d j with
    | false=>rfl
    | true=>exact absurd (by rw[<-Nat.eq_of_beq_eq_true hb];simp) hj
   simp only[Option.none_or,look,hja,cond_false]at hv⊢;exact hv
  | some u=>
   rw[hl]at hv;simp at hv;subst hv;obtain⟨hm,rfl⟩:=look_alK _ _ _ _ hl;by_cases hja:j=a.d
   ·subst hja;have:look (alK bs (l1++l2)) a.d=none:=by
     cases hl2:look (alK bs (l1++l2)) a.d with
     | none=>rfl
     | some u=>exact absurd (look_alK _ _ _ _ hl2).1 hnd
    rw[this,hba];simp[look]
   ·have hm':j∈(l1++l2).map (·.d):=by
     simp at hm⊢;rcases hm with h | h | h
     ·exact .inl h
     ·exact absurd h hja
     ·exact .inr h
    rw[look_alK_some _ _ _ hm'];simp[bs',hja]
 ·have e2:alO bs' (l1++a::l2)=alO bs' l1++.blk b (LC a.cs a.E)::alO bs' l2:=by simp[alO,List.map_append,hba]
  have e3:alO bs (l1++l2)=alO bs' l1++alO bs' l2:=by rw[<-alO_congr bs' bs (l1++l2) hbs];simp[alO,List.map_append]
  rw[e2,e3,List.append_assoc,List.append_assoc];exact List.Perm.append_left _ List.perm_middle
theorem xB:∀ (k:Nat) (zas:List AlS) (is:List Nat) {ks:List (Nat×Value)} {O:List Own},k=zas.length->is=zas.map (·.i)->AlOk P ops n zas->(zas.map (·.d)).Nodup->(zas.map (·.i)).Nodup->
  (∀ bs:Nat->Nat,AtT cx n (alK bs zas++ks) (alO bs zas++O) V P ops Qn t)->AtT cx n ks O V P ops Qn (Tr.al k is t)
 | 0,zas,is,ks,O,hk,_,_,_,_,h=>by
  have:zas=[]:=List.length_eq_zero_iff.1 hk.symm
  subst this;exact h λ_=>0
 | k+1,zas,is,ks,O,hk,hi,hok,hd,hin,h=>by
  subst hi;refine AtT.br λi hi=>?_;obtain⟨a,ha,rfl⟩:=List.mem_map.1 hi;obtain⟨T,pos,after,z,ho,hz,hc,hn⟩:=hok.at ha;refine AtT.alloc ho trivial hz hc hn λb=>?_;obtain⟨l1,l2,rfl⟩:=List.append_of_mem ha;have hnd:a.d∉(l1++l2).map (·.d):=by rw[List.map_append,List.map_cons]at hd;have:=(List.perm_middle.nodup_iff.1 hd);rw[List.map_append];exact(List.nodup_cons.1 this).1
  have e1:((l1++a::l2).map (·.i)).erase a.i=(l1++l2).map (·.i):=by rw[List.map_append,List.map_cons]at hin;have hni:a.i∉l1.map (·.i):=λhm=>(List.nodup_append.1 hin).2.2 _ hm _ (by simp) rfl;rw[List.map_append,List.map_cons,List.erase_append_right _ hni,List.erase_cons_head,List.map_append]
  refine xB k (l1++l2) _ (by simp at hk⊢;omega) e1 (hok.sub λc hc=>?_) ?_ ?_ λbs=>?_
  ·simp at hc⊢;rcases hc with h | h<;>simp[h]
  ·rw[List.map_append,List.map_cons]at hd;rw[List.map_append];exact(List.nodup_cons.1 (List.perm_middle.nodup_iff.1 hd)).2
  ·rw[List.map_append,List.map_cons]at hin;rw[List.map_append];exact(List.nodup_cons.1 (List.perm_middle.nodup_iff.1 hin)).2
  ·obtain⟨bs',h1,h2⟩:=als_step bs b (a:=a) (l1:=l1) (l2:=l2) (ks:=ks) (O:=O) hnd;exact AtT.kn h1 (xN h2 (h bs'))
end
section
variable {cx:Cx} {n:Nat} {ks:List (Nat×Value)} {O R:List Own} {V:View} {P:Program} {fn:Func}
inductive Res (P:Program) (ks:List (Nat×Value)) (O:List Own) (V:View):ResultVar->Value->Prop
 | tmp {t:Tmp} {v:Value} (h:look ks t=some v):Res P ks O V (.tmp t) v
 | cell {p:Tmp} {T:TypeId} {b:Nat} {cs:List Value} {E:TypeId} {fr:Nat×Nat} {R:List Own} {s:Nat} {v:Value} (h:look ks p=some (.pointer (some ⟨b,0,none⟩))) (hT:tkB P T=some (false,s)) (hp:zo (.blk b (LC cs E fr)) O R) (hc:cs[0]? = some v):Res P ks O V (.cell p T) v
 | agg {p:Tmp} {T:TypeId} {b:Nat} {cs:List Value} {E:TypeId} {fr:Nat×Nat} {R:List Own} {m:Nat} (h:look ks p=some (.pointer (some ⟨b,0,none⟩))) (hT:tkB P T=some (true,m)) (hp:zo (.blk b (LC cs E fr)) O R) (hl:cs.length=m):Res P ks O V (.cell p T) (.agg cs.toArray)
theorem Res.spec {r:ResultVar} {v:Value} {a:Act} {w:World} (h:Res P ks O V r v) (hk:Kn cx n ks a) (hm:Mem cx O V w) :
  (∃ t,r=.tmp t/\a.tmps[t]? = some v)\/(∃ p T q,r=.cell p T/\a.tmps[p]? = some (.pointer (some q))/\(loadVar T q).run P w=.ok v w):=by
 cases h with
 | tmp h=>exact .inl ⟨_,rfl,hk.known _ _ h⟩
 | cell h hT hp hc=>
  have:=run_load_cell (P:=P) hT ((qP (hm.pick hp).blk).trans hc)
  simp only[Instr.loadAt,Instr.sureAddr,Sem.run_bind,Sem.run_pure,Result.andThen_ok]at this;exact .inr ⟨_,_,_,rfl,hk.known _ _ h,this⟩
 | agg h hT hp hl=>
  have hb:=(hm.pick hp).blk
  have:=kC (P:=P) (w:=w) hT hl (p:=⟨_,0,none⟩) (λj u hj=>by rw[Addr.add_lit,qP hb,Nat.zero_add];exact hj)
  simp only[Instr.loadAt,Instr.sureAddr,Sem.run_bind,Sem.run_pure,Result.andThen_ok]at this;exact .inr ⟨_,_,_,rfl,hk.known _ _ h,this⟩
abbrev Post (cx:Cx) (R:Value->View->Prop):Ending->World->Prop:=λe w'=>∃ v V',e=.returned v/\Below cx.w0.heap.size cx.w0 w'/\Le cx.V0 V'/\Le V' (hp w')/\(∀ k o,V' k=some o->cx.V0 k=some o\/cx.w0.heap.size<=k)/\R v V'
theorem ret0 {R:Value->View->Prop} (hr:fn.results=#[]) (h:R (.tuple #[]) V) (hd:cx.ds=[]:=by rfl):At cx n ks O V (bodyPost P fn (Post cx R) .ret):=λa w hk hm=>
 ⟨hk.defers.trans hd,_,results_none hr _ _ _,_,V,rfl,hm.below,hm.le0,hm.view,hm.fresh,h⟩
theorem end0 {R:Value->View->Prop} (hr:fn.results=#[]) (h:R (.tuple #[]) V) (hd:cx.ds=[]:=by rfl):At cx n ks O V (bodyPost P fn (Post cx R) .normal):=λa w hk hm=>
 ⟨hk.defers.trans hd,_,results_none hr _ _ _,_,V,rfl,hm.below,hm.le0,hm.view,hm.fresh,h⟩
theorem zL {R:Value->View->Prop} {r:ResultVar} {v:Value} (hr:fn.results=#[r]) (h1:Res P ks O V r v) (h:R v V) (hd:cx.ds=[]:=by rfl):At cx n ks O V (bodyPost P fn (Post cx R) .ret):=λa w hk hm=>
 ⟨hk.defers.trans hd,v,by
  rcases h1.spec hk hm with ⟨t,rfl,e⟩ | ⟨p,T,q,rfl,e,l⟩<;>simp[results,hr,asAddr, *],_,V,rfl,hm.below,hm.le0,hm.view,hm.fresh,h⟩
theorem ret2 {R:Value->View->Prop} {r s:ResultVar} {v u:Value} (hr:fn.results=#[r,s]) (h1:Res P ks O V r v) (h2:Res P ks O V s u) (h:R (.tuple #[v,u]) V) (hd:cx.ds=[]:=by rfl):At cx n ks O V (bodyPost P fn (Post cx R) .ret):=λa w hk hm=>
 ⟨hk.defers.trans hd,.tuple #[v,u],by
  rcases h1.spec hk hm with ⟨t,rfl,e⟩ | ⟨p,T,q,rfl,e,l⟩<;>rcases h2.spec hk hm with ⟨t2,rfl,e2⟩ | ⟨p2,T2,q2,rfl,e2,l2⟩<;>simp[results,hr,asAddr, *],_,V,rfl,hm.below,hm.le0,hm.view,hm.fresh,h⟩
end
theorem zQ {V:View} {b:Nat} {cs:List Value} {E:TypeId} {fr:Nat×Nat} (h:V b=some (LC cs E fr)):Cells V ⟨b,0,none⟩ cs:=λj u hj=>by rw[Addr.add_lit];simp[jb,h,LC];exact hj
theorem Cells.at {V:View} {p:Addr} {us vs:List Value} {k:Nat} (h:Cells V p us) (hv:∀ j u,vs[j]? = some u->us[k+j]? = some u):Cells V (p.add k) vs:=λj u hj=>by rw[addr_add_add];exact h _ _ (hv j u hj)
def flat {α:Type} (enc:α->List Value) (l:List α):List Value:=l.flatMap enc
theorem zU {α:Type} {enc:α->List Value} {s:Nat} (he:∀ x,(enc x).length=s):∀ l:List α,(flat enc l).length=l.length*s
 | []=>by simp[flat]
 | x::l=>by
  have:=zU he l
  simp only[flat,List.flatMap_cons,List.length_append,he,List.length_cons,Nat.add_mul,Nat.one_mul]at this⊢;omega
theorem flat_at {α:Type} {enc:α->List Value} {s:Nat} (he:∀ x,(enc x).length=s):∀ (l:List α) (i:Nat) (x:α),l[i]? = some x->∀ j u,(enc x)[j]? = some u->(flat enc l)[i*s+j]? = some u
 | [],i,x,h,_,_,_=>by simp at h
 | y::l,0,x,h,j,u,hu=>by
  simp at h;subst h;have hj:=(List.getElem?_eq_some_iff.1 hu).1;simp only[flat,List.flatMap_cons,Nat.zero_mul,Nat.zero_add];rw[List.getElem?_append_left hj];exact hu
 | y::l,i+1,x,h,j,u,hu=>by
  simp only[List.getElem?_cons_succ]at h;have:=flat_at he l i x h j u hu;simp only[flat,List.flatMap_cons];rw[List.getElem?_append_right (by rw[he,Nat.add_mul];omega),he];have e:(i+1)*s+j-s=i*s+j:=by rw[Nat.add_mul];omega
  rw[e];exact this
theorem Sl.of_cells {α:Type} {V:View} {enc:α->List Value} {s:Nat} {l:List α} {q:Addr} {cap:Nat} (he:∀ x,(enc x).length=s) (h:Cells V q (flat enc l)) (h1:l.length<=cap) (h2:cap<=maxLen):Sl V enc s (.slice (some q) l.length cap) l:=
 ⟨some q,cap,rfl,h1,h2,λ_=>rfl,λp hp i x hi=>by cases hp;exact h.at λj u hj=>flat_at he l i x hi j u hj⟩
theorem Sl.cells {α:Type} {V:View} {enc:α->List Value} {s:Nat} {l:List α} {q:Addr} {n cap:Nat} (he:∀ x,(enc x).length=s) (h:Sl V enc s (.slice (some q) n cap) l):Cells V q (flat enc l):=by
 obtain⟨a,c,h1,h2,h3,h4,h5⟩:=h;cases h1;intro j u hj;have hs:s≠0:=λe=>by
  have:=(List.getElem?_eq_some_iff.1 hj).1
  rw[zU he,e,Nat.mul_zero]at this;omega
 have hlt:j / s<l.length:=by
  have:=(List.getElem?_eq_some_iff.1 hj).1
  rw[zU he]at this;exact(Nat.div_lt_iff_lt_mul (by omega)).2 this
 have hx:l[j / s]? = some (l[j / s]):=List.getElem?_eq_getElem hlt
 have hm:j % s<(enc l[j / s]).length:=by rw[he];exact Nat.mod_lt _ (by omega)
 have hu:(enc l[j / s])[j % s]? = some ((enc l[j / s])[j % s]):=List.getElem?_eq_getElem hm
 have e1:=flat_at he l _ _ hx _ _ hu
 have e2:j / s*s+j % s=j:=by rw[Nat.mul_comm];exact Nat.div_add_mod j s
 rw[e2,hj]at e1;cases e1;have:=h5 q rfl _ _ hx _ _ hu;rw[addr_add_add,e2]at this;exact this
def rowB (P:Program) (E:TypeId):Option (Value×Nat×Nat):=(P.info? E).bind λi=>i.zero.map λz=>(z,i.size,i.bytes)
theorem jk {P:Program} {E:TypeId} {z:Value} {s by_:Nat} (h:rowB P E=some (z,s,by_)):∃ i,P.info? E=some i/\i.zero=some z/\i.size=s/\i.bytes=by_:=by
 unfold rowB at h;cases hi:P.info? E with
 | none=>rw[hi]at h;cases h
 | some i=>
  rw[hi]at h;simp only[Option.bind_some]at h;cases hz:i.zero with
  | none=>rw[hz]at h;cases h
  | some z'=>rw[hz]at h;simp only[Option.map_some,Option.some.injEq,Prod.mk.injEq]at h;exact⟨i,rfl,by rw[hz,h.1],h.2.1,h.2.2⟩
theorem run_append_mine {P:Program} {w:World} {base:Nat} (t ty e:TypeId) (i:TypeInfo) (z:Value) (size bytes:Nat) (ht:P.underlying t=some (.slice e)) (hi:P.info? e=some i) (hz:i.zero=some z)
  (hsize:i.size=size) (hby:i.bytes=bytes) (hzs:z.cells.size=size) (hsz:0<size)
  (v:Value) (n:Nat) (xs:List Value) (hown:w.ownsRow base e size v n xs)
  (a:Addr) (m c:Nat) (news:List Value) (hl:news.length=m*size) (hnews:∀ j u,news[j]? = some u->w.cell? (a.add j)=some u) (h1:∀ u∈news,u.oneCell'=true)
  (h63:n+m<=maxLen) (hbytes:(n+m)*bytes<=140737488355328) (hbase:base<=w.heap.size) :
  ∃ b cap w',(Builtin.append_ #[t,t] ty #[v,.slice (some a) m c]).run P w=.ok (.slice b (n+m) cap) w'/\w'.ownsRow base e size (.slice b (n+m) cap) (n+m) (xs++news)/\w.grownBy w' v.ownBlock/\
   (Value.ownBlock (.slice b (n+m) cap)=v.ownBlock\/(w.heap.size<=((Value.ownBlock (.slice b (n+m) cap)).getD w.heap.size)/\v.ownBlock≠none->True) )/\
   (∀ g,Value.ownBlock (.slice b (n+m) cap)=some g->v.ownBlock=some g\/w.heap.size<=g):=by
 -- the law of the kit, at the greatest base that serves
 rcases hown.2 with ⟨rfl,rfl⟩ | ⟨g,cp,cur,rfl,hbg,hg,hnc,hcm,hcs,htake⟩
 ·have hown':w.ownsRow w.heap.size e size (.slice none 0 0) 0 xs:=⟨hown.1,.inl ⟨rfl,rfl⟩⟩
  obtain⟨v',w',hr,ho,hgr,_⟩:=run_append_own (P:=P) w w.heap.size t ty e i z size bytes ht hi hz hsize hby hzs hsz _ 0 xs hown' a m c news hl hnews h1 h63 hbytes (Nat.le_refl _);rcases ho.2 with ⟨rfl,hn0⟩ | ⟨g',cap',cur',rfl,hbg',rest⟩
  ·refine⟨none,0,w',by rw[hr,hn0],⟨ho.1,.inl ⟨by rw[hn0],hn0⟩⟩,hgr,.inl (by rfl),λg h=>by cases h⟩
  ·refine⟨some ⟨g',0,none⟩,cap',w',hr,⟨ho.1,.inr ⟨g',cap',cur',rfl,Nat.le_trans hbase hbg',rest⟩⟩,hgr,.inr (λ_=>trivial),λg h=>?_⟩;simp only[Value.ownBlock,Option.some.injEq]at h;subst h;exact .inr hbg'
 ·by_cases hroom:n+m<=cp
  ·have hfit:n*i.size+news.length<=cur.size:=by rw[hl,hcs,hsize,<-Nat.add_mul];exact Nat.mul_le_mul_right _ hroom
   have hr:=run_append_room (P:=P) w t ty e i ht hi g n cp cur hg a m c news (by rw[hsize];exact hl) hnews h1 hroom hfit
   refine⟨some ⟨g,0,none⟩,cp,_,hr,⟨by rw[List.length_append,hown.1,hl,Nat.add_mul],.inr ⟨g,cp,_,rfl,hbg,setRow_heap w g cur _ e _ hg,hroom,hcm,?_,?_⟩⟩,⟨rfl,rfl,rfl,by simp,λk _ hk=>setRow_other w g k _ (λe=>hk (by simp[Value.ownBlock,e]))⟩,.inl rfl,λg' h=>.inl h⟩
   ·simp only[List.size_toArray,List.length_append,List.length_take,List.length_drop,Array.length_toList];omega
   ·have hlen:(xs++news).length=(n+m)*size:=by rw[List.length_append,hown.1,hl,Nat.add_mul]
    rw[hsize,htake,<-hlen];exact List.take_left
  ·have holds:∀ j u,xs[j]? = some u->w.cell? ((⟨g,0,none⟩:Addr).add j)=some u:=hown.cells (g:=g) rfl
   have hr:=run_append_grow (P:=P) w t ty e i z ht hi hz ⟨g,0,none⟩ n cp xs (by rw[hsize];exact hown.1) holds a m c news (by rw[hsize];exact hl) hnews (by omega) (by simp only[maxLen]at h63;omega) (growslice_fits (by omega) (by rw[hby];exact hbytes))
   refine⟨some ⟨w.heap.size,0,none⟩,grownCap w (n+m) cp e,_,hr,⟨by rw[List.length_append,hown.1,hl,Nat.add_mul],.inr ⟨w.heap.size,_,_,rfl,hbase,heap_alloc_new w.drew _,grownCap_ge w (n+m) cp e,grownCap_le_maxLen w (n+m) cp e h63,?_,?_⟩⟩,
    ⟨rfl,rfl,rfl,by simp,λk hk _=>heap_alloc_old w.drew _ hk⟩,.inr (λ_=>trivial),λg' h=>?_⟩
   ·have hge:=grownCap_ge w (n+m) cp e
    simp only[Array.size_append,List.size_toArray,size_zeroCells,hzs,hown.1,hl,<-Nat.add_mul];congr 1;omega
   ·have hlen:(xs++news).length=(n+m)*size:=by rw[List.length_append,hown.1,hl,Nat.add_mul]
    simp only[Array.toList_append,List.append_assoc];rw[<-List.append_assoc,<-hlen];exact List.take_left
   ·simp only[Value.ownBlock,Option.some.injEq]at h;subst h;exact .inr (Nat.le_refl _)
section
variable {cx:Cx} {O R:List Own} {V:View} {w w':World}
theorem Mem.rowSet {v v':Value} {e:TypeId} {s n n':Nat} {xs xs':List Value} (h:Mem cx (.row v e s n xs::O) V w) (hg:w.grownBy w' v.ownBlock) (ho:w'.ownsRow cx.w0.heap.size e s v' n' xs')
  (hf:∀ g,v'.ownBlock=some g->v.ownBlock=some g\/w.heap.size<=g):Mem cx (.row v' e s n' xs'::O) V w':=by
 obtain⟨fp,⟨f,g,rfl,⟨rfl,hr⟩,hl⟩,h2,h3⟩:=h.own;obtain⟨n1,n2,n3⟩:=List.nodup_append.1 h2;have hv:∀ k,v.ownBlock=some k->k∈v.ownBlock.toList:=λk hk=>by simp[hk]
 have hne:∀ k∈g,some k≠v.ownBlock:=λk hk e=>n3 k (hv k e.symm) k hk rfl
 refine⟨⟨hg.os.trans h.below.os,hg.tape.trans h.below.tape,hg.output.trans h.below.output,Nat.le_trans h.below.size hg.size,λk hk=>?_⟩,h.le0,h.fresh,λk o2 hk=>?_,v'.ownBlock.toList++g,⟨_,g,rfl,⟨rfl,ho⟩,hl.kept λk hk=>hg.block k (hl.lt k hk).2 (hne k hk)⟩,List.nodup_append.2 ⟨?_,n2,λa ha b hb=>?_⟩,λb hb=>?_⟩
 ·rw[hg.block k (Nat.lt_of_lt_of_le hk h.below.size) (λe=>by have:=(hr.lt k e.symm).1;omega)];exact h.below.block k hk
 ·show w'.heap[k]? = some o2
  have hk':w.heap[k]? = some o2:=h.view k o2 hk
  rw[hg.block k (h.view.lt hk) (λe=>by rw[h3 k (List.mem_append_left _ (hv k e.symm))]at hk;cases hk)];exact hk'
 ·cases v'.ownBlock<;>simp
 ·intro e;subst e;have ha':v'.ownBlock=some a:=by cases hv':v'.ownBlock<;>simp[hv']at ha⊢;exact ha.symm
  rcases hf a ha' with h4 | h4
  ·exact n3 a (hv a h4) a hb rfl
  ·have:=(hl.lt a hb).2;omega
 ·rcases List.mem_append.1 hb with hb | hb
  ·have hb':v'.ownBlock=some b:=by cases hv':v'.ownBlock<;>simp[hv']at hb⊢;exact hb.symm
   rcases hf b hb' with h4 | h4
   ·exact h3 b (List.mem_append_left _ (hv b h4))
   ·cases hV:V b with
    | none=>rfl
    | some o=>have:=h.view.lt hV;omega
  ·exact h3 b (List.mem_append_right _ hb)
theorem Mem.rowNew (h:Mem cx O V w) (e:TypeId) (s:Nat):Mem cx (.row (.slice none 0 0) e s 0 []::O) V w:=by obtain⟨fp,h1,h2,h3⟩:=h.own;exact⟨h.below,h.le0,h.fresh,h.view,fp,⟨[],fp,rfl,⟨rfl,World.ownsRow_nil _ _ _ _⟩,h1⟩,h2,h3⟩
theorem Mem.giveRow {v:Value} {e:TypeId} {s n:Nat} {xs:List Value} (h:Mem cx (.row v e s n xs::O) V w) :
  ∃ V' a cap,Le V V'/\Mem cx O V' w/\v=.slice a n cap/\n<=cap/\cap<=maxLen/\xs.length=n*s/\(n≠0->a.isSome=true)/\∀ p,a=some p->Cells V' p xs:=by
 obtain⟨fp,⟨f,g,rfl,⟨rfl,hr⟩,hl⟩,h2,h3⟩:=h.own;rcases hr.2 with ⟨rfl,hn0⟩ | ⟨b,cap,cur,rfl,hb,hh,hnc,hcm,hcs,htake⟩
 ·refine⟨V,none,0,Le.refl _,h.drop,by rw[hn0],by omega,Nat.zero_le _,hr.1,λh=>absurd hn0 h,λp hp=>by cases hp⟩
 ·have h':Mem cx (.blk b (.cells cur e (0,0))::O) V w:=⟨h.below,h.le0,h.fresh,h.view,[b]++g,⟨[b],g,rfl,⟨rfl,hb,hh⟩,hl⟩,by simpa [Value.ownBlock]using h2,by simpa [Value.ownBlock]using h3⟩
  obtain⟨V',k1,k2,k3⟩:=h'.give;refine⟨V',some ⟨b,0,none⟩,cap,k1,k3,rfl,hnc,hcm,hr.1,λ_=>rfl,λp hp j u hj=>?_⟩;cases hp;rw[Addr.add_lit,Nat.zero_add];simp only[jb,k2];rw[<-htake,List.getElem?_take]at hj;split at hj
  ·simpa using hj
  ·cases hj
end
section
variable {cx:Cx} {n:Nat} {ks:List (Nat×Value)} {O O' R:List Own} {V:View} {P:Program} {ops:Array Oper} {Qn:Act->World->Prop} {t:Tr} {i d:Nat} {T:TypeId} {pos:String} {after:Array Edge} {gd:Option (Nat×Bool)} {x y:Operand} {u v:Value} {wr:Bool} {K:Act->World->Prop}
theorem xu (e:TypeId) (s:Nat) (h:At cx n ks (.row (.slice none 0 0) e s 0 []::O) V K):At cx n ks O V K:=λa w hk hm=>h a w hk (hm.rowNew e s)
theorem jN {b:Nat} {o:Obj} (hp:zo (.blk b o) O R) (h:∀ V',Le V V'->V' b=some o->At cx n ks R V' K):At cx n ks O V K:=At.perm hp.perm (At.give h)
theorem At.giveRow {v:Value} {e:TypeId} {s m:Nat} {xs:List Value} (hp:zo (.row v e s m xs) O R)
  (h:∀ V',Le V V'->(∃ a cap,v=.slice a m cap/\m<=cap/\cap<=maxLen/\xs.length=m*s/\(m≠0->a.isSome=true)/\∀ p,a=some p->Cells V' p xs)->At cx n ks R V' K):At cx n ks O V K:=λa w hk hm=>by
 obtain⟨V',a',cap,h1,h2,h3⟩:=(hm.pick hp).giveRow;exact h V' h1 ⟨a',cap,h3⟩ a w hk h2
theorem xw {α:Type} {enc:α->List Value} {v:Value} {e:TypeId} {s m:Nat} {xs:List Value} {l:List α} (he:∀ x,(enc x).length=s) (hx:xs=flat enc l) (hm:m=l.length) (hp:zo (.row v e s m xs) O R)
  (h:∀ V',Le V V'->Sl V' enc s v l->At cx n ks R V' K):At cx n ks O V K:=At.giveRow hp λV' hV ⟨a,cap,h1,h2,h3,h4,h5,h6⟩=>by
 subst hx;subst hm;subst h1;cases a with
 | none=>
  have hl:l=[]:=by cases l with | nil=>rfl | cons _ _=>exact absurd (h5 (by simp)) (by simp)
  subst hl;exact h V' hV ⟨none,cap,rfl,h2,h3,λh=>absurd rfl h,λ_ h=>by cases h⟩
 | some q=>exact h V' hV (Sl.of_cells he (h6 q rfl) h2 h3)
/-! New memory that is handed over at once. -/
theorem Mem.allocV {w:World} (hm:Mem cx O V w) (o:Obj):∃ V',Le V V'/\V' w.heap.size=some o/\Mem cx O V' (w.alloc o):=(hm.alloc o).give
theorem bsliceG {X E:TypeId} {m:Nat} {cs:List Value} {ps:List (Nat×Operand)} {vs:List (Nat×Value)} (ho:ops[i]? = some ⟨some d,.buildSlice X m ps.toArray,T,pos,after,gd⟩) (hg:Gd ks ops gd) (hp:evp ks ps=some vs)
  (hr:∀ w,(Instr.buildSlice X m vs.toArray).run P w=.ok (.slice (some ⟨w.heap.size,0,none⟩) m m) (w.alloc (LC cs E))) (hn:d<n)
  (next:∀ q V',Le V V'->Cells V' q cs->AtT cx n ((d,.slice (some q) m m)::ks) O V' P ops Qn t):AtT cx n ks O V P ops Qn (.n wr i t):=
 .x ho hg λa w hk hm=>by
  have e:(ps.toArray.map λ(j,o)=>(j,a.eval o))=vs.toArray:=by rw[<-evp_map hk ps vs hp];simp
  simp only[opW,execOp,e,Sem.run_bind,hr,Result.andThen_ok,Sem.run_pure];obtain⟨V',h1,h2,h3⟩:=hm.allocV (LC cs E);exact⟨_,O,V',hk.put hn _,h3,λ_ u hu=>hu.less hm.le0 h1,next _ V' h1 (zQ h2)⟩
theorem AtT.append {X E:TypeId} {z:Value} {s by_ m k c:Nat} {xs news:List Value} {q:Addr} (ho:ops[i]? = some ⟨some d,.call ⟨.builtin .append,#[x,y],#[X,X]⟩,T,pos,after,gd⟩) (hg:Gd ks ops gd) (hX:P.underlying X=some (.slice E)) (hE:rowB P E=some (z,s,by_)) (hzs:z.cells.size=s) (hs:0<s)
  (hx:ev ks x=some v) (hy:ev ks y=some (.slice (some q) k c)) (hp:zo (.row v E s m xs) O R) (hc:Cells V q news) (hl:news.length=k*s) (h1:news.all Value.oneCell'=true) (hb:m+k<=maxLen) (hby:(m+k)*by_<=140737488355328) (hn:d<n)
  (next:∀ a cap,AtT cx n ((d,.slice a (m+k) cap)::ks) (.row (.slice a (m+k) cap) E s (m+k) (xs++news)::R) V P ops Qn t):AtT cx n ks O V P ops Qn (.n true i t):=
 .x ho hg λa w hk hm=>by
  have hm1:=hm.pick hp
  obtain⟨fp,⟨f,g,_,⟨_,hrow⟩,_⟩,_,_⟩:=hm1.own;obtain⟨ti,hi,hz,hsz,hbz⟩:=jk hE;obtain⟨b,cap,w',hr,ho',hg,_,hfr⟩:=run_append_mine (P:=P) X T E ti z s by_ hX hi hz hsz hbz hzs hs v m xs hrow q k c news hl (hc.run hm.view) (by simpa [List.all_eq_true]using h1) hb hby hm.below.size;simp only[opW,execOp,resolve,invoke,builtin,Sem.run_bind,Sem.run_pure,Result.andThen_ok,List.map_toArray,List.map_cons,List.map_nil,hk.ev hx,hk.ev hy,hr];exact⟨_,_,V,hk.put hn _,hm1.rowSet hg ho' hfr,λh=>(by cases h),next b cap⟩
theorem appendC {α:Type} {enc:α->List Value} {l m:List α} {X E:TypeId} {z:Value} {s by_ c k:Nat} {a0:Option Addr} {q:Addr} (ho:ops[i]? = some ⟨some d,.call ⟨.builtin .append,#[x,y],#[X,X]⟩,T,pos,after,gd⟩) (hg:Gd ks ops gd) (hX:P.underlying X=some (.slice E)) (hE:rowB P E=some (z,s,by_)) (hzs:z.cells.size=s) (hs:0<s)
  (hx:ev ks x=some (.slice a0 l.length l.length)) (hv:Sl V enc s (.slice a0 l.length l.length) l) (hy:ev ks y=some (.slice (some q) k c)) (hk':k=m.length) (hc:Cells V q (flat enc m)) (he:∀ x,(enc x).length=s) (h0:m≠[]) (hb:l.length+m.length<=maxLen) (hby:(l.length+m.length)*by_<=140737488355328) (hn:d<n)
  (next:∀ a cap V',Le V V'->Sl V' enc s (.slice a (l++m).length cap) (l++m)->AtT cx n ((d,.slice a (l++m).length cap)::ks) O V' P ops Qn t):AtT cx n ks O V P ops Qn (.n wr i t):=
 .x ho hg λa w hk hm=>by
  subst hk';obtain⟨ti,hi,hz,hsz,hbz⟩:=jk hE;have hm0:0<m.length:=List.length_pos_iff.2 h0;have hnews:=hc.run hm.view;have fin:∀ (cs:Array Value) (cap:Nat),l.length+m.length<=cap->cap<=maxLen->cs.toList.take ((l++m).length*s)=flat enc (l++m)->∃ ks' O' V',Kn cx n ks' (a.put (some d) (.slice (some ⟨w.heap.size,0,none⟩) (l.length+m.length) cap))/\Mem cx O' V' (w.drew.alloc (.cells cs E))/\(wr=false->∀ u,Mem cx O' V' u->Mem cx O V u)/\AtT cx n ks' O' V' P ops Qn t:=λcs cap h1 h2 h3=>by
   obtain⟨V',k1,k2,k3⟩:=(hm.ext (Below.refl _ w).drew).allocV (.cells cs E);have hS:Sl V' enc s (.slice (some ⟨w.heap.size,0,none⟩) (l++m).length cap) (l++m):=Sl.of_cells he (λj u hj=>by
    rw[Addr.add_lit,Nat.zero_add];have k2':V' w.heap.size=some (.cells cs E):=k2;simp only[jb,k2'];rw[<-h3,List.getElem?_take]at hj;split at hj
    ·simpa using hj
    ·cases hj) (by simpa using h1) h2;refine⟨_,O,V',hk.put hn _,k3,λ_ u hu=>hu.less hm.le0 k1,?_⟩;have:=next (some ⟨w.heap.size,0,none⟩) cap V' k1 hS
   rw[List.length_append]at this;exact this
  simp only[opW,execOp,resolve,invoke,builtin,Sem.run_bind,Sem.run_pure,Result.andThen_ok,List.map_toArray,List.map_cons,List.map_nil,hk.ev hx,hk.ev hy];have hflat:(flat enc (l++m)).length=(l++m).length*s:=zU he _;have happ:flat enc (l++m)=flat enc l++flat enc m:=by simp[flat]
  obtain⟨a0',cap0,e0,hcc,hc1,hc2,hc3⟩:=hv;cases e0;cases a0 with
  | none=>
   have hl:l=[]:=by cases l with | nil=>rfl | cons _ _=>exact absurd (hc2 (by simp)) (by simp)
   subst hl;have hr:=run_append_nil (P:=P) w X T E ti z hX hi hz q m.length c (flat enc m) (by rw[zU he,hsz]) hnews hm0 (by simp only[maxLen]at hb;simp at hb;omega) (by rw[hbz];simp at hby;omega);simp only[List.length_nil,hr,Result.andThen_ok];have:=fin ((flat enc m).toArray++Builtin.zeroCells z.cells (grownCap w m.length 0 E-m.length)) (grownCap w m.length 0 E) (by simpa using grownCap_ge w m.length 0 E) (grownCap_le_maxLen w _ _ _ (by simpa using hb)) (by
    simp only[List.nil_append]at hflat⊢;rw[<-hflat,Array.toList_append];exact List.take_left);simpa using this
  | some p=>
   have hold:∀ j u,(flat enc l)[j]? = some u->w.cell? (p.add j)=some u:=(Sl.cells he (⟨some p,_,rfl,hcc,hc1,hc2,hc3⟩:Sl V enc s _ l)).run hm.view
   have hr:=run_append_grow (P:=P) w X T E ti z hX hi hz p l.length l.length (flat enc l) (by rw[zU he,hsz]) hold q m.length c (flat enc m) (by rw[zU he,hsz]) hnews (by omega) (by simp only[maxLen]at hb;omega) (growslice_fits (by omega) (by rw[hbz];exact hby))
   simp only[hr,Result.andThen_ok];exact fin _ _ (grownCap_ge w _ _ _) (grownCap_le_maxLen w _ _ _ hb) (by rw[<-hflat,happ,Array.toList_append,Array.toList_append];exact List.take_left)
theorem AtT.clip {α:Type} {enc:α->List Value} {l:List α} {X E:TypeId} {s:Nat} {ag:Bool} {h:Int} {h' m':Operand} {k k2:IntKind} (ho:ops[i]? = some ⟨some d,.slice X x none (some h') (some m'),T,pos,after,gd⟩) (hg:Gd ks ops gd) (hX:P.underlying X=some (.slice E)) (hE:tkB P E=some (ag,s))
  (hx:ev ks x=some v) (hv:Sl V enc s v l) (hh:ev ks h'=some (.int k h)) (hm':ev ks m'=some (.int k2 h)) (h0:0<=h) (h1:h<=l.length) (hn:d<n)
  (next:∀ a,Sl V enc s (.slice a (l.take h.toNat).length (l.take h.toNat).length) (l.take h.toNat)->AtT cx n ((d,.slice a (l.take h.toNat).length (l.take h.toNat).length)::ks) O V P ops Qn t):AtT cx n ks O V P ops Qn (.q i t):=by
 obtain⟨a,cap,rfl,h2,h3,h4,h5⟩:=hv;have hlen:(l.take h.toNat).length=h.toNat:=by rw[List.length_take];omega
 refine .q (v:=.slice a (l.take h.toNat).length (l.take h.toNat).length) ho hg rfl hn (λb w hk hm=>?_) (next a ⟨a,_,rfl,Nat.le_refl _,by rw[hlen];omega,λhne=>h4 (λe=>hne (by simp[e])),λp hp i x hi=>h5 p hp i x ?_⟩)
 ·have hX':P.underlying X=some (.slice (P.elem X)):=by simp[Program.elem,hX]
  have hEl:P.elem X=E:=by simp[Program.elem,hX]
  simp only[execOp,hk.ev hx,hk.ev hh,hk.ev hm',Option.map_none,Option.map_some,Sem.run_bind,run_sliceAt_slice w X _ _ _ _ hX'];rw[run_slice_hm w X a l.length cap hX' k k2 h h h0 (Int.le_refl _) (by omega),hEl,run_sizeOf hE];simp only[Result.andThen_ok,Sem.run_pure,sliced,hlen,Nat.zero_mul,Nat.sub_zero];congr 3;split
  ·rfl
  ·cases a<;>simp[Addr.add]
 ·rw[List.getElem?_take]at hi;split at hi
  ·exact hi
  ·cases hi
theorem clipAll {α:Type} {enc:α->List Value} {l:List α} {X E:TypeId} {s:Nat} {ag:Bool} {h' m':Operand} {k k2:IntKind} (ho:ops[i]? = some ⟨some d,.slice X x none (some h') (some m'),T,pos,after,gd⟩) (hg:Gd ks ops gd) (hX:P.underlying X=some (.slice E)) (hE:tkB P E=some (ag,s))
  (hx:ev ks x=some v) (hv:Sl V enc s v l) (hh:ev ks h'=some (.int k (l.length:Int))) (hm':ev ks m'=some (.int k2 (l.length:Int))) (hn:d<n)
  (next:∀ a,Sl V enc s (.slice a l.length l.length) l->AtT cx n ((d,.slice a l.length l.length)::ks) O V P ops Qn t):AtT cx n ks O V P ops Qn (.q i t):=
 .clip ho hg hX hE hx hv hh hm' (Int.natCast_nonneg _) (Int.le_refl _) hn λa ha=>by
  have e:l.take ((l.length:Int)).toNat=l:=by simp
  rw[e]at ha⊢;exact next a ha
theorem xO {α:Type} {enc:α->List Value} {l:List α} {X E:TypeId} {s:Nat} {ag:Bool} {lo:Int} {lo':Operand} {k:IntKind} (ho:ops[i]? = some ⟨some d,.slice X x (some lo') none none,T,pos,after,gd⟩) (hg:Gd ks ops gd) (hX:P.underlying X=some (.slice E)) (hE:tkB P E=some (ag,s))
  (hx:ev ks x=some v) (hv:Sl V enc s v l) (hh:ev ks lo'=some (.int k lo)) (h0:0<=lo) (h1:lo<=l.length) (hn:d<n)
  (next:∀ a cap,Sl V enc s (.slice a (l.drop lo.toNat).length cap) (l.drop lo.toNat)->AtT cx n ((d,.slice a (l.drop lo.toNat).length cap)::ks) O V P ops Qn t):AtT cx n ks O V P ops Qn (.q i t):=by
 obtain⟨a,cap,rfl,h2,h3,h4,h5⟩:=hv;have hlen:(l.drop lo.toNat).length=l.length-lo.toNat:=by rw[List.length_drop]
 refine .q (v:=.slice (if cap=lo.toNat then a else a.map (·.add (lo.toNat*s))) (l.drop lo.toNat).length (cap-lo.toNat)) ho hg rfl hn (λb w hk hm=>?_)
  (next _ _ ⟨_,_,rfl,by rw[hlen];omega,by omega,λhne=>?_,λp hp i x hi=>?_⟩)
 ·have hX':P.underlying X=some (.slice (P.elem X)):=by simp[Program.elem,hX]
  have hEl:P.elem X=E:=by simp[Program.elem,hX]
  simp only[execOp,hk.ev hx,hk.ev hh,Option.map_none,Option.map_some,Sem.run_bind,run_sliceAt_slice w X _ _ _ _ hX'];rw[run_slice_l w X a l.length cap hX' k lo h0 (by omega),hEl,run_sizeOf hE];simp only[Result.andThen_ok,Sem.run_pure,sliced,hlen]
 ·have:=h4 (λe=>hne (by simp[e]))
  split
  ·exact this
  ·cases a with | none=>simp at this | some p=>simp
 ·rw[List.getElem?_drop]at hi;have hlt:=(List.getElem?_eq_some_iff.1 hi).1;rw[if_neg (by omega)]at hp;cases a with
  | none=>simp at hp
  | some q=>simp at hp;subst hp;have:=h5 q rfl _ _ hi;rw[addr_add_add,<-Nat.add_mul];exact this
theorem xP {α:Type} {enc:α->List Value} {l:List α} {X E:TypeId} {s:Nat} {ag:Bool} {h:Int} {h':Operand} {k:IntKind} (ho:ops[i]? = some ⟨some d,.slice X x none (some h') none,T,pos,after,gd⟩) (hg:Gd ks ops gd) (hX:P.underlying X=some (.slice E)) (hE:tkB P E=some (ag,s))
  (hx:ev ks x=some v) (hv:Sl V enc s v l) (hh:ev ks h'=some (.int k h)) (h0:0<=h) (h1:h<=l.length) (hn:d<n)
  (next:∀ a cap,Sl V enc s (.slice a (l.take h.toNat).length cap) (l.take h.toNat)->AtT cx n ((d,.slice a (l.take h.toNat).length cap)::ks) O V P ops Qn t):AtT cx n ks O V P ops Qn (.q i t):=by
 obtain⟨a,cap,rfl,h2,h3,h4,h5⟩:=hv;have hlen:(l.take h.toNat).length=h.toNat:=by rw[List.length_take];omega
 refine .q (v:=.slice a (l.take h.toNat).length cap) ho hg rfl hn (λb w hk hm=>?_) (next a cap ⟨a,_,rfl,by omega,h3,λhne=>h4 (λe=>hne (by simp[e])),λp hp i x hi=>h5 p hp i x ?_⟩)
 ·have hX':P.underlying X=some (.slice (P.elem X)):=by simp[Program.elem,hX]
  have hEl:P.elem X=E:=by simp[Program.elem,hX]
  simp only[execOp,hk.ev hx,hk.ev hh,Option.map_none,Option.map_some,Sem.run_bind,run_sliceAt_slice w X _ _ _ _ hX'];rw[run_slice_h w X a l.length cap hX' k h h0 (by omega),hEl,run_sizeOf hE];simp only[Result.andThen_ok,Sem.run_pure,sliced,hlen,Nat.zero_mul,Nat.sub_zero];congr 3;split
  ·rfl
  ·cases a<;>simp[Addr.add]
 ·rw[List.getElem?_take]at hi;split at hi
  ·exact hi
  ·cases hi
end
theorem qx {α:Type} {l:List α} {k:Nat} {x y:α} (h:l[k]? = some x) (h2:l[k]? = some y):x=y:=Option.some.inj (h.symm.trans h2)
section
variable {cx:Cx} {n:Nat} {ks:List (Nat×Value)} {O O' R:List Own} {V:View} {P:Program} {ro:Option Nat} {Q:Exit->Act->World->Prop} {K:Act->World->Prop}
theorem xc {ι:Type} {c:Code} (KS:ι->List (Nat×Value)) (OS:ι->List Own) (VS:ι->View->Prop) (μ:ι->Nat) (i0:ι)
  (hs:Sub (KS i0) ks) (hp:Pt (OS i0) O) (hv:VS i0 V)
  (hbody:∀ i V' ks' O',VS i V'->ks'=KS i->O'=OS i->Le cx.V0 V'->At cx n ks' O' V' (c.wpIn (FW ro) 0 P (Exit.then (λa w=>∃ i' V'',μ i'<μ i/\VS i' V''/\Kn cx n (KS i') a/\Mem cx (OS i') V'' w) Q))) :
  At cx n ks O V ((Code.loop c).wpIn (FW ro) 0 P Q):=At.loop KS OS VS μ i0 hs hp.part hv (λi V' hV hl=>hbody i V' _ _ hV rfl rfl hl)
theorem At.round {ι:Type} {KS:ι->List (Nat×Value)} {OS:ι->List Own} {VS:ι->View->Prop} {μ:ι->Nat} {i:ι} (i':ι) (hμ:μ i'<μ i) (hv:VS i' V) (hs:Sub (KS i') ks) (hp:Pt (OS i') O) :
  At cx n ks O V (λa w=>∃ i' V'',μ i'<μ i/\VS i' V''/\Kn cx n (KS i') a/\Mem cx (OS i') V'' w):=λa w hk hm=>⟨i',V,hμ,hv,hk.sub hs,hm.part hp.part⟩
theorem At.pt {O':List Own} (hp:Pt O' O) (h:At cx n ks O' V K):At cx n ks O V K:=At.part hp.part h
theorem cutG {ι:Type} {c:Code} (KS:ι->List (Nat×Value)) (OS:ι->List Own) (VS:ι->View->Prop)
  (h1:At cx n ks O V (c.wpIn (FW ro) 0 P (Exit.then (λa w=>∃ i V',VS i V'/\Kn cx n (KS i) a/\Mem cx (OS i) V' w) Q)))
  (h2:∀ i V' ks' O',VS i V'->ks'=KS i->O'=OS i->Le cx.V0 V'->At cx n ks' O' V' (Q .normal)):At cx n ks O V (c.wpIn (FW ro) 0 P Q):=λa w hk hm=>
 wpIn_mono (h1 a w hk hm) (λe a' w' hq=>by
  cases e with
  | normal=>obtain⟨i,V',hV,hk',hm'⟩:=hq;exact h2 i V' _ _ hV rfl rfl hm'.le0 a' w' hk' hm'
  | exit id=>exact hq
  | goto l=>exact hq
  | ret=>exact hq
  | panic ch=>exact hq
  | outgrown=>exact hq)
theorem qH {ι:Type} {KS:ι->List (Nat×Value)} {OS:ι->List Own} {VS:ι->View->Prop} (i:ι) (hv:VS i V) (hs:Sub (KS i) ks) (hp:Pt (OS i) O):At cx n ks O V (λa w=>∃ i V',VS i V'/\Kn cx n (KS i) a/\Mem cx (OS i) V' w):=λa w hk hm=>⟨i,V,hv,hk.sub hs,hm.part hp.part⟩
theorem At.cut {c:Code} (ks':List (Nat×Value)) (O':List Own) (VS:View->Prop)
  (h1:At cx n ks O V (c.wpIn (FW ro) 0 P (Exit.then (λa w=>∃ V',VS V'/\Kn cx n ks' a/\Mem cx O' V' w) Q)))
  (h2:∀ V',VS V'->At cx n ks' O' V' (Q .normal)):At cx n ks O V (c.wpIn (FW ro) 0 P Q):=λa w hk hm=>
 wpIn_mono (h1 a w hk hm) (λe a' w' hq=>by
  cases e with
  | normal=>obtain⟨V',hV,hk',hm'⟩:=hq;exact h2 V' hV a' w' hk' hm'
  | exit id=>exact hq
  | goto l=>exact hq
  | ret=>exact hq
  | panic ch=>exact hq
  | outgrown=>exact hq)
variable {ops:Array Oper} {Qn:Act->World->Prop} {t:Tr}
theorem kW {d:Nat} {b:Bool} (hd:look ks d=some (.bool b)) (ht:b=true->AtT cx n ((d,.bool true)::ks) O V P ops Qn t) (hf:b=false->AtT cx n ((d,.bool false)::ks) O V P ops Qn t):AtT cx n ks O V P ops Qn t:=λa w hk hm=>by
 have:Kn cx n ((d,.bool b)::ks) a:=⟨hk.defers,hk.size,λi v hv=>by
  simp only[look]at hv;cases hb:Nat.beq d i with
  | true=>rw[hb]at hv;simp at hv;subst hv;have:=Nat.eq_of_beq_eq_true hb;subst this;exact hk.known _ _ hd
  | false=>rw[hb]at hv;simp at hv;exact hk.known _ _ hv⟩
 cases b
 ·exact hf rfl a w this hm
 ·exact ht rfl a w this hm
theorem kX {d:Nat} {p:Prop} [Decidable p] (hd:look ks d=some (.bool (decide p))) (ht:p->AtT cx n ((d,.bool true)::ks) O V P ops Qn t) (hf:¬ p->AtT cx n ((d,.bool false)::ks) O V P ops Qn t):AtT cx n ks O V P ops Qn t:=
 kW hd (λh=>ht (of_decide_eq_true h)) (λh=>hf (of_decide_eq_false h))
theorem AtT.join {t':Tr} (d:Nat) (b:Bool) (h2:AtT cx n ((d,.bool b)::ks) O V P ops Qn t') (h1:AtT cx n ((d,.bool b)::ks) O V P ops Qn t'->AtT cx n ks O V P ops Qn t):AtT cx n ks O V P ops Qn t:=h1 h2
end
theorem Sl.one {α:Type} {V:View} {enc:α->List Value} {s:Nat} {q:Addr} {x:α} (he:∀ x,(enc x).length=s) (h:Cells V q (enc x)):Sl V enc s (.slice (some q) 1 1) [x]:=
 Sl.of_cells (l:=[x]) he (by simpa [flat]using h) (Nat.le_refl _) (by unfold maxLen;decide)
theorem jP (x:Int):(ei x).length=1:=rfl
theorem qU:∀ l:List Int,flat ei l=l.map (.int .i64)
 | []=>rfl
 | x::l=>by have:=qU l;simp only[flat]at this⊢;simp[ei,this]
theorem Sl.lit {V:View} {q:Addr} {l:List Int} {m:Nat} (h:Cells V q (l.map (.int .i64))) (hm:m=l.length) (hl:l.length<=1000000):SlI V (.slice (some q) m m) l:=by subst hm;exact Sl.of_cells jP (by rw[qU];exact h) (Nat.le_refl _) (by unfold maxLen;omega)
def Rnd (P:Program) (l:Nat) (y:List Value) (J:Nat->World->Prop) (E:World->Prop) (j:Nat) (w:World):Prop:=
 ∃ f tmps assign body,(Instr.yield l y.toArray).run P w=.ok (.round l f tmps assign body) w/\
  RoundIn (FW none) 0 P l f tmps assign body w λe w'=>(e=.returned (.bool true)/\J (j+1) w')\/(e=.returned (.bool false)/\E w')
structure Yd (P:Program) (l:Nat) (J:Nat->World->Prop) (E:World->Prop) (V:View) (ys:List (List Value)):Prop where
 stJ:∀ j w w',J j w->Below w.heap.size w w'->J j w'
 stE:∀ w w',E w->Below w.heap.size w w'->E w'
 view:∀ j w,J j w->Le V (hp w)
 rnd:∀ j y w,ys[j]? = some y->J j w->Rnd P l y J E j w
def It (P:Program) (f:FuncId) (caps:List Value) (V:View) (ys:List (List Value)):Prop:=
 ∀ (l:Nat) (J:Nat->World->Prop) (E:World->Prop) (w:World),Yd P l J E V ys->J 0 w->
  Calls P f (Value.func (.yield l) #[] #[]::caps).toArray w λe w'=>∃ v,e=.returned v/\(J ys.length w'\/E w')
section
variable {cx:Cx} {n:Nat} {ks:List (Nat×Value)} {O O' R:List Own} {V V0:View} {P:Program} {ops:Array Oper} {Qn:Act->World->Prop} {t:Tr} {i d:Nat} {T:TypeId} {pos:String} {after:Array Edge} {gd:Option (Nat×Bool)} {x y:Operand} {u v:Value} {wr:Bool} {ro:Option Nat} {Q:Exit->Act->World->Prop} {K:Act->World->Prop}
 {l j:Nat} {J:Nat->World->Prop} {E:World->Prop} {ys:List (List Value)}
theorem AtT.xx {o:Oper} (ho:ops[i]? = some o) (hg:Gd ks ops o.guard)
  (h:∀ a w,Kn cx n ks a->Mem cx O V w->opW P o a w (λa' w'=>∃ cx' ks' O' V',Kn cx' n ks' a'/\Mem cx' O' V' w'/\AtT cx' n ks' O' V' P ops Qn t)) :
  AtT cx n ks O V P ops Qn (.n true i t):=λa w hk hm=>
 ⟨o,ho,by
  unfold stW;rw[if_pos (hg.wanted hk)];exact opW_mono (λa' w' ⟨cx',ks',O',V',hk',hm',hn⟩=>⟨Mem cx' O' V',λh=>(by cases h),hm',hn a' w' hk' hm'⟩) (h a w hk hm)⟩
theorem Mem.start {w:World} (ds:List Deferred) (h:Le V (hp w)):Mem ⟨w,V,ds⟩ [] V w:=⟨Below.refl _ _,Le.refl _,λk o hk=>.inl hk,h,[],rfl,List.nodup_nil,λb hb=>by cases hb⟩
theorem Kn.rebase {cx':Cx} {a:Act} (h:Kn cx n ks a) (e:cx'.ds=cx.ds):Kn cx' n ks a:=⟨h.defers.trans e.symm,h.size,h.known⟩
theorem Mem.rebase {cx':Cx} {w:World} (h:Mem cx O V w) (e:cx'.w0=cx.w0) (e':cx'.V0=cx.V0):Mem cx' O V w:=by obtain⟨h1,h2,h3,h4,h5⟩:=h;exact⟨by rw[e];exact h1,by rw[e'];exact h2,by rw[e,e'];exact h3,h4,by rw[e];exact h5⟩
theorem AtT.yield {c:Operand} {args:List Operand} {ts:Array TypeId} {y:List Value} (ho:ops[i]? = some ⟨some d,.call ⟨.value c,args.toArray,ts⟩,T,pos,after,gd⟩) (hg:Gd ks ops gd) (hc:ev ks c=some (.func (.yield l) #[] #[])) (ha:evs ks args=some y) (H:Yd P l J E V0 ys)
  (hy:ys[j]? = some y) (hJ:J j cx.w0) (hn:d<n)
  (next1:∀ w,J (j+1) w->AtT ⟨w,V0,cx.ds⟩ n ((d,.bool true)::ks) [] V0 P ops Qn t)
  (next2:∀ w,E w->AtT ⟨w,λ_=>none,cx.ds⟩ n ((d,.bool false)::ks) [] (λ_=>none) P ops Qn t):AtT cx n ks O V P ops Qn (.n true i t):=
 .xx ho hg λa w hk hm=>by
  have e:args.toArray.map a.eval=y.toArray:=by rw[<-evs_map hk args y ha];simp
  obtain⟨f,tmps,assign,body,h1,h2⟩:=H.rnd j y w hy (H.stJ j _ _ hJ hm.below);simp only[opW,execOp,resolve,e,hk.ev hc,Deferred.ofValue,Sem.run_bind,Sem.run_pure,Result.andThen_ok,invoke,Array.empty_append,h1];refine h2.mono λe w' hh=>?_;rcases hh with ⟨rfl,h⟩ | ⟨rfl,h⟩
  ·exact⟨⟨w',V0,cx.ds⟩,_,[],V0,(hk.put hn _).rebase rfl,Mem.start _ (H.view _ _ h),next1 w' h⟩
  ·exact⟨⟨w',λ_=>none,cx.ds⟩,_,[],λ_=>none,(hk.put hn _).rebase rfl,Mem.start _ (λk o hk=>by cases hk),next2 w' h⟩
theorem lpY (H:Yd P l J E V0 ys) {ι:Type} {c:Code} (I:ι->Prop) (KS:ι->List (Nat×Value)) (idx:ι->Nat) (μ:ι->Nat) (i0:ι) (hI:I i0) (hs:Sub (KS i0) ks) (hJ:J (idx i0) cx.w0)
  (hbody:∀ i w ks',I i->J (idx i) w->ks'=KS i->At ⟨w,V0,cx.ds⟩ n ks' [] V0 (c.wpIn (FW ro) 0 P (Exit.then (λa' w'=>∃ i',μ i'<μ i/\I i'/\Kn cx n (KS i') a'/\J (idx i') w') Q))) :
  At cx n ks O V ((Code.loop c).wpIn (FW ro) 0 P Q):=λa w hk hm=>
 wpIn_loop_ghost (λ(i:ι) a w=>I i/\Kn cx n (KS i) a/\J (idx i) w) μ
  (λi a w ⟨hI,hk,hJ⟩=>wpIn_mono (hbody i w _ hI hJ rfl a w (hk.rebase rfl) (Mem.start _ (H.view _ _ hJ))) (λe a' w' hq=>by
   cases e with
   | normal=>
    obtain⟨i',hlt,hI',hk',hJ'⟩:=hq;exact⟨i',⟨hI',hk',hJ'⟩,hlt⟩
   | exit id=>exact hq
   | goto l=>exact hq
   | ret=>exact hq
   | panic ch=>exact hq
   | outgrown=>exact hq)) i0 a w ⟨hI,hk.sub hs,H.stJ _ _ _ hJ hm.below⟩
theorem roundY (H:Yd P l J E V0 ys) {cx':Cx} {ι:Type} {I:ι->Prop} {KS:ι->List (Nat×Value)} {idx:ι->Nat} {μ:ι->Nat} {i:ι} (i':ι) (hμ:μ i'<μ i) (hI:I i') (hs:Sub (KS i') ks) (hJ:J (idx i') cx.w0) (hd:cx'.ds=cx.ds:=by rfl) :
  At cx n ks O V (λa w=>∃ i',μ i'<μ i/\I i'/\Kn cx' n (KS i') a/\J (idx i') w):=λa w hk hm=>⟨i',hμ,hI,(hk.sub hs).rebase hd,H.stJ _ _ _ hJ hm.below⟩
theorem it_of {f:FuncId} {fn:Func} {c:Code} {caps:List Value} {n:Nat} (hf:P.funcs[f]? = some fn) (hb:fn.body=some c) (hn:fn.ntmps=n) (hl:caps.length+1<=n) (hr:fn.results=#[])
  (h:∀ l J E w,Yd P l J E V ys->J 0 w->At ⟨w,V,[]⟩ n (frame (Value.func (.yield l) #[] #[]::caps) 0) [] V (c.wpIn (FW none) 0 P (λe a w'=>a.defers=[]/\(e=.normal\/e=.ret)/\(J ys.length w'\/E w')))):It P f caps V ys:=λl J E w H hJ=>by
 refine(jG (ro:=none) (n:=0)).1 (callsIn_of_wp hf hb trivial (wpIn_mono (h l J E w H hJ _ w ⟨rfl,?_,λi v hi=>?_⟩ (Mem.start _ (H.view _ _ hJ))) λe a w' hq=>?_) rfl)
 ·simp[hn];omega
 ·have:=(frame_known (Value.func (.yield l) #[] #[]::caps) 0 i v hi).2
  simp only[Nat.sub_zero]at this;have hlt:=(List.getElem?_eq_some_iff.1 this).1;rw[Array.getElem?_append_left (by simpa using hlt)];simpa using this
 ·obtain⟨h1,h2 | h2,h3⟩:=hq<;>subst h2<;>exact⟨h1,_,results_none hr _ _ _,_,rfl,h3⟩
theorem itEnd (H:Yd P l J E V0 ys) {e:Exit} (he:e=.normal\/e=.ret) (hd:cx.ds=[]) (h:J ys.length cx.w0\/E cx.w0):At cx n ks O V (λa w'=>a.defers=[]/\(e=.normal\/e=.ret)/\(J ys.length w'\/E w')):=λa w hk hm=>
 ⟨hk.defers.trans hd,he,h.imp (λh=>H.stJ _ _ _ h hm.below) (λh=>H.stE _ _ h hm.below)⟩
/-! ### The loop over such a function -/
abbrev mkD (D:Nat):Deferred:={ target:=.collected D,args:=#[] }
def bindK:List Nat->List Value->List (Nat×Value)->List (Nat×Value)
 | p::ps,v::vs,ks=>bindK ps vs ((p,v)::ks)
 | _,_,ks=>ks
theorem Kn.bind:∀ (ps:List Nat) (y:List Value) (ks:List (Nat×Value)) (tmps:Array Value),ps.length=y.length->(∀ p∈ps,p<n)->Kn cx n ks { tmps:=tmps,defers:=cx.ds }->
  Kn cx n (bindK ps y ks) { tmps:=(ps.zip y).foldl (λtmps (p:Nat×Value)=>tmps.setIfInBounds p.1 p.2) tmps,defers:=cx.ds }
 | [],[],ks,tmps,_,_,h=>h
 | p::ps,v::y,ks,tmps,hl,hp,h=>by
  have:=Kn.put h (hp p (by simp)) v
  exact Kn.bind ps y _ _ (by simpa using hl) (λq hq=>hp q (List.mem_cons_of_mem _ hq)) this
 | [],_::_,_,_,hl,_,_=>by simp at hl
 | _::_,[],_,_,hl,_,_=>by simp at hl
def RJ {ι:Type} (cx:Cx) (l D:Nat) (r:Loop) (idx:ι->Nat) (OS:ι->List Own) (VS:ι->View->Prop) (j:Nat) (w:World):Prop:=
 ∃ g V',idx g=j/\VS g V'/\Mem cx (.blk l (.loop { r with state:=.ready,pending:=none })::.blk D (.deferred (some []))::OS g) V' w
def RE (cx:Cx) (l D:Nat) (r:Loop) (XS:Code->List Own->View->Prop) (w:World):Prop:=
 ∃ c O' V',XS c O' V'/\Mem cx (.blk l (.loop { r with state:=.done,pending:=some c })::.blk D (.deferred (some []))::O') V' w
abbrev RR {ι:Type} (cx:Cx) (l D:Nat) (r:Loop) (idx:ι->Nat) (OS:ι->List Own) (VS:ι->View->Prop) (XS:Code->List Own->View->Prop) (j:Nat):Ending->World->Prop:=λe w'=>
 (e=.returned (.bool true)/\RJ cx l D r idx OS VS (j+1) w')\/(e=.returned (.bool false)/\RE cx l D r XS w')
theorem Mem.put {b:Nat} {o o':Obj} {w:World} (h:Mem cx (.blk b o::O) V w):Mem cx (.blk b o'::O) V (w.putObj b o'):=
 h.set ⟨rfl,rfl,rfl,by simp,λk hk hne=>by rw[World.putObj_heap_other (λe=>hne (by rw[e]))]⟩ (World.putObj_heap_same (Array.getElem?_eq_some_iff.1 h.blk).1)
section
variable {ι:Type} {l D:Nat} {r:Loop} {idx:ι->Nat} {OS:ι->List Own} {VS:ι->View->Prop} {XS:Code->List Own->View->Prop}
theorem RJ.ext {w w':World} (h:RJ cx l D r idx OS VS j w) (hb:Below w.heap.size w w'):RJ cx l D r idx OS VS j w':=by obtain⟨g,V',h0,h1,h2⟩:=h;exact⟨g,V',h0,h1,h2.ext hb⟩
theorem RE.ext {w w':World} (h:RE cx l D r XS w) (hb:Below w.heap.size w w'):RE cx l D r XS w':=by obtain⟨c,O',V',h1,h2⟩:=h;exact⟨c,O',V',h1,h2.ext hb⟩
theorem xC (hp:zo (.blk l (.loop { r with state:=.ready,pending:=none })) O R) (h:At cx n ks (.blk l (.loop { r with state:=.busy,pending:=none })::R) V K) :
  At cx n ks O V (λa w=>∃ w',(Instr.beginRound l).run P w=.ok () w'/\K a w'):=λa w hk hm=>
 ⟨_,run_beginRound (hm.pick hp).blk rfl,h a _ hk (hm.pick hp).put⟩
theorem roundN (g:ι) (hi:idx g=j+1) (hv:VS g V) (hp:zo (.blk l (.loop { r with state:=.busy,pending:=none })) O R) (hp':Pt (.blk D (.deferred (some []))::OS g) R) :
  At cx n ks O V (roundPost P l (RR cx l D r idx OS VS XS j) .normal):=λa w hk hm=>
 ⟨_,_,run_endRound none (hm.pick hp).blk,.inl ⟨rfl,g,V,hi,hv,Mem.part (hm.pick hp).put (.take (.refl _) hp'.part)⟩⟩
theorem roundX {id:Nat} (hv:XS (.exit id) O' V) (hp:zo (.blk l (.loop { r with state:=.busy,pending:=none })) O R) (hp':Pt (.blk D (.deferred (some []))::O') R) :
  At cx n ks O V (roundPost P l (RR cx l D r idx OS VS XS j) (.exit id)):=λa w hk hm=>
 ⟨_,_,run_endRound (some (.exit id)) (hm.pick hp).blk,.inr ⟨rfl,_,O',V,hv,Mem.part (hm.pick hp).put (.take (.refl _) hp'.part)⟩⟩
end
theorem foldl_zip (y:Array Value) (ps:Array Tmp) (tmps:Array Value):(ps.zip y).foldl (λtmps (p:Tmp×Value)=>tmps.setIfInBounds p.1 p.2) tmps=(ps.toList.zip y.toList).foldl (λtmps (p:Nat×Value)=>tmps.setIfInBounds p.1 p.2) tmps:=by rw[<-Array.foldl_toList,Array.toList_zip]
theorem At.rangeFunc {g:Operand} {ps:Array Tmp} {assign body:Code} {f:FuncId} {caps:List Value} {Vi:View} {ι:Type} (idx:ι->Nat) (OS:ι->List Own) (VS:ι->View->Prop) (XS:Code->List Own->View->Prop)
  (hg:ev ks g=some (.func (.func f) #[] caps.toArray)) (hok:zi P f) (g0:ι) (hg0:idx g0=0) (hp:Pt (OS g0) O) (hv:VS g0 V) (hit:It P f caps Vi ys) (hVi:∀ g V',VS g V'->Le Vi V')
  (hps:∀ p∈ps.toList,p<n) (hlen:∀ y∈ys,y.length=ps.size) (hds:cx.ds=[])
  (hround:∀ i y l D r V' ks' O',ys[idx i]? = some y->VS i V'->Le cx.V0 V'->ks'=bindK ps.toList y ks->O'=OS i->At cx n ks' (.blk l (.loop { r with state:=.ready,pending:=none })::.blk D (.deferred (some []))::O') V'
   (assign.wpIn (FW (some l)) 0 P (Exit.then (λa₁ w₁=>∃ w₂,(Instr.beginRound l).run P w₁=.ok () w₂/\body.wpIn (FW (some l)) 0 P (roundPost P l (RR cx l D r idx OS VS XS (idx i))) a₁ w₂) (λ_ _ _=>False))))
  (hend:∀ i D V' O',idx i=ys.length->VS i V'->Le cx.V0 V'->O'=OS i->At { cx with ds:=[mkD D] } n ks (.blk D (.deferred (some []))::O') V' (Q .normal))
  (hexit:∀ D c O' V',XS c O' V'->Le cx.V0 V'->At { cx with ds:=[mkD D] } n ks (.blk D (.deferred (some []))::O') V' (c.wpIn (FW none) 0 P Q)) :
  At cx n ks O V ((Code.rangeFunc g ps assign body).wpIn (FW none) 0 P Q):=λa w hk hm=>by
 refine wpIn_rangeFunc λfn _=>?_
 let D:=w.heap.size
 let r:Loop:={ state:=.ready,pending:=none,fn:=fn,tmps:=a.tmps,params:=ps,assign:=assign,body:=body,defers:=D }
 let w1:=(w.alloc (.deferred (some []))).alloc (.loop r)
 have hm1:Mem cx (.blk (D+1) (.loop r)::.blk D (.deferred (some []))::OS g0) V w1:=by
  have h1:=(hm.part hp.part).alloc (.deferred (some []))
  have h2:=h1.alloc (.loop r)
  rwa[World.size_alloc]at h2
 have H:Yd P (D+1) (RJ cx (D+1) D r idx OS VS) (RE cx (D+1) D r XS) Vi ys:=by
  refine⟨λj w w' h hb=>h.ext hb,λw w' h hb=>h.ext hb,λj w h=>?_,λj y w hy h=>?_⟩
  ·obtain⟨g',V',h0,h1,h2⟩:=h;exact(hVi _ _ h1).trans h2.view
  ·obtain⟨g',V',rfl,h1,h2⟩:=h;have hl:=hlen y (List.mem_of_getElem? hy);refine⟨_,_,_,_,run_yield h2.blk (by simpa using hl),?_⟩;rw[foldl_zip];refine roundIn_of_wpIn trivial ?_;refine hround g' y (D+1) D r V' _ _ hy h1 h2.le0 rfl rfl _ w ?_ h2;have:Kn cx n ks { tmps:=a.tmps,defers:=cx.ds }:=⟨rfl,hk.size,hk.known⟩;have:=Kn.bind ps.toList y ks a.tmps (by simpa using hl.symm) hps this;rw[hds]at this;exact⟨hds.symm▸this.defers,this.size,this.known⟩
 refine⟨D+1,[mkD D],w1,{ target:=.fn (.func f) caps.toArray,args:=#[.func (.yield (D+1)) #[] #[]] },w1,f,(Value.func (.yield (D+1)) #[] #[]::caps).toArray,w1,run_enterLoop_outer _ _ _ _ _,?_,λ_ _=>trivial,?_,FW_dep none,?_⟩
 ·have e1:a.eval (.const (.func (.yield (D+1)) #[] #[]))=.func (.yield (D+1)) #[] #[]:=rfl
  simp[resolve,hk.ev hg,Deferred.ofValue,e1]
 ·have e:(#[Value.func (.yield (D+1)) #[] #[]]++caps.toArray)=(Value.func (.yield (D+1)) #[] #[]::caps).toArray:=by simp
  simp only[invoke,e];exact hok _ _
 ·refine jG.2 ((hit (D+1) _ _ w1 H ⟨g0,V,hg0,hv,hm1⟩).mono λe w' ⟨v,he,hh⟩=>?_);subst he;have hk':Kn { cx with ds:=[mkD D] } n ks { a with defers:=[mkD D]++a.defers }:=⟨by show [mkD D]++a.defers=[mkD D];rw[hk.defers,hds];rfl,hk.size,hk.known⟩;rcases hh with ⟨g',V',h0,h1,h2⟩ | ⟨c,O',V',h1,h2⟩
  ·exact⟨none,_,run_endLoop h2.blk (by simp),hend g' D V' _ h0 h1 h2.le0 rfl _ _ hk' (h2.put.drop.rebase rfl rfl)⟩
  ·exact⟨some c,_,run_endLoop h2.blk (by simp),hexit D c O' V' h1 h2.le0 _ _ hk' (h2.put.drop.rebase rfl rfl)⟩
/-! ### A function that holds such a loop -/
theorem fn_ofM {f:FuncId} {fn:Func} {c:Code} {args:List Value} {V:View} {R:Value->View->Prop} {n:Nat} (hf:P.funcs[f]? = some fn) (hb:fn.body=some c) (hn:fn.ntmps=n) (hl:args.length<=n)
  (h:∀ w,Le V (hp w)->At ⟨w,V,[]⟩ n (frame args 0) [] V (c.wpIn (FW none) 0 P (bodyPostM (FW none) 0 P fn λe w'=>∃ v V',e=.returned v/\Below w.heap.size w w'/\Le V V'/\Le V' (hp w')/\(∀ k o,V' k=some o->V k=some o\/w.heap.size<=k)/\R v V'))) :
  Fnc P f args V R:=λw hw=>by
 refine(jG (ro:=none) (n:=0)).1 (callsIn_of_wp_marks hf hb trivial (h w hw _ w ⟨rfl,?_,λi v hi=>?_⟩ ⟨Below.refl _ _,Le.refl _,λk o hk=>.inl hk,hw,[],rfl,List.nodup_nil,λb hb=>by cases hb⟩) rfl)
 ·simp[hn];omega
 ·have:=(frame_known args 0 i v hi).2
  simp only[Nat.sub_zero]at this;have hlt:=(List.getElem?_eq_some_iff.1 this).1;rw[Array.getElem?_append_left (by simpa using hlt)];simpa using this
theorem At.plain {fn:Func} {R':Ending->World->Prop} {e:Exit} (he:e=.ret\/e=.normal) (hd:cx.ds=[]) (h:At cx n ks O V (bodyPost P fn R' e)):At cx n ks O V (bodyPostM (FW none) 0 P fn R' e):=λa w hk hm=>by
 have:=h a w hk hm
 rcases he with rfl | rfl;all_goals
  obtain⟨h1,h2⟩:=this;show LeavesInM _ _ _ _ _ _ a.defers _ _;rw[h1];exact h2
end
def EqS (P:Program) (t:TypeId) (xs ys:List Value) (b:Bool):Prop:=P.eqGuardType P.depth t=false/\∀ w,(Op.equalIn 10000 t (.agg xs.toArray) (.agg ys.toArray)).run P w=.ok b w
structure KeyL {α:Type} [DecidableEq α] (P:Program) (kt:TypeId) (ek:α->Value):Prop where
 eq:∀ a b w,(Op.equal kt (ek a) (ek b)).run P w=.ok (decide (a=b)) w
 ck:∀ e a w,(Instr.checkKey e 10000 kt (ek a)).run P w=.ok () w
 sb:∀ a,Instr.sameBits 10000 (ek a) (ek a)=true
 now:∃ kd,P.underlying kt=some kd/\((∀ a b,Instr.sameNow kd (ek a) (ek b)=none)\/(∀ a b,Instr.sameNow kd (ek a) (ek b)=some (decide (a=b))))
section
variable {α β:Type} [DecidableEq α] {P:Program} {kt:TypeId} {ek:α->Value} {ev':β->Value}
abbrev MM (α β:Type):=List (α×β×Nat)
def mE (ek:α->Value) (ev':β->Value) (e:α×β×Nat):MapEntry:={ key:=ek e.1,val:=ev' e.2.1,born:=e.2.2 }
def qM (ek:α->Value) (ev':β->Value) (M:MM α β) (c:Nat):Obj:=.map (M.map (mE ek ev')).toArray c
def fk (a:α):MM α β->Nat->Option (Nat×β)
 | [],_=>none
 | e::M,i=>if a=e.1 then some (i,e.2.1)else fk a M (i+1)
def kI (a:α):MM α β->Bool
 | []=>false
 | e::M=>if a=e.1 then true else kI a M
def mdel (a:α):MM α β->MM α β
 | []=>[]
 | e::M=>if a=e.1 then M else e::mdel a M
def mmod (a:α) (v:β):MM α β->MM α β
 | []=>[]
 | e::M=>if a=e.1 then (a,v,e.2.2)::M else e::mmod a v M
theorem KeyL.now_find (h:∀ kd,P.underlying kt=some kd->∀ a b,Instr.sameNow kd (ek a) (ek b)=some (decide (a=b))) {kd:TypeDesc} (hk:P.underlying kt=some kd) (a:α):∀ (M:MM α β) (i:Nat),
  Instr.findNow kd (ek a) (M.map (mE ek ev')) i=some ((fk a M i).map λp=>(p.1,ev' p.2))
 | [],i=>rfl
 | e::M,i=>by
  have:=h kd hk a e.1
  simp only[List.map_cons,Instr.findNow,mE,this,fk];by_cases c:a=e.1
  ·simp[c]
  ·simp only[c,decide_false,if_false];exact KeyL.now_find h hk a M (i+1)
theorem KeyL.ask (K:KeyL P kt ek) (a:α):∀ (M:MM α β) (i:Nat) (w:World),(Instr.findAsking kt (ek a) (M.map (mE ek ev')) i).run P w=.ok ((fk a M i).map λp=>(p.1,ev' p.2)) w
 | [],i,w=>rfl
 | e::M,i,w=>by
  simp only[List.map_cons,Instr.findAsking,mE,Sem.run_bind,K.eq,Result.andThen_ok,fk];by_cases c:a=e.1
  ·simp[c,Sem.run_pure]
  ·simp only[c,decide_false,if_false,Bool.false_eq_true];exact KeyL.ask K a M (i+1) w
theorem KeyL.find (K:KeyL P kt ek) (a:α) (M:MM α β) (w:World):(Instr.findKey kt (ek a) (M.map (mE ek ev'))).run P w=.ok ((fk a M 0).map λp=>(p.1,ev' p.2)) w:=by
 obtain⟨kd,hk,h | h⟩:=K.now
 ·simp only[Instr.findKey,Sem.run_bind,run_underlying hk,Result.andThen_ok];cases M with
  | nil=>simp[Instr.findNow,fk,Sem.run_pure]
  | cons e M=>
   have:Instr.findNow kd (ek a) ((e::M).map (mE ek ev')) 0=none:=by simp[Instr.findNow,mE,h]
   rw[this];exact K.ask a (e::M) 0 w
 ·simp only[Instr.findKey,Sem.run_bind,run_underlying hk,Result.andThen_ok];rw[KeyL.now_find (λkd' hk'=>by rw[hk]at hk';cases hk';exact h) hk];rfl
theorem fk_idx (a:α):∀ (M:MM α β) (i:Nat) (j:Nat) (v:β),fk a M i=some (j,v)->i<=j/\mdel a M=M.eraseIdx (j-i)/\∀ u,mmod a u M=M.modify (j-i) (λe=>(a,u,e.2.2))
 | [],_,_,_,h=>by cases h
 | e::M,i,j,v,h=>by
  simp only[fk]at h;by_cases c:a=e.1
  ·simp[c]at h;obtain⟨rfl,rfl⟩:=h;simp[mdel,mmod,c]
  ·simp only[c,if_false]at h;obtain⟨h1,h2,h3⟩:=fk_idx a M (i+1) j v h;have e1:j-i=(j-(i+1))+1:=by omega
   refine⟨by omega,?_,λu=>?_⟩
   ·simp only[mdel,c,if_false,h2,e1,List.eraseIdx_cons_succ]
   ·simp only[mmod,c,if_false,h3 u,e1,List.modify_succ_cons]
theorem fk_none (a:α):∀ (M:MM α β) (i:Nat),fk a M i=none->kI a M=false/\mdel a M=M
 | [],_,_=>⟨rfl,rfl⟩
 | e::M,i,h=>by
  simp only[fk]at h;by_cases c:a=e.1
  ·simp[c]at h
  ·simp only[c,if_false]at h;have:=fk_none a M (i+1) h;simp[kI,mdel,c,this]
end
section
variable {cx:Cx} {n:Nat} {ks:List (Nat×Value)} {O O' R R':List Own} {V:View} {P:Program} {ops:Array Oper} {Qn:Act->World->Prop} {t:Tr} {i d:Nat} {T:TypeId} {pos:String} {after:Array Edge} {gd:Option (Nat×Bool)} {x y z:Operand} {u v:Value} {wr:Bool}
theorem passU {o:Oper} {g:Nat} {want:Bool} {od:Oper} {gd:Nat} (ho:ops[i]? = some o) (hg:o.guard=some (g,want)) (hog:ops[g]? = some od) (hgd:od.dst=some gd) (hgv:look ks gd=some undef) (hd:o.dst=some d) (hn:d<n)
  (next:AtT cx n ((d,undef)::ks) O V P ops Qn t):AtT cx n ks O V P ops Qn (.q i t):=λa w hk hm=>
 ⟨o,undef,ho,.inr ⟨by
  have:=hk.known gd _ hgv
  simp[Region.wanted,hg,yielded,hog,hgd,this,undef],rfl⟩,by rw[hd];exact next _ w (hk.put hn undef) hm⟩
theorem passNU {o:Oper} {g:Nat} {want:Bool} {od:Oper} {gd:Nat} {wr:Bool} (ho:ops[i]? = some o) (hg:o.guard=some (g,want)) (hog:ops[g]? = some od) (hgd:od.dst=some gd) (hgv:look ks gd=some undef) (hd:o.dst=some d) (hn:d<n)
  (next:AtT cx n ((d,undef)::ks) O V P ops Qn t):AtT cx n ks O V P ops Qn (.n wr i t):=λa w hk hm=>
 ⟨o,ho,by
  have:=hk.known gd _ hgv
  unfold stW;rw[if_neg (by simp[Region.wanted,hg,yielded,hog,hgd,this,undef]),hd];exact⟨Mem cx O V,λ_ _ h=>h,hm,next _ w (hk.put hn undef) hm⟩⟩
theorem stepR_scope {P:Program} {b:Frame} {a:Act} {k:List Item} {cs:List Frame} {w:World} {c:Code} : step P (lone (b.atR a (.code (.scope c)::k)) cs w)=.next (lone (b.atR a (.code c::.inScope c::k)) cs w):=
 step_lone_go (by simp[stepG,stepG.exec,Frame.atR])
theorem stepR_inScope {P:Program} {b:Frame} {a:Act} {k:List Item} {cs:List Frame} {w:World} {c:Code} : step P (lone (b.atR a (.inScope c::k)) cs w)=.next (lone (b.atR a k) cs w):=
 step_lone_go (by simp[stepG,stepG.exec,Frame.atR])
def noGo (Q:Exit->Act->World->Prop):Exit->Act->World->Prop
 | .goto _,_,_=>False
 | .normal,a,w=>Q .normal a w
 | .ret,a,w=>Q .ret a w
 | .exit id,a,w=>Q (.exit id) a w
 | .panic c,a,w=>Q (.panic c) a w
 | .outgrown,a,w=>Q .outgrown a w
theorem wpIn_scope {F:Fence} {n:Nat} {P:Program} {Q:Exit->Act->World->Prop} {a:Act} {w:World} {c:Code} (h:c.wpIn F n P (noGo Q) a w):(Code.scope c).wpIn F n P Q a w:=by
 intro b k cs hro hb hr;obtain⟨e,a₁,w₁,hq,harr⟩:=h b (.inScope c::k) cs hro hb hr;have s0:StepsIn (Machine.fenced P F) P (lone (b.atR a (.code (.scope c)::k)) cs w) (lone (b.atR a (.code c::.inScope c::k)) cs w):=.one (fenced_calm hb hr rfl) stepR_scope;cases e with
 | normal=>exact⟨.normal,a₁,w₁,hq,.of_steps s0 (StepsIn.trans harr (.one (fenced_calm hb hr rfl) stepR_inScope))⟩
 | exit id=>
  have ex:exitTo id (.inScope c::k)=exitTo id k:=by simp[exitTo]
  exact⟨_,a₁,w₁,hq,.of_steps s0 ⟨λk' hk=>harr.1 k' (by rw[ex];exact hk),λhr hk=>harr.2 hr (by rw[ex];exact hk)⟩⟩
 | goto l=>exact hq.elim
 | ret=>exact⟨_,a₁,w₁,hq,.of_steps s0 harr⟩
 | panic ch=>exact⟨_,a₁,w₁,hq,.of_steps s0 harr⟩
 | outgrown=>exact⟨_,a₁,w₁,hq,.of_steps s0 harr⟩
variable {ro:Option Nat} {Q:Exit->Act->World->Prop}
theorem At.scope {c:Code} (h:At cx n ks O V (c.wpIn (FW ro) 0 P (noGo Q))):At cx n ks O V ((Code.scope c).wpIn (FW ro) 0 P Q):=λa w hk hm=>wpIn_scope (h a w hk hm)
theorem noN (h:At cx n ks O V (Q .normal)):At cx n ks O V (noGo Q .normal):=h
theorem noX {id:Nat} (h:At cx n ks O V (Q (.exit id))):At cx n ks O V (noGo Q (.exit id)):=h
theorem noR (h:At cx n ks O V (Q .ret)):At cx n ks O V (noGo Q .ret):=h
theorem nrm {K K':Act->World->Prop} (h:At cx n ks O V K') (f:At cx n ks O V K'->At cx n ks O V K:=by intro h;(repeat(first | with_reducible refine At.seq ?_ | with_reducible refine At.then ?_ | with_reducible refine At.block ?_ | with_reducible refine At.skip ?_ | with_reducible refine inN ?_ | with_reducible refine At.exit ?_ | with_reducible refine inX ?_ | with_reducible refine inY rfl ?_ | with_reducible refine thenX ?_ | with_reducible refine At.ret ?_ | with_reducible refine thenR ?_ | with_reducible refine inR ?_ | with_reducible refine At.label ?_ | with_reducible refine At.scope ?_ | with_reducible refine noN ?_ | with_reducible refine noX ?_ | with_reducible refine noR ?_));exact h):At cx n ks O V K:=f h
theorem nrmB {K K':Act->World->Prop} (h:At cx n ks O V K') (f:At cx n ks O V K'->At cx n ks O V K:=by intro h;(repeat(first | with_reducible refine At.seq ?_ | with_reducible refine At.then ?_ | with_reducible refine At.skip ?_ | with_reducible refine inN ?_ | with_reducible refine At.exit ?_ | with_reducible refine inX ?_ | with_reducible refine inY rfl ?_ | with_reducible refine thenX ?_ | with_reducible refine At.ret ?_ | with_reducible refine thenR ?_ | with_reducible refine inR ?_ | with_reducible refine At.label ?_ | with_reducible refine At.scope ?_ | with_reducible refine noN ?_ | with_reducible refine noX ?_ | with_reducible refine noR ?_));exact h):At cx n ks O V K:=f h
end
def AtC (cx:Cx) (n:Nat) (ks:List (Nat×Value)) (O:List Own) (V:View) (O1:List Own) (V1:View) (P:Program) (ops:Array Oper) (Qn:Act->World->Prop) (t:Tr):Prop:=
 Le cx.V0 V1->∀ a w,Kn cx n ks a->Mem cx O V w->wpT P ops Qn t (Mem cx O1 V1) a w
section
variable {cx:Cx} {n:Nat} {ks:List (Nat×Value)} {O O' R R' O1:List Own} {V V1:View} {P:Program} {ops:Array Oper} {Qn:Act->World->Prop} {t:Tr} {i d:Nat} {T:TypeId} {pos:String} {after:Array Edge} {gd:Option (Nat×Bool)} {x y z:Operand} {u v:Value} {wr:Bool}
theorem xe:AtT cx n ks O V P ops (λa' _=>Kn cx n ks a') .done:=λa w hk hm=>hk
theorem AtC.start (h:AtC cx n ks O V O V P ops Qn t):AtT cx n ks O V P ops Qn t:=λa w hk hm=>h hm.le0 a w hk hm
theorem AtC.q (h:AtT cx n ks O1 V1 P ops (λa' _=>Kn cx n ((d,v)::ks) a') (.q i .done)) (hne:∀ w,Mem cx O V w->Mem cx O1 V1 w) (next:AtC cx n ((d,v)::ks) O V O1 V1 P ops Qn t):AtC cx n ks O V O1 V1 P ops Qn (.q i t):=λh0 a w hk hm=>by obtain⟨o,v',ho,hy,hk'⟩:=h a w hk (hne w hm);exact⟨o,v',ho,hy,next h0 _ w hk' hm⟩
theorem nz (h:AtT cx n ks O V P ops (λa' w'=>Le cx.V0 V1->Mem cx O1 V1 w'/\wpT P ops Qn t (Mem cx O1 V1) a' w') (.n true i .done)):AtC cx n ks O V O1 V1 P ops Qn (.n false i t):=λh0 a w hk hm=>by obtain⟨o,ho,hs⟩:=h a w hk hm;exact⟨o,ho,qm (λa' w' ⟨S',_,_,h3⟩=>⟨Mem cx O1 V1,λ_ _ h=>h,(h3 h0).1,(h3 h0).2⟩) hs⟩
theorem xQ {V':View} (hp:Pt O1 O') (hl:Le V1 V') (next:AtC cx n ks O' V' O1 V1 P ops Qn t):AtT cx n ks O' V' P ops (λa' w'=>Le cx.V0 V1->Mem cx O1 V1 w'/\wpT P ops Qn t (Mem cx O1 V1) a' w') .done:=
 λa w hk hm h0=>⟨(hm.part hp.part).less h0 hl,next h0 a w hk hm⟩
theorem sub1 {V':View} (hp:Pt O1 O') (hl:Le V1 V') (h0:Le cx.V0 V1):∀ w,Mem cx O' V' w->Mem cx O1 V1 w:=λw hm=>(hm.part hp.part).less h0 hl
theorem idx_ex {α:Type} {X E:TypeId} {enc:α->List Value} {s:Nat} {l:List α} {k:IntKind} {j:Int} {ag:Bool} (ho:ops[i]? = some ⟨some d,.indexAddr X x y,T,pos,after,gd⟩) (hg:Gd ks ops gd) (hX:P.underlying X=some (.slice E)) (hE:tkB P E=some (ag,s))
  (hx:ev ks x=some v) (hl:Sl V enc s v l) (hy:ev ks y=some (.int k j)) (h0:0<=j) (h1:j<l.length) (hn:d<n) :
  ∃ (p:Addr) (e:α),l[j.toNat]? = some e/\Cells V p (enc e)/\∀ Qn t,AtT cx n ((d,.pointer (some p))::ks) O V P ops Qn t->AtT cx n ks O V P ops Qn (.q i t):=by
 obtain⟨a,cap,rfl,h2,h3,h4,h5⟩:=hl;have hlt:j.toNat<l.length:=by omega
 cases a with
 | none=>exact absurd (h4 (by intro e;rw[e]at hlt;cases hlt)) (by simp)
 | some b=>
  have he:l[j.toNat]? = some (l[j.toNat]):=List.getElem?_eq_getElem hlt
  refine⟨b.add (j.toNat*s),_,he,h5 b rfl _ _ he,λQn t next=>?_⟩;refine .q ho hg rfl hn (λa w hk hm=>?_) next
  simp only[execOp,hk.ev hx,hk.ev hy];simp[Instr.indexAt,asIntOf,run_underlying hX,run_sizeOf hE,h0,h1]
theorem AtC.idx {α:Type} {X E:TypeId} {enc:α->List Value} {s:Nat} {l:List α} {k:IntKind} {j:Int} {ag:Bool} (ho:ops[i]? = some ⟨some d,.indexAddr X x y,T,pos,after,gd⟩) (hg:Gd ks ops gd) (hX:P.underlying X=some (.slice E)) (hE:tkB P E=some (ag,s))
  (hx:ev ks x=some v) (hl:Sl V1 enc s v l) (hy:ev ks y=some (.int k j)) (h0:0<=j) (h1:j<l.length) (hn:d<n) (hne:∀ w,Mem cx O V w->Mem cx O1 V1 w)
  (next:∀ (p:Addr) (e:α),l[j.toNat]? = some e->Cells V1 p (enc e)->AtC cx n ((d,.pointer (some p))::ks) O V O1 V1 P ops Qn t):AtC cx n ks O V O1 V1 P ops Qn (.q i t):=by
 obtain⟨p,e,g1,g2,g3⟩:=idx_ex (cx:=cx) (n:=n) (O:=O1) (P:=P) (ops:=ops) (i:=i) (d:=d) (T:=T) (pos:=pos) (after:=after) (gd:=gd) (y:=y) ho hg hX hE hx hl hy h0 h1 hn;exact AtC.q (g3 _ _ xe) hne (next p e g1 g2)
theorem AtC.done (h:At cx n ks O V Qn):AtC cx n ks O V O1 V1 P ops Qn .done:=λ_ a w hk hm=>h a w hk hm
theorem AtC.pre (h:Le cx.V0 V1->AtC cx n ks O V O1 V1 P ops Qn t):AtC cx n ks O V O1 V1 P ops Qn t:=λh0=>h h0 h0
theorem AtC.br {is:List Nat} {f:Nat->Tr} (h:∀ i∈is,AtC cx n ks O V O1 V1 P ops Qn (.n false i (f i))):AtC cx n ks O V O1 V1 P ops Qn (.br is f):=λh0 a w hk hm i hi=>by obtain⟨o,ho,hs⟩:=h i hi h0 a w hk hm;exact⟨o,ho,qm (λa' w' ⟨S',h1,h2,h3⟩=>⟨S',h1 rfl,h2,h3⟩) hs⟩
theorem AtT.two {i j:Nat} {t u:Tr} (h1:AtT cx n ks O V P ops Qn (.n false i t)) (h2:AtT cx n ks O V P ops Qn (.n false j u)):AtT cx n ks O V P ops Qn (.two i t j u):=λa w hk hm=>by obtain⟨o,ho,hs⟩:=h1 a w hk hm;obtain⟨o',ho',hs'⟩:=h2 a w hk hm;exact⟨⟨o,ho,qm (λa' w' ⟨S',h1,h2,h3⟩=>⟨S',h1 rfl,h2,h3⟩) hs⟩,o',ho',qm (λa' w' ⟨S',h1,h2,h3⟩=>⟨S',h1 rfl,h2,h3⟩) hs'⟩
theorem AtC.two {i j:Nat} {t u:Tr} (h1:AtC cx n ks O V O1 V1 P ops Qn (.n false i t)) (h2:AtC cx n ks O V O1 V1 P ops Qn (.n false j u)):AtC cx n ks O V O1 V1 P ops Qn (.two i t j u):=λh0 a w hk hm=>by obtain⟨o,ho,hs⟩:=h1 h0 a w hk hm;obtain⟨o',ho',hs'⟩:=h2 h0 a w hk hm;exact⟨⟨o,ho,qm (λa' w' ⟨S',h1,h2,h3⟩=>⟨S',h1 rfl,h2,h3⟩) hs⟩,o',ho',qm (λa' w' ⟨S',h1,h2,h3⟩=>⟨S',h1 rfl,h2,h3⟩) hs'⟩
theorem drawC {ro:Option Nat} {Q:Exit->Act->World->Prop} {id:Nat} {ops:Array Oper} (O1:List Own) (t:Tr) (hm:P.follows .mixedOrders=true) (hc:t.okDraw ops=true) (hp1:Pt O1 O) (h:AtC cx n ks O V O1 V P ops (Q .normal) t) :
  At cx n ks O V ((Code.region id ops true).wpIn (FW ro) 0 P Q):=λa w hk hw=>
 have hd:Mem cx O V w.drew:=hw.ext (Below.refl _ w).drew
 wp_region_drawn t hm hc (Mem cx O1 V) (hd.part hp1.part) (h hw.le0 a w.drew hk hd)
theorem AtC.kn {ks':List (Nat×Value)} (hs:∀ i v,look ks' i=some v->look ks i=some v) (h:AtC cx n ks' O V O1 V1 P ops Qn t):AtC cx n ks O V O1 V1 P ops Qn t:=λh0 a w hk hm=>h h0 a w ⟨hk.defers,hk.size,λi v hv=>hk.known i v (hs i v hv)⟩ hm
theorem xR {O':List Own} (hp:O.Perm O') (h:AtC cx n ks O' V O1 V1 P ops Qn t):AtC cx n ks O V O1 V1 P ops Qn t:=λh0 a w hk hm=>h h0 a w hk (hm.perm hp)
theorem xD:∀ (k:Nat) (zas:List AlS) (is:List Nat) {ks:List (Nat×Value)} {O:List Own},k=zas.length->is=zas.map (·.i)->AlOk P ops n zas->(zas.map (·.d)).Nodup->(zas.map (·.i)).Nodup->(∀ w,Mem cx O V w->Mem cx O1 V1 w)->
  (∀ bs:Nat->Nat,AtC cx n (alK bs zas++ks) (alO bs zas++O) V O1 V1 P ops Qn t)->AtC cx n ks O V O1 V1 P ops Qn (Tr.al k is t)
 | 0,zas,is,ks,O,hk,_,_,_,_,hcl,h=>by
  have:zas=[]:=List.length_eq_zero_iff.1 hk.symm
  subst this;exact h λ_=>0
 | k+1,zas,is,ks,O,hk,hi,hok,hd,hin,hcl,h=>by
  subst hi;refine AtC.br λi hi=>?_;obtain⟨a,ha,rfl⟩:=List.mem_map.1 hi;obtain⟨T,pos,after,z,ho,hz,hc,hn⟩:=hok.at ha;refine nz (AtT.alloc ho trivial hz hc hn λb=>?_);have hcl':∀ w,Mem cx (.blk b (LC a.cs a.E)::O) V w->Mem cx O1 V1 w:=λw hm=>hcl w hm.drop
  suffices hh:AtC cx n ((a.d,.pointer (some ⟨b,0,none⟩))::ks) (.blk b (LC a.cs a.E)::O) V O1 V1 P ops Qn (Tr.al k ((zas.map (·.i)).erase a.i) t)from
   λa w hk hm h0=>⟨hcl' w hm,hh h0 a w hk hm⟩
  obtain⟨l1,l2,rfl⟩:=List.append_of_mem ha;have hnd:a.d∉(l1++l2).map (·.d):=by rw[List.map_append,List.map_cons]at hd;have:=(List.perm_middle.nodup_iff.1 hd);rw[List.map_append];exact(List.nodup_cons.1 this).1
  have e1:((l1++a::l2).map (·.i)).erase a.i=(l1++l2).map (·.i):=by rw[List.map_append,List.map_cons]at hin;have hni:a.i∉l1.map (·.i):=λhm=>(List.nodup_append.1 hin).2.2 _ hm _ (by simp) rfl;rw[List.map_append,List.map_cons,List.erase_append_right _ hni,List.erase_cons_head,List.map_append]
  refine xD k (l1++l2) _ (by simp at hk⊢;omega) e1 (hok.sub λc hc=>?_) ?_ ?_ hcl' λbs=>?_
  ·simp at hc⊢;rcases hc with h | h<;>simp[h]
  ·rw[List.map_append,List.map_cons]at hd;rw[List.map_append];exact(List.nodup_cons.1 (List.perm_middle.nodup_iff.1 hd)).2
  ·rw[List.map_append,List.map_cons]at hin;rw[List.map_append];exact(List.nodup_cons.1 (List.perm_middle.nodup_iff.1 hin)).2
  ·obtain⟨bs',h1,h2⟩:=als_step bs b (a:=a) (l1:=l1) (l2:=l2) (ks:=ks) (O:=O) hnd;exact AtC.kn h1 (xR h2 (h bs'))
theorem xZ {i1 d1:Nat} {E1:TypeId} {cs1:List Value} {i2 d2:Nat} {E2:TypeId} {cs2:List Value} (hok:AlOk P ops n [⟨i1,d1,E1,cs1⟩,⟨i2,d2,E2,cs2⟩]) (hd:([d1,d2]:List Nat).Nodup) (hi:([i1,i2]:List Nat).Nodup) 
  (h:∀ b1 b2,AtT cx n ((d1,.pointer (some ⟨b1,0,none⟩))::(d2,.pointer (some ⟨b2,0,none⟩))::ks) (.blk b1 (LC cs1 E1)::.blk b2 (LC cs2 E2)::O) V P ops Qn t):AtT cx n ks O V P ops Qn (Tr.al 2 [i1,i2] t):=
 xB 2 [⟨i1,d1,E1,cs1⟩,⟨i2,d2,E2,cs2⟩] _ rfl rfl hok hd hi λbs=>h (bs d1) (bs d2)
theorem xS {i1 d1:Nat} {E1:TypeId} {cs1:List Value} {i2 d2:Nat} {E2:TypeId} {cs2:List Value} (hok:AlOk P ops n [⟨i1,d1,E1,cs1⟩,⟨i2,d2,E2,cs2⟩]) (hd:([d1,d2]:List Nat).Nodup) (hi:([i1,i2]:List Nat).Nodup) (hcl:∀ w,Mem cx O V w->Mem cx O1 V1 w) 
  (h:∀ b1 b2,AtC cx n ((d1,.pointer (some ⟨b1,0,none⟩))::(d2,.pointer (some ⟨b2,0,none⟩))::ks) (.blk b1 (LC cs1 E1)::.blk b2 (LC cs2 E2)::O) V O1 V1 P ops Qn t):AtC cx n ks O V O1 V1 P ops Qn (Tr.al 2 [i1,i2] t):=
 xD 2 [⟨i1,d1,E1,cs1⟩,⟨i2,d2,E2,cs2⟩] _ rfl rfl hok hd hi hcl λbs=>h (bs d1) (bs d2)
theorem callL {f:FuncId} {args:List Operand} {ts:Array TypeId} {vs:List Value} {R:Value->Prop} (ho:ops[i]? = some ⟨some d,.call ⟨.value (.func f),args.toArray,ts⟩,T,pos,after,gd⟩) (hg:Gd ks ops gd) (ha:evs ks args=some vs) (hf:zi P f) (hn:d<n)
  (hc:∀ V',Le V V'->(∀ b o,Own.blk b o∈O->V' b=some o)->Fnc P f vs V' (λv _=>R v)) (next:∀ v,R v->AtT cx n ((d,v)::ks) O V P ops Qn t):AtT cx n ks O V P ops Qn (.n wr i t):=
 .x ho hg λa w hk hm=>by
  have e:args.toArray.map a.eval=vs.toArray:=by rw[<-evs_map hk args vs ha];simp
  have e2:a.eval (.func f)=.func (.func f) #[] #[]:=rfl
  simp only[opW,execOp,resolve,e,e2,Deferred.ofValue,Sem.run_bind,Sem.run_pure,Result.andThen_ok,invoke,Array.empty_append,Array.append_empty];rw[hf vs.toArray w];have hO:∀ b o,Own.blk b o∈O->hp w b=some o:=λb o hb=>by obtain⟨l1,l2,rfl⟩:=List.append_of_mem hb;exact(hm.perm List.perm_middle).blk
  refine(hc (hp w) hm.view hO w (Le.refl _)).mono λe w' ⟨v,V',h1,h2,h3,h4,h5,h6⟩=>?_;subst h1;exact⟨_,O,V,hk.put hn v,hm.ext h2,λ_ u hu=>hu,next v h6⟩
theorem xU {X Y:TypeId} {xs ys:List Value} {b:Bool} (ho:ops[i]? = some ⟨some d,.binOp .eql X x y Y,T,pos,after,gd⟩) (hg:Gd ks ops gd) (hx:ev ks x=some (.agg xs.toArray)) (hy:ev ks y=some (.agg ys.toArray)) (h:EqS P X xs ys b) (hn:d<n)
  (next:AtT cx n ((d,.bool b)::ks) O V P ops Qn t):AtT cx n ks O V P ops Qn (.q i t):=
 .q ho hg rfl hn (λa w hk hm=>by simp only[execOp,hk.ev hx,hk.ev hy,Sem.run_bind,run_eqGuard_agg _ _ _ _ _ _ _ h.1,run_eql_struct,h.2,Result.andThen_ok,Sem.run_pure]) next
theorem neS {X Y:TypeId} {xs ys:List Value} {b:Bool} (ho:ops[i]? = some ⟨some d,.binOp .neq X x y Y,T,pos,after,gd⟩) (hg:Gd ks ops gd) (hx:ev ks x=some (.agg xs.toArray)) (hy:ev ks y=some (.agg ys.toArray)) (h:EqS P X xs ys b) (hn:d<n)
  (next:AtT cx n ((d,.bool (!b))::ks) O V P ops Qn t):AtT cx n ks O V P ops Qn (.q i t):=
 .q ho hg rfl hn (λa w hk hm=>by simp only[execOp,hk.ev hx,hk.ev hy,Sem.run_bind,run_eqGuard_agg _ _ _ _ _ _ _ h.1,run_neq_struct,h.2,Result.andThen_ok,Sem.run_pure]) next
theorem fld {X:TypeId} {j:Nat} {us:List Value} {v:Value} (ho:ops[i]? = some ⟨some d,.field X x j,T,pos,after,gd⟩) (hg:Gd ks ops gd) (hx:ev ks x=some (.agg us.toArray)) (hr:∀ w,(Instr.field X (.agg us.toArray) j).run P w=.ok v w) (hn:d<n)
  (next:AtT cx n ((d,v)::ks) O V P ops Qn t):AtT cx n ks O V P ops Qn (.q i t):=
 .q ho hg rfl hn (λa w hk hm=>by simp only[execOp,hk.ev hx,Sem.run_bind,hr,Result.andThen_ok,Sem.run_pure]) next
theorem Za {X:TypeId} {us:List Value} {u v:Value} (ho:ops[i]? = some ⟨some d,.index X x y,T,pos,after,gd⟩) (hg:Gd ks ops gd) (hx:ev ks x=some (.agg us.toArray)) (hy:ev ks y=some u) (hr:∀ w,(Instr.index X (.agg us.toArray) u).run P w=.ok v w) (hn:d<n)
  (next:AtT cx n ((d,v)::ks) O V P ops Qn t):AtT cx n ks O V P ops Qn (.q i t):=
 .q ho hg rfl hn (λa w hk hm=>by simp only[execOp,hk.ev hx,hk.ev hy,Sem.run_bind,hr,Result.andThen_ok,Sem.run_pure]) next
variable {α β:Type} [DecidableEq α] {kt et:TypeId} {ek:α->Value} {ev':β->Value} {M:MM α β} {c b:Nat}
theorem AtT.makeMap {X:TypeId} (ho:ops[i]? = some ⟨some d,.makeMap X none,T,pos,after,gd⟩) (hg:Gd ks ops gd) (ek:α->Value) (ev':β->Value) (hn:d<n)
  (next:∀ b,AtT cx n ((d,.map (some b))::ks) (.blk b (qM ek ev' [] 0)::O) V P ops Qn t):AtT cx n ks O V P ops Qn (.n wr i t):=
 .x ho hg λa w hk hm=>by simp only[opW,execOp,Instr.makeMap,Option.map_none,Sem.run_bind,Sem.run_pure,Result.andThen_ok,run_newObj];exact⟨_,.blk w.heap.size (.map #[] 0)::O,V,hk.put hn _,hm.alloc _,λ_ u hu=>hu.drop,next _⟩
theorem qw {w:World} {b:Nat} {es:Array MapEntry} {c:Nat} (h:w.heap[b]? = some (.map es c)):(getObj b).run P w=.ok (.map es c) w:=by simp[getObj,Sem.run,h]
theorem jZ {w:World} {b:Nat} {es:Array MapEntry} {c:Nat} (o':Obj) (h:w.heap[b]? = some (.map es c)):(setObj b o').run P w=.ok () (w.putObj b o'):=by simp[setObj,Sem.run,h,World.putObj]
theorem mapNew {X:TypeId} (ho:ops[i]? = some ⟨none,.mapUpdate X x y z,T,pos,after,gd⟩) (hg:Gd ks ops gd) (K:KeyL P kt ek) (a:α) (vb:β) (hX:P.underlying X=some (.map kt et)) (hx:ev ks x=some (.map (some b))) (hy:ev ks y=some (ek a)) (hz:ev ks z=some (ev' vb)) (hnew:fk a M 0=none) (hp:Upd (.blk b (qM ek ev' M c)) (.blk b (qM ek ev' (M++[(a,vb,c)]) (c+1))) O O')
  (next:AtT cx n ks O' V P ops Qn t):AtT cx n ks O V P ops Qn (.n true i t):=
 .x ho hg λa' w hk hm=>by
  obtain⟨R,p1,p2⟩:=hp.perm;have hm1:=hm.perm p1;simp only[opW,execOp,hk.ev hx,hk.ev hy,hk.ev hz,Instr.mapUpdate,Sem.run_bind,run_underlying hX,Result.andThen_ok,qw hm1.blk,qM,K.ck,K.find a M,List.toList_toArray,hnew,Option.map_none,jZ _ hm1.blk,Sem.run_pure];refine⟨ks,O',V,hk,Mem.perm (O:=.blk b (qM ek ev' (M++[(a,vb,c)]) (c+1))::R) ?_ p2.symm,λh=>(by cases h),next⟩;have e:(Obj.map ((M.map (mE ek ev')).toArray.push { key:=ek a,val:=ev' vb,born:=c }) (c+1))=qM ek ev' (M++[(a,vb,c)]) (c+1):=by simp[qM,mE]
  rw[e];exact hm1.put
theorem mapOld {X:TypeId} {j:Nat} {v0:β} (ho:ops[i]? = some ⟨none,.mapUpdate X x y z,T,pos,after,gd⟩) (hg:Gd ks ops gd) (K:KeyL P kt ek) (a:α) (vb:β) (hX:P.underlying X=some (.map kt et)) (hx:ev ks x=some (.map (some b))) (hy:ev ks y=some (ek a)) (hz:ev ks z=some (ev' vb)) (hold:fk a M 0=some (j,v0)) (hk0:∀ e,M[j]? = some e->e.1=a) (hp:Upd (.blk b (qM ek ev' M c)) (.blk b (qM ek ev' (mmod a vb M) c)) O O')
  (next:AtT cx n ks O' V P ops Qn t):AtT cx n ks O V P ops Qn (.n true i t):=
 .x ho hg λa' w hk hm=>by
  obtain⟨R,p1,p2⟩:=hp.perm;have hm1:=hm.perm p1;have hkey:((((M.map (mE ek ev')).toArray)[j]?).map (·.key)).getD (ek a)=ek a:=by
   simp only[List.getElem?_toArray,List.getElem?_map];cases hj:M[j]? with
   | none=>rfl
   | some e=>simp[mE,hk0 e hj]
  have hst:(Instr.keyThatStays (ek a) (ek a)).run P w=.ok (ek a) w:=by simp[Instr.keyThatStays,K.sb,Sem.run_pure]
  simp only[opW,execOp,hk.ev hx,hk.ev hy,hk.ev hz,Instr.mapUpdate,Sem.run_bind,run_underlying hX,Result.andThen_ok,qw hm1.blk,qM,K.ck,K.find a M,List.toList_toArray,hold,Option.map_some,hkey,hst,jZ _ hm1.blk,Sem.run_pure];refine⟨ks,O',V,hk,Mem.perm (O:=.blk b (qM ek ev' (mmod a vb M) c)::R) ?_ p2.symm,λh=>(by cases h),next⟩;have h3:=(fk_idx a M 0 j v0 hold).2.2 vb;have e:(Obj.map ((M.map (mE ek ev')).toArray.modify j λe=>{ e with key:=ek a,val:=ev' vb }) c)=qM ek ev' (mmod a vb M) c:=by
   simp only[qM,h3,Nat.sub_zero];congr 1;apply Array.ext';simp only[Array.toList_modify];apply List.ext_getElem?;intro q;simp only[List.getElem?_map,List.getElem?_modify];cases M[q]? with
   | none=>rfl
   | some e=>by_cases hq:j=q<;>simp[hq,mE]
  rw[e];exact hm1.put
theorem eraseIdx_map' {α β:Type} (f:α->β):∀ (l:List α) (k:Nat),(l.map f).eraseIdx k=(l.eraseIdx k).map f
 | [],_=>rfl
 | _::_,0=>rfl
 | _::l,k+1=>by simp[eraseIdx_map' f l k]
theorem mapDel {X:TypeId} {ts:Array TypeId} (ho:ops[i]? = some ⟨none,.call ⟨.builtin .delete,#[x,y],ts⟩,T,pos,after,gd⟩) (hg:Gd ks ops gd) (K:KeyL P kt ek) (a:α) (ev':β->Value) (hts:ts[0]? = some X) (hX:P.underlying X=some (.map kt et)) (hx:ev ks x=some (.map (some b))) (hy:ev ks y=some (ek a)) (hp:Upd (.blk b (qM ek ev' M c)) (.blk b (qM ek ev' (mdel a M) c)) O O')
  (next:AtT cx n ks O' V P ops Qn t):AtT cx n ks O V P ops Qn (.n true i t):=
 .x ho hg λa' w hk hm=>by
  obtain⟨R,p1,p2⟩:=hp.perm;have hm1:=hm.perm p1;have e0:(#[x,y]:Array Operand).map a'.eval=#[.map (some b),ek a]:=by simp[hk.ev hx,hk.ev hy]
  have e1:(#[Value.map (some b),ek a]:Array Value)[0]? = some (.map (some b)):=rfl
  have e2:(#[Value.map (some b),ek a]:Array Value)[1]? = some (ek a):=rfl
  have goal:∀ w',w'=w.putObj b (qM ek ev' (mdel a M) c)->∃ ks' O'' V',Kn cx n ks' (a'.put none (.tuple #[]))/\Mem cx O'' V' w'/\(true=false->∀ (u:World),Mem cx O'' V' u->Mem cx O V u)/\AtT cx n ks' O'' V' P ops Qn t:=λw' e=>by subst e;exact⟨ks,O',V,hk,hm1.put.perm p2.symm,λh=>(by cases h),next⟩
  simp only[opW,execOp,resolve,e0,Sem.run_bind,Sem.run_pure,Result.andThen_ok,invoke,builtin,Builtin.delete_,hts,e1,e2,run_underlying hX,qw hm1.blk,qM,K.ck,K.find a M,List.toList_toArray];cases hf:fk a M 0 with
  | none=>
   simp only[Option.map_none,Sem.run_bind,jZ _ hm1.blk,Result.andThen_ok,Sem.run_pure];refine goal _ ?_;rw[(fk_none a M 0 hf).2];rfl
  | some p=>simp only[Option.map_some,Sem.run_bind,jZ _ hm1.blk,Result.andThen_ok,Sem.run_pure];refine goal _ ?_;congr 1;have:=(fk_idx a M 0 p.1 p.2 hf).2.1;simp only[qM,this,Nat.sub_zero];congr 1;apply Array.ext';simp only[Array.toList_eraseIdxIfInBounds,List.toList_toArray];exact eraseIdx_map' _ _ _
theorem AtT.range {X:TypeId} (ho:ops[i]? = some ⟨some d,.range X x,T,pos,after,gd⟩) (hg:Gd ks ops gd) (hX:P.underlying X=some (.map kt et)) (hx:ev ks x=some (.map (some b))) (hp:zo (.blk b (qM ek ev' M c)) O R) (hn:d<n)
  (next:∀ r,AtT cx n ((d,.pointer (some ⟨r,0,none⟩))::ks) (.blk r (.mapIter (some b) c #[] c)::O) V P ops Qn t):AtT cx n ks O V P ops Qn (.n wr i t):=
 .x ho hg λa w hk hm=>by
  have hb:w.heap[b]? = some (.map (M.map (mE ek ev')).toArray c):=(hm.pick hp).blk
  simp only[opW,execOp,hk.ev hx,Instr.range,Sem.run_bind,run_underlying hX,Result.andThen_ok,qw hb,Sem.run_pure,run_newObj];exact⟨_,.blk w.heap.size (.mapIter (some b) c #[] c)::O,V,hk.put hn _,hm.alloc _,λ_ u hu=>hu.drop,next _⟩
theorem AtT.next {r since c0:Nat} {seen:Array Nat} (ho:ops[i]? = some ⟨some d,.next x false,T,pos,after,gd⟩) (hg:Gd ks ops gd) (hx:ev ks x=some (.pointer (some ⟨r,0,none⟩))) (hr:zo (.blk r (.mapIter (some b) since seen c0)) O R) (hb:zo (.blk b (qM ek ev' M c)) R R') (hold:∀ e∈M,e.2.2<since) (hsc:since<=c0) (hn:d<n)
  (next1:(∀ e∈M,e.2.2∈seen)->AtT cx n ((d,.tuple #[.bool false])::ks) O V P ops Qn t)
  (next2:∀ e∈M,e.2.2∉seen->AtT cx n ((d,.tuple #[.bool true,ek e.1,ev' e.2.1])::ks) (.blk r (.mapIter (some b) since (seen.push e.2.2) c)::R) V P ops Qn t):AtT cx n ks O V P ops Qn (.n true i t):=
 .x ho hg λa w hk hm=>by
  have hm1:=hm.pick hr
  have hm2:w.heap[b]? = some (.map (M.map (mE ek ev')).toArray c):=(hm1.perm (((hb.perm).cons _).trans (.swap _ _ _))).blk
  have h:=run_next_at (P:=P) w T r b since c0 seen _ c hm1.blk hm2 (λx hx=>by simp only[List.toList_toArray,List.mem_map]at hx;obtain⟨e,he,rfl⟩:=hx;exact hold e he) hsc
  rcases h with ⟨h0,h1⟩ | ⟨e,he,w1,hw1,h1⟩
  ·simp only[opW,execOp,hk.ev hx,Sem.run_bind,h1,Result.andThen_ok,Sem.run_pure];refine⟨_,O,V,hk.put hn _,hm,λh=>(by cases h),next1 λe he=>?_⟩;have h0':=Array.eq_empty_of_size_eq_zero h0;unfold leftOf at h0';rw[Array.filter_eq_empty_iff]at h0';have:=h0' (mE ek ev' e) (by rw[List.mem_toArray];exact List.mem_map_of_mem he);simpa [mE]using this
  ·simp only[opW,execOp,hk.ev hx,Sem.run_bind,h1,Result.andThen_ok,Sem.run_pure];unfold leftOf at he;simp only[Array.toList_filter,List.mem_filter,List.toList_toArray,List.mem_map]at he;obtain⟨⟨q,hq,rfl⟩,hs⟩:=he;have hmw:Mem cx (.blk r (.mapIter (some b) since seen c0)::R) V w1:=by
    rcases hw1 with rfl | rfl
    ·exact hm1
    ·exact hm1.ext (Below.refl _ w).drew
   exact⟨_,.blk r (.mapIter (some b) since (seen.push q.2.2) c)::R,V,hk.put hn _,hmw.put,λh=>(by cases h),next2 q hq (by simpa [mE]using hs)⟩
theorem AtT.entry {r since:Nat} {seen:Array Nat} {e:α×β×Nat} (ho:ops[i]? = some ⟨some d,.entry x,T,pos,after,gd⟩) (hg:Gd ks ops gd) (hx:ev ks x=some (.pointer (some ⟨r,0,none⟩))) (hr:zo (.blk r (.mapIter (some b) since (seen.push e.2.2) c)) O R) (hb:zo (.blk b (qM ek ev' M c)) R R') (he:e∈M) (hnd:(M.map (·.2.2)).Nodup) (hn:d<n)
  (next:AtT cx n ((d,.tuple #[ek e.1,ev' e.2.1])::ks) O V P ops Qn t):AtT cx n ks O V P ops Qn (.n wr i t):=
 .x ho hg λa w hk hm=>by
  have hm1:=hm.pick hr
  have hm2:w.heap[b]? = some (.map (M.map (mE ek ev')).toArray c):=(hm1.perm (((hb.perm).cons _).trans (.swap _ _ _))).blk
  have h:=run_entry_at (P:=P) w r b since seen _ c (mE ek ev' e) hm1.blk hm2 (by rw[List.toList_toArray];exact List.mem_map_of_mem he) (by simpa [Function.comp_def,mE]using hnd)
  simp only[opW,execOp,hk.ev hx,Sem.run_bind,h,Result.andThen_ok,Sem.run_pure];exact⟨_,O,V,hk.put hn _,hm,λ_ u hu=>hu,next⟩
end
theorem made_flat {α:Type} {enc:α->List Value} {z:α} {c:Array Value} (hz:enc z=c.toList) (hs:0<c.size):∀ n:Nat,(madeCells c (n*c.size)).toList=flat enc (List.replicate n z)
 | 0=>by simp[madeCells,flat]
 | n+1=>by
  have ih:=made_flat hz hs n
  simp only[madeCells,Array.toList_map,Array.toList_range]at ih⊢;have e:(n+1)*c.size=n*c.size+c.size:=by rw[Nat.add_mul,Nat.one_mul]
  rw[e,List.range_add,List.map_append,ih,List.replicate_succ',show flat enc (List.replicate n z++[z])=flat enc (List.replicate n z)++enc z from by simp[flat],hz];congr 1;rw[List.map_map];apply List.ext_getElem
  ·simp
  ·intro i h1 h2;simp at h1;simp[Nat.mod_eq_of_lt h1,h1]
section
variable {cx:Cx} {n:Nat} {ks:List (Nat×Value)} {O O' R R':List Own} {V:View} {P:Program} {ops:Array Oper} {Qn:Act->World->Prop} {t:Tr} {i d:Nat} {T:TypeId} {pos:String} {after:Array Edge} {gd:Option (Nat×Bool)} {x y z:Operand} {u v:Value} {wr:Bool}
theorem makeSl {α:Type} {enc:α->List Value} {za:α} {X E:TypeId} {zv:Value} {s by_ m:Nat} {k1 k2:IntKind} (ho:ops[i]? = some ⟨some d,.makeSlice X x y,T,pos,after,gd⟩) (hg:Gd ks ops gd) (enc':α->List Value) (he:enc'=enc) (hX:P.underlying X=some (.slice E)) (hE:rowB P E=some (zv,s,by_)) (hz:enc za=zv.cells.toList) (hs:zv.cells.size=s) (h0:0<s)
  (hx:ev ks x=some (.int k1 m)) (hy:ev ks y=some (.int k2 m)) (hby:by_*m<=281474976710656) (hm:m<=9223372036854775807) (hn:d<n)
  (next:∀ b,AtT cx n ((d,.slice (some ⟨b,0,none⟩) m m)::ks) (.blk b (LC (flat enc (List.replicate m za)) E)::O) V P ops Qn t):AtT cx n ks O V P ops Qn (.n wr i t):=
 .x ho hg λa w hk hmm=>by
  obtain⟨ti,hi,hzz,hsz,hbz⟩:=jk hE;have hb':(ti.bytes:Int)*(m:Int)<=281474976710656:=by
   rw[hbz];have h:((by_*m:Nat):Int)<=281474976710656:=by omega
   rwa[Int.natCast_mul]at h
  have hr':=run_make (P:=P) w X E ti zv hX hi hzz k1 k2 m m (by omega) (Int.le_refl _) hb' (by omega)
  simp only[Int.toNat_natCast]at hr';have e:(Obj.cells (madeCells zv.cells (m*ti.size)) E)=LC (flat enc (List.replicate m za)) E:=by rw[hsz,<-hs];show Obj.cells _ E (0,0)=Obj.cells _ E (0,0);congr 1;rw[<-made_flat hz (by omega) m]
  simp only[opW,execOp,hk.ev hx,hk.ev hy,Sem.run_bind,hr',Result.andThen_ok,Sem.run_pure,e];exact⟨_,.blk w.heap.size _::O,V,hk.put hn _,hmm.alloc _,λ_ u hu=>hu.drop,next _⟩
theorem xE {X:TypeId} {u:Value} (ho:ops[i]? = some ⟨some d,.slice X x none none none,T,pos,after,gd⟩) (hg:Gd ks ops gd) (hx:ev ks x=some v) (hr:∀ w,(Instr.sliceAt X v none none none).run P w=.ok u w) (hn:d<n)
  (next:AtT cx n ((d,u)::ks) O V P ops Qn t):AtT cx n ks O V P ops Qn (.q i t):=
 .q ho hg rfl hn (λa w hk hm=>by simp only[execOp,hk.ev hx,Option.map_none,Sem.run_bind,hr,Result.andThen_ok,Sem.run_pure]) next
theorem clearO {X E E':TypeId} {b m c:Nat} {zv:Value} {cs us:List Value} (ho:ops[i]? = some ⟨none,.call ⟨.builtin .clear,#[x],#[X]⟩,T,pos,after,gd⟩) (hg:Gd ks ops gd) (hX:P.underlying X=some (.slice E)) (hz:zK P E=some zv)
  (hx:ev ks x=some (.slice (some ⟨b,0,none⟩) (m+1) c)) (hu:(Builtin.zeroCells zv.cells (m+1)).toList=us) (hl:cs.length=us.length) (h1:us.all Value.oneCell'=true) (hup:Upd (.blk b (LC cs E')) (.blk b (LC us E')) O O')
  (next:AtT cx n ks O' V P ops Qn t):AtT cx n ks O V P ops Qn (.n true i t):=
 .x ho hg λa w hk hm=>by
  obtain⟨R,p1,p2⟩:=hup.perm;have hm1:=hm.perm p1;have e0:(#[x]:Array Operand).map a.eval=#[.slice (some ⟨b,0,none⟩) (m+1) c]:=by simp[hk.ev hx]
  obtain⟨w',hr,hgr,hh⟩:=zX (P:=P) us 0 0 cs w hm1.blk (by omega) (by simpa [List.all_eq_true]using h1);have hcs:cs.take (0+0)++us++cs.drop (0+0+us.length)=us:=by rw[<-hl];simp
  rw[hcs]at hh;have e1:(#[X]:Array TypeId)[0]? = some X:=rfl;have e2:(#[Value.slice (some ⟨b,0,none⟩) (m+1) c]:Array Value)[0]? = some (Value.slice (some ⟨b,0,none⟩) (m+1) c):=rfl;simp only[opW,execOp,resolve,e0,Sem.run_bind,Sem.run_pure,Result.andThen_ok,invoke,builtin,Builtin.clear_,e1,e2,run_underlying hX,run_zero hz,hu,hr];exact⟨ks,O',V,hk,(hm1.set hgr hh).perm p2.symm,λh=>(by cases h),next⟩
end
theorem flat_set {α:Type} {enc:α->List Value} {s:Nat} (he:∀ x,(enc x).length=s):∀ (l:List α) (i:Nat) (r:α),i<l.length->(flat enc l).take (i*s)++enc r++(flat enc l).drop (i*s+s)=flat enc (l.set i r)
 | x::l,0,r,_=>by
  simp only[Nat.zero_mul,List.take_zero,List.nil_append,Nat.zero_add,List.set_cons_zero,flat,List.flatMap_cons];rw[List.drop_append,he x,Nat.sub_self,List.drop_eq_nil_of_le (by rw[he x];exact Nat.le_refl _)];simp
 | x::l,i+1,r,h=>by
  have ih:=flat_set he l i r (by simpa using h)
  simp only[flat,List.flatMap_cons,List.set_cons_succ]at ih⊢;rw[<-ih];have e1:(i+1)*s=s+i*s:=by rw[Nat.add_mul,Nat.one_mul,Nat.add_comm]
  have e2:s+i*s+s=s+(i*s+s):=by omega
  rw[e1,e2];rw[List.take_append,List.drop_append,he x];rw[List.take_of_length_le (by rw[he x];omega),List.drop_eq_nil_of_le (by rw[he x];omega)];simp[Nat.add_sub_cancel_left,List.append_assoc]
theorem setAt_of {l l':List Value} {n:Nat} {v:Value} (hl:n<l.length) (h:l.set n v=l'):SetAt l n v l':=by
 subst h;induction l generalizing n with
 | nil=>simp at hl
 | cons x l ih=>
  cases n with
  | zero=>exact .here
  | succ n=>exact .there (ih (by simpa using hl))
def SubF:List Nat->List (Nat×Value)->List (Nat×Value)->Prop
 | _,[],_=>True
 | seen,(i,v)::l,ks=>(bif seen.contains i then True else look ks i=some v)/\SubF (i::seen) l ks
theorem SubF.look:∀ {ks':List (Nat×Value)} {seen:List Nat} {ks:List (Nat×Value)},SubF seen ks' ks->∀ i v,seen.contains i=false->look ks' i=some v->Go.Lw.look ks i=some v
 | [],_,_,_,i,v,_,hv=>by cases hv
 | (j,u)::l,seen,ks,h,i,v,hs,hv=>by
  simp only[Go.Lw.look]at hv;cases hb:Nat.beq j i with
  | true=>
   rw[hb]at hv;simp at hv;subst hv;have:=Nat.eq_of_beq_eq_true hb;subst this;have h1:=h.1;rw[hs]at h1;exact h1
  | false=>
   rw[hb]at hv;simp at hv;refine SubF.look h.2 i v ?_ hv;have hne:i≠j:=λe=>by subst e;rw[Nat.beq_refl]at hb;cases hb
   simp only[List.contains_cons,hs,Bool.or_false,beq_eq_false_iff_ne];exact hne
section
variable {cx:Cx} {n:Nat} {ks:List (Nat×Value)} {O:List Own} {V:View} {P:Program} {ops:Array Oper} {Q:Exit->Act->World->Prop} {ro:Option Nat} {id:Nat}
variable {Qn:Act->World->Prop} {t:Tr} {O1:List Own} {V1:View}
theorem Kn.set {cx:Cx} {n:Nat} {ks:List (Nat×Value)} {a:Act} {d:Nat} {v v':Value} (hk:Kn cx n ks a) (hd:look ks d=some v) (e:v=v'):Kn cx n ((d,v')::ks) a:=by
 subst e;exact⟨hk.defers,hk.size,λi u hv=>by
  simp only[look]at hv;cases hb:Nat.beq d i with
  | true=>rw[hb]at hv;simp at hv;subst hv;have:=Nat.eq_of_beq_eq_true hb;subst this;exact hk.known _ _ hd
  | false=>rw[hb]at hv;simp at hv;exact hk.known _ _ hv⟩
theorem xh {d:Nat} {p:Prop} [Decidable p] (hd:look ks d=some (.bool (decide p))) (hp:¬ p) (h:AtT cx n ((d,.bool false)::ks) O V P ops Qn t):AtT cx n ks O V P ops Qn t:=λa w hk hm=>h a w (hk.set hd (by rw[decide_eq_false hp])) hm
theorem xk {d:Nat} {p:Prop} [Decidable p] (hd:look ks d=some (.bool (decide p))) (hp:p) (h:AtT cx n ((d,.bool true)::ks) O V P ops Qn t):AtT cx n ks O V P ops Qn t:=λa w hk hm=>h a w (hk.set hd (by rw[decide_eq_true hp])) hm
theorem xy {d:Nat} {b c:Bool} (hd:look ks d=some (.bool b)) (hp:b=c) (h:AtT cx n ((d,.bool c)::ks) O V P ops Qn t):AtT cx n ks O V P ops Qn t:=λa w hk hm=>h a w (hk.set hd (by rw[hp])) hm
theorem xV {d:Nat} {p:Prop} [Decidable p] (hd:look ks d=some (.bool (decide p))) (hp:¬ p) (h:AtC cx n ((d,.bool false)::ks) O V O1 V1 P ops Qn t):AtC cx n ks O V O1 V1 P ops Qn t:=λh0 a w hk hm=>h h0 a w (hk.set hd (by rw[decide_eq_false hp])) hm
theorem xW {d:Nat} {p:Prop} [Decidable p] (hd:look ks d=some (.bool (decide p))) (hp:p) (h:AtC cx n ((d,.bool true)::ks) O V O1 V1 P ops Qn t):AtC cx n ks O V O1 V1 P ops Qn t:=λh0 a w hk hm=>h h0 a w (hk.set hd (by rw[decide_eq_true hp])) hm
theorem xG {d:Nat} {b c:Bool} (hd:look ks d=some (.bool b)) (hp:b=c) (h:AtC cx n ((d,.bool c)::ks) O V O1 V1 P ops Qn t):AtC cx n ks O V O1 V1 P ops Qn t:=λh0 a w hk hm=>h h0 a w (hk.set hd (by rw[hp])) hm
theorem Zb {d:Nat} {b:Bool} (hd:look ks d=some (.bool b)) (ht:b=true->AtC cx n ((d,.bool true)::ks) O V O1 V1 P ops Qn t) (hf:b=false->AtC cx n ((d,.bool false)::ks) O V O1 V1 P ops Qn t):AtC cx n ks O V O1 V1 P ops Qn t:=by
 cases hb:b
 ·exact xG hd hb (hf hb)
 ·exact xG hd hb (ht hb)
theorem Zc {d:Nat} {p:Prop} [Decidable p] (hd:look ks d=some (.bool (decide p))) (ht:p->AtC cx n ((d,.bool true)::ks) O V O1 V1 P ops Qn t) (hf:¬ p->AtC cx n ((d,.bool false)::ks) O V O1 V1 P ops Qn t):AtC cx n ks O V O1 V1 P ops Qn t:=by
 by_cases hp:p
 ·exact xW hd hp (ht hp)
 ·exact xV hd hp (hf hp)
end
section
variable {cx:Cx} {n:Nat} {ks:List (Nat×Value)} {O O' R R' O1:List Own} {V V1:View} {P:Program} {ops:Array Oper} {Qn:Act->World->Prop} {t:Tr} {i d:Nat} {T:TypeId} {pos:String} {after:Array Edge} {gd:Option (Nat×Bool)} {x y z:Operand} {u v:Value} {wr:Bool} {k:IntKind} {p q:Int} {X Y:TypeId} {K:Act->World->Prop} {Q:Exit->Act->World->Prop} {ro:Option Nat} {id:Nat}
theorem ze {x:Operand} {v:Value} (next:AtT cx n ((d,v)::ks) O V P ops Qn t) (ho:ops[i]? = some ⟨some d,.move x,T,pos,after,gd⟩:=by rfl) (hg:Gd ks ops gd:=by first | exact trivial | exact⟨_,_,rfl,rfl,rfl⟩) (hx:ev ks x=some v:=by rfl) (hn:d<n:=by decide):AtT cx n ks O V P ops Qn (.q i t):=AtT.move ho hg hx hn next
theorem zu {x:Operand} {v:Value} (next:AtT cx n ((d,v)::ks) O V P ops Qn t) (ho:ops[i]? = some ⟨some d,.assign x,T,pos,after,gd⟩:=by rfl) (hg:Gd ks ops gd:=by first | exact trivial | exact⟨_,_,rfl,rfl,rfl⟩) (hx:ev ks x=some v:=by rfl) (hn:d<n:=by decide):AtT cx n ks O V P ops Qn (.q i t):=AtT.assign ho hg hx hn next
theorem zF {c x y:Operand} {b:Bool} {u v:Value} (next:AtT cx n ((d,bif b then u else v)::ks) O V P ops Qn t) (ho:ops[i]? = some ⟨some d,.pick c x y,T,pos,after,gd⟩:=by rfl) (hg:Gd ks ops gd:=by first | exact trivial | exact⟨_,_,rfl,rfl,rfl⟩) (hc:ev ks c=some (.bool b):=by rfl) (hx:ev ks x=some u:=by rfl) (hy:ev ks y=some v:=by rfl) (hn:d<n:=by decide):AtT cx n ks O V P ops Qn (.q i t):=AtT.pick ho hg hc hx hy hn next
theorem kaddW  (next:AtT cx n ((d,.int k (k.wrap (p+q)))::ks) O V P ops Qn t) (ho:ops[i]? = some ⟨some d,.binOp .add X x y Y,T,pos,after,gd⟩:=by rfl) (hg:Gd ks ops gd:=by first | exact trivial | exact⟨_,_,rfl,rfl,rfl⟩) (hx:ev ks x=some (.int k p):=by rfl) (hy:ev ks y=some (.int k q):=by rfl) (hn:d<n:=by decide):AtT cx n ks O V P ops Qn (.q i t):=AtT.addW ho hg hx hy hn next
theorem ksubW  (next:AtT cx n ((d,.int k (k.wrap (p-q)))::ks) O V P ops Qn t) (ho:ops[i]? = some ⟨some d,.binOp .sub X x y Y,T,pos,after,gd⟩:=by rfl) (hg:Gd ks ops gd:=by first | exact trivial | exact⟨_,_,rfl,rfl,rfl⟩) (hx:ev ks x=some (.int k p):=by rfl) (hy:ev ks y=some (.int k q):=by rfl) (hn:d<n:=by decide):AtT cx n ks O V P ops Qn (.q i t):=AtT.subW ho hg hx hy hn next
theorem kmulW  (next:AtT cx n ((d,.int k (k.wrap (p*q)))::ks) O V P ops Qn t) (ho:ops[i]? = some ⟨some d,.binOp .mul X x y Y,T,pos,after,gd⟩:=by rfl) (hg:Gd ks ops gd:=by first | exact trivial | exact⟨_,_,rfl,rfl,rfl⟩) (hx:ev ks x=some (.int k p):=by rfl) (hy:ev ks y=some (.int k q):=by rfl) (hn:d<n:=by decide):AtT cx n ks O V P ops Qn (.q i t):=AtT.mulW ho hg hx hy hn next
theorem kadd  (next:AtT cx n ((d,.int .i64 (p+q))::ks) O V P ops Qn t) (ho:ops[i]? = some ⟨some d,.binOp .add X x y Y,T,pos,after,gd⟩:=by rfl) (hg:Gd ks ops gd:=by first | exact trivial | exact⟨_,_,rfl,rfl,rfl⟩) (hx:ev ks x=some (.int .i64 p):=by rfl) (hy:ev ks y=some (.int .i64 q):=by rfl) (hf:Fit (p+q):=by first | assumption | exact Fit.of (by omega) (by omega)) (hn:d<n:=by decide):AtT cx n ks O V P ops Qn (.q i t):=AtT.add ho hg hx hy hn hf next
theorem ksubt  (next:AtT cx n ((d,.int .i64 (p-q))::ks) O V P ops Qn t) (ho:ops[i]? = some ⟨some d,.binOp .sub X x y Y,T,pos,after,gd⟩:=by rfl) (hg:Gd ks ops gd:=by first | exact trivial | exact⟨_,_,rfl,rfl,rfl⟩) (hx:ev ks x=some (.int .i64 p):=by rfl) (hy:ev ks y=some (.int .i64 q):=by rfl) (hf:Fit (p-q):=by first | assumption | exact Fit.of (by omega) (by omega)) (hn:d<n:=by decide):AtT cx n ks O V P ops Qn (.q i t):=subt ho hg hx hy hn hf next
theorem kmul  (next:AtT cx n ((d,.int .i64 (p*q))::ks) O V P ops Qn t) (ho:ops[i]? = some ⟨some d,.binOp .mul X x y Y,T,pos,after,gd⟩:=by rfl) (hg:Gd ks ops gd:=by first | exact trivial | exact⟨_,_,rfl,rfl,rfl⟩) (hx:ev ks x=some (.int .i64 p):=by rfl) (hy:ev ks y=some (.int .i64 q):=by rfl) (hf:Fit (p*q):=by first | assumption | exact Fit.of (by omega) (by omega)) (hn:d<n:=by decide):AtT cx n ks O V P ops Qn (.q i t):=AtT.mul ho hg hx hy hn hf next
theorem kquo  (next:AtT cx n ((d,.int .i64 (p.tdiv q))::ks) O V P ops Qn t) (ho:ops[i]? = some ⟨some d,.binOp .quo X x y Y,T,pos,after,gd⟩:=by rfl) (hg:Gd ks ops gd:=by first | exact trivial | exact⟨_,_,rfl,rfl,rfl⟩) (hx:ev ks x=some (.int .i64 p):=by rfl) (hy:ev ks y=some (.int .i64 q):=by rfl) (hq:q≠0:=by omega) (hf:Fit (p.tdiv q):=by first | assumption | exact Fit.of (by omega) (by omega)) (hn:d<n:=by decide):AtT cx n ks O V P ops Qn (.q i t):=AtT.quo ho hg hx hy hn hq hf next
theorem keqI  (next:AtT cx n ((d,.bool (decide (p=q)))::ks) O V P ops Qn t) (ho:ops[i]? = some ⟨some d,.binOp .eql X x y Y,T,pos,after,gd⟩:=by rfl) (hg:Gd ks ops gd:=by first | exact trivial | exact⟨_,_,rfl,rfl,rfl⟩) (hx:ev ks x=some (.int k p):=by rfl) (hy:ev ks y=some (.int k q):=by rfl) (hn:d<n:=by decide):AtT cx n ks O V P ops Qn (.q i t):=xJ ho hg hx hy hn next
theorem kJ  (next:AtT cx n ((d,.bool (decide (p≠q)))::ks) O V P ops Qn t) (ho:ops[i]? = some ⟨some d,.binOp .neq X x y Y,T,pos,after,gd⟩:=by rfl) (hg:Gd ks ops gd:=by first | exact trivial | exact⟨_,_,rfl,rfl,rfl⟩) (hx:ev ks x=some (.int k p):=by rfl) (hy:ev ks y=some (.int k q):=by rfl) (hn:d<n:=by decide):AtT cx n ks O V P ops Qn (.q i t):=neI ho hg hx hy hn next
theorem qc  (next:AtT cx n ((d,.bool (decide (p<q)))::ks) O V P ops Qn t) (ho:ops[i]? = some ⟨some d,.binOp .lss X x y Y,T,pos,after,gd⟩:=by rfl) (hg:Gd ks ops gd:=by first | exact trivial | exact⟨_,_,rfl,rfl,rfl⟩) (hx:ev ks x=some (.int k p):=by rfl) (hy:ev ks y=some (.int k q):=by rfl) (hn:d<n:=by decide):AtT cx n ks O V P ops Qn (.q i t):=AtT.lss ho hg hx hy hn next
theorem kleq  (next:AtT cx n ((d,.bool (decide (p<=q)))::ks) O V P ops Qn t) (ho:ops[i]? = some ⟨some d,.binOp .leq X x y Y,T,pos,after,gd⟩:=by rfl) (hg:Gd ks ops gd:=by first | exact trivial | exact⟨_,_,rfl,rfl,rfl⟩) (hx:ev ks x=some (.int k p):=by rfl) (hy:ev ks y=some (.int k q):=by rfl) (hn:d<n:=by decide):AtT cx n ks O V P ops Qn (.q i t):=AtT.leq ho hg hx hy hn next
theorem kgtr  (next:AtT cx n ((d,.bool (decide (q<p)))::ks) O V P ops Qn t) (ho:ops[i]? = some ⟨some d,.binOp .gtr X x y Y,T,pos,after,gd⟩:=by rfl) (hg:Gd ks ops gd:=by first | exact trivial | exact⟨_,_,rfl,rfl,rfl⟩) (hx:ev ks x=some (.int k p):=by rfl) (hy:ev ks y=some (.int k q):=by rfl) (hn:d<n:=by decide):AtT cx n ks O V P ops Qn (.q i t):=AtT.gtr ho hg hx hy hn next
theorem kgeq  (next:AtT cx n ((d,.bool (decide (q<=p)))::ks) O V P ops Qn t) (ho:ops[i]? = some ⟨some d,.binOp .geq X x y Y,T,pos,after,gd⟩:=by rfl) (hg:Gd ks ops gd:=by first | exact trivial | exact⟨_,_,rfl,rfl,rfl⟩) (hx:ev ks x=some (.int k p):=by rfl) (hy:ev ks y=some (.int k q):=by rfl) (hn:d<n:=by decide):AtT cx n ks O V P ops Qn (.q i t):=AtT.geq ho hg hx hy hn next
theorem knegW  (next:AtT cx n ((d,.int k (k.wrap (-p)))::ks) O V P ops Qn t) (ho:ops[i]? = some ⟨some d,.unOp .neg X x,T,pos,after,gd⟩:=by rfl) (hg:Gd ks ops gd:=by first | exact trivial | exact⟨_,_,rfl,rfl,rfl⟩) (hx:ev ks x=some (.int k p):=by rfl) (hn:d<n:=by decide):AtT cx n ks O V P ops Qn (.q i t):=AtT.negW ho hg hx hn next
theorem kneg  (next:AtT cx n ((d,.int .i64 (-p))::ks) O V P ops Qn t) (ho:ops[i]? = some ⟨some d,.unOp .neg X x,T,pos,after,gd⟩:=by rfl) (hg:Gd ks ops gd:=by first | exact trivial | exact⟨_,_,rfl,rfl,rfl⟩) (hx:ev ks x=some (.int .i64 p):=by rfl) (hf:Fit (-p):=by first | assumption | exact Fit.of (by omega) (by omega)) (hn:d<n:=by decide):AtT cx n ks O V P ops Qn (.q i t):=AtT.neg ho hg hx hn hf next
theorem xn {b:Bool} (next:AtT cx n ((d,.bool (!b))::ks) O V P ops Qn t) (ho:ops[i]? = some ⟨some d,.unOp .not X x,T,pos,after,gd⟩:=by rfl) (hg:Gd ks ops gd:=by first | exact trivial | exact⟨_,_,rfl,rfl,rfl⟩) (hx:ev ks x=some (.bool b):=by rfl) (hn:d<n:=by decide):AtT cx n ks O V P ops Qn (.q i t):=AtT.not ho hg hx hn next
theorem kconv {src:TypeId} {k':IntKind} (hs:(P.underlying src).isSome=true) (hX:P.underlying X=some (.int k)) (next:AtT cx n ((d,.int k (k.wrap p))::ks) O V P ops Qn t) (ho:ops[i]? = some ⟨some d,.convert src X x,T,pos,after,gd⟩:=by rfl) (hg:Gd ks ops gd:=by first | exact trivial | exact⟨_,_,rfl,rfl,rfl⟩) (hx:ev ks x=some (.int k' p):=by rfl) (hn:d<n:=by decide):AtT cx n ks O V P ops Qn (.q i t):=xK ho hg hs hX hx hn next
theorem kmax2  (next:AtT cx n ((d,.int k (max p q))::ks) O V P ops Qn t) (ho:ops[i]? = some ⟨some d,.call ⟨.builtin .max,#[x,y],#[X,Y]⟩,T,pos,after,gd⟩:=by rfl) (hg:Gd ks ops gd:=by first | exact trivial | exact⟨_,_,rfl,rfl,rfl⟩) (hx:ev ks x=some (.int k p):=by rfl) (hy:ev ks y=some (.int k q):=by rfl) (hn:d<n:=by decide):AtT cx n ks O V P ops Qn (.q i t):=AtT.max2 ho hg hx hy hn next
theorem kmin2  (next:AtT cx n ((d,.int k (min p q))::ks) O V P ops Qn t) (ho:ops[i]? = some ⟨some d,.call ⟨.builtin .min,#[x,y],#[X,Y]⟩,T,pos,after,gd⟩:=by rfl) (hg:Gd ks ops gd:=by first | exact trivial | exact⟨_,_,rfl,rfl,rfl⟩) (hx:ev ks x=some (.int k p):=by rfl) (hy:ev ks y=some (.int k q):=by rfl) (hn:d<n:=by decide):AtT cx n ks O V P ops Qn (.q i t):=AtT.min2 ho hg hx hy hn next
theorem kload {X:TypeId} {p:Addr} {s:Nat} (hT:tkB P X=some (false,s)) (next:AtT cx n ((d,v)::ks) O V P ops Qn t) (ho:ops[i]? = some ⟨some d,.load X x,T,pos,after,gd⟩:=by rfl) (hg:Gd ks ops gd:=by first | exact trivial | exact⟨_,_,rfl,rfl,rfl⟩) (hx:ev ks x=some (.pointer (some p)):=by rfl) (hc:jb V p=some v:=by first | exact vcell_of (by assumption) (by rfl) | exact vcell_of0 (by assumption) (by rfl) | exact vcell_of (Cells.le (by assumption) (by assumption)) (by rfl) | exact vcell_of0 (Cells.le (by assumption) (by assumption)) (by rfl)) (hn:d<n:=by decide):AtT cx n ks O V P ops Qn (.q i t):=AtT.load ho hg hx hT hc hn next
theorem kloadA {X:TypeId} {p:Addr} {us:List Value} {m:Nat} (hT:tkB P X=some (true,m)) (next:AtT cx n ((d,.agg us.toArray)::ks) O V P ops Qn t) (ho:ops[i]? = some ⟨some d,.load X x,T,pos,after,gd⟩:=by rfl) (hg:Gd ks ops gd:=by first | exact trivial | exact⟨_,_,rfl,rfl,rfl⟩) (hx:ev ks x=some (.pointer (some p)):=by rfl) (hc:Cells V p us:=by first | assumption | exact Cells.le (by assumption) (by assumption)) (hl:us.length=m:=by rfl) (hn:d<n:=by decide):AtT cx n ks O V P ops Qn (.q i t):=loadA ho hg hx hT hc hl hn next
theorem kloadO {X:TypeId} {b off:Nat} {cs:List Value} {E:TypeId} {fr:Nat×Nat} {s:Nat} (hT:tkB P X=some (false,s)) (next:AtT cx n ((d,v)::ks) O V P ops Qn t) (ho:ops[i]? = some ⟨some d,.load X x,T,pos,after,gd⟩:=by rfl) (hg:Gd ks ops gd:=by first | exact trivial | exact⟨_,_,rfl,rfl,rfl⟩) (hx:ev ks x=some (.pointer (some ⟨b,off,none⟩)):=by rfl) (hp:zo (.blk b (LC cs E fr)) O R:=by repeat(first | exact zo.here | apply zo.there)) (hc:cs[off]? = some v:=by rfl) (hn:d<n:=by decide):AtT cx n ks O V P ops Qn (.q i t):=jM ho hg hx hT hp hc hn next
theorem kloadOA {X:TypeId} {b:Nat} {cs:List Value} {E:TypeId} {fr:Nat×Nat} {m:Nat} (hT:tkB P X=some (true,m)) (next:AtT cx n ((d,.agg cs.toArray)::ks) O V P ops Qn t) (ho:ops[i]? = some ⟨some d,.load X x,T,pos,after,gd⟩:=by rfl) (hg:Gd ks ops gd:=by first | exact trivial | exact⟨_,_,rfl,rfl,rfl⟩) (hx:ev ks x=some (.pointer (some ⟨b,0,none⟩)):=by rfl) (hp:zo (.blk b (LC cs E fr)) O R:=by repeat(first | exact zo.here | apply zo.there)) (hl:cs.length=m:=by rfl) (hn:d<n:=by decide):AtT cx n ks O V P ops Qn (.q i t):=loadOA ho hg hx hT hp hl hn next
theorem kloadOP {X:TypeId} {b off:Nat} {cs us:List Value} {E:TypeId} {fr:Nat×Nat} {m:Nat} (hT:tkB P X=some (true,m)) (next:AtT cx n ((d,.agg us.toArray)::ks) O V P ops Qn t) (ho:ops[i]? = some ⟨some d,.load X x,T,pos,after,gd⟩:=by rfl) (hg:Gd ks ops gd:=by first | exact trivial | exact⟨_,_,rfl,rfl,rfl⟩) (hx:ev ks x=some (.pointer (some ⟨b,off,none⟩)):=by rfl) (hp:zo (.blk b (LC cs E fr)) O R:=by repeat(first | exact zo.here | apply zo.there)) (hu:(cs.drop off).take m=us:=by rfl) (hl:us.length=m:=by rfl) (hn:d<n:=by decide):AtT cx n ks O V P ops Qn (.q i t):=loadOP ho hg hx hT hp hu hl hn next
theorem kfield {S f:Nat} {p:Addr} {k:Nat} (hf:foB P S f=some k) (next:AtT cx n ((d,.pointer (some (p.add k)))::ks) O V P ops Qn t) (ho:ops[i]? = some ⟨some d,.fieldAddr S x f,T,pos,after,gd⟩:=by rfl) (hg:Gd ks ops gd:=by first | exact trivial | exact⟨_,_,rfl,rfl,rfl⟩) (hx:ev ks x=some (.pointer (some p)):=by rfl) (hn:d<n:=by decide):AtT cx n ks O V P ops Qn (.q i t):=AtT.field ho hg hx hf hn next
theorem kfield2 {S f:Nat} {p:Addr} {j k:Nat} (hf:foB P S f=some k) (next:AtT cx n ((d,.pointer (some (p.add (j+k))))::ks) O V P ops Qn t) (ho:ops[i]? = some ⟨some d,.fieldAddr S x f,T,pos,after,gd⟩:=by rfl) (hg:Gd ks ops gd:=by first | exact trivial | exact⟨_,_,rfl,rfl,rfl⟩) (hx:ev ks x=some (.pointer (some (p.add j))):=by rfl) (hn:d<n:=by decide):AtT cx n ks O V P ops Qn (.q i t):=field2 ho hg hx hf hn next
theorem kfieldO {S f:Nat} {b off:Nat} {k:Nat} (hf:foB P S f=some k) (next:AtT cx n ((d,.pointer (some ⟨b,off+k,none⟩))::ks) O V P ops Qn t) (ho:ops[i]? = some ⟨some d,.fieldAddr S x f,T,pos,after,gd⟩:=by rfl) (hg:Gd ks ops gd:=by first | exact trivial | exact⟨_,_,rfl,rfl,rfl⟩) (hx:ev ks x=some (.pointer (some ⟨b,off,none⟩)):=by rfl) (hn:d<n:=by decide):AtT cx n ks O V P ops Qn (.q i t):=fieldO ho hg hx hf hn next
theorem jh {p:Addr} (next:AtT cx n ((d,.pointer (some p))::ks) O V P ops Qn t) (ho:ops[i]? = some ⟨some d,.nilCheck x,T,pos,after,gd⟩:=by rfl) (hg:Gd ks ops gd:=by first | exact trivial | exact⟨_,_,rfl,rfl,rfl⟩) (hx:ev ks x=some (.pointer (some p)):=by rfl) (hn:d<n:=by decide):AtT cx n ks O V P ops Qn (.q i t):=AtT.nil ho hg hx hn next
theorem kZ {α:Type} {X E:TypeId} {enc:α->List Value} {s:Nat} {l:List α} {k:IntKind} {j:Int} {ag:Bool} (hX:P.underlying X=some (.slice E)) (hE:tkB P E=some (ag,s)) (next:∀ (p:Addr) (e:α),l[j.toNat]? = some e->Cells V p (enc e)->AtT cx n ((d,.pointer (some p))::ks) O V P ops Qn t) (ho:ops[i]? = some ⟨some d,.indexAddr X x y,T,pos,after,gd⟩:=by rfl) (hg:Gd ks ops gd:=by first | exact trivial | exact⟨_,_,rfl,rfl,rfl⟩) (hx:ev ks x=some v:=by rfl) (hy:ev ks y=some (.int k j):=by rfl) (hl:Sl V enc s v l:=by first | assumption | exact Sl.le (by assumption) (by assumption)) (h0:0<=j:=by omega) (h1:j<l.length:=by omega) (hn:d<n:=by decide):AtT cx n ks O V P ops Qn (.q i t):=AtT.idx ho hg hX hE hx hl hy h0 h1 hn next
theorem kidxA {X E:TypeId} {len s:Nat} {k:IntKind} {j:Int} {b off:Nat} {ag:Bool} (hX:P.underlying X=some (.array len E)) (hE:tkB P E=some (ag,s)) (next:AtT cx n ((d,.pointer (some ⟨b,off+j.toNat*s,none⟩))::ks) O V P ops Qn t) (ho:ops[i]? = some ⟨some d,.indexAddr X x y,T,pos,after,gd⟩:=by rfl) (hg:Gd ks ops gd:=by first | exact trivial | exact⟨_,_,rfl,rfl,rfl⟩) (hx:ev ks x=some (.pointer (some ⟨b,off,none⟩)):=by rfl) (hy:ev ks y=some (.int k j):=by rfl) (h0:0<=j:=by omega) (h1:j<len:=by omega) (hn:d<n:=by decide):AtT cx n ks O V P ops Qn (.q i t):=idxA ho hg hX hE hx hy h0 h1 hn next
theorem kidxO {X E:TypeId} {len cap s:Nat} {k:IntKind} {j:Int} {b off:Nat} {ag:Bool} (hX:P.underlying X=some (.slice E)) (hE:tkB P E=some (ag,s)) (next:AtT cx n ((d,.pointer (some ⟨b,off+j.toNat*s,none⟩))::ks) O V P ops Qn t) (ho:ops[i]? = some ⟨some d,.indexAddr X x y,T,pos,after,gd⟩:=by rfl) (hg:Gd ks ops gd:=by first | exact trivial | exact⟨_,_,rfl,rfl,rfl⟩) (hx:ev ks x=some (.slice (some ⟨b,off,none⟩) len cap):=by rfl) (hy:ev ks y=some (.int k j):=by rfl) (h0:0<=j:=by omega) (h1:j<len:=by omega) (hn:d<n:=by decide):AtT cx n ks O V P ops Qn (.q i t):=idxO ho hg hX hE hx hy h0 h1 hn next
theorem klenS {α:Type} {X E:TypeId} {enc:α->List Value} {s:Nat} {l:List α} (hX:P.underlying X=some (.slice E)) (next:AtT cx n ((d,.int .i64 l.length)::ks) O V P ops Qn t) (ho:ops[i]? = some ⟨some d,.call ⟨.builtin .len,#[x],#[X]⟩,T,pos,after,gd⟩:=by rfl) (hg:Gd ks ops gd:=by first | exact trivial | exact⟨_,_,rfl,rfl,rfl⟩) (hx:ev ks x=some v:=by rfl) (hl:Sl V enc s v l:=by first | assumption | exact Sl.le (by assumption) (by assumption)) (hn:d<n:=by decide):AtT cx n ks O V P ops Qn (.q i t):=xL ho hg hX hx hl hn next
theorem klenR {X E:TypeId} {a:Option Addr} {m cap:Nat} (hX:P.underlying X=some (.slice E)) (next:AtT cx n ((d,.int .i64 m)::ks) O V P ops Qn t) (ho:ops[i]? = some ⟨some d,.call ⟨.builtin .len,#[x],#[X]⟩,T,pos,after,gd⟩:=by rfl) (hg:Gd ks ops gd:=by first | exact trivial | exact⟨_,_,rfl,rfl,rfl⟩) (hx:ev ks x=some (.slice a m cap):=by rfl) (hn:d<n:=by decide):AtT cx n ks O V P ops Qn (.q i t):=lenR ho hg hX hx hn next
theorem zW {E:TypeId} {z:Value} {cs:List Value} (hz:zK P E=some z) (next:∀ b,AtT cx n ((d,.pointer (some ⟨b,0,none⟩))::ks) (.blk b (LC cs E)::O) V P ops Qn t) (ho:ops[i]? = some ⟨some d,.alloc E,T,pos,after,gd⟩:=by rfl) (hg:Gd ks ops gd:=by first | exact trivial | exact⟨_,_,rfl,rfl,rfl⟩) (hc:z.cells=cs.toArray:=by rfl) (hn:d<n:=by decide):AtT cx n ks O V P ops Qn (.n wr i t):=AtT.alloc ho hg hz hc hn next
theorem qQ {E:TypeId} {cs:List Value} (next:∀ b,AtT cx n ((d,.pointer (some ⟨b,0,none⟩))::ks) (.blk b (LC cs E)::O) V P ops Qn t) (ho:ops[i]? = some ⟨some d,.box E x,T,pos,after,gd⟩:=by rfl) (hg:Gd ks ops gd:=by first | exact trivial | exact⟨_,_,rfl,rfl,rfl⟩) (hx:ev ks x=some v:=by rfl) (hc:v.cells=cs.toArray:=by rfl) (hn:d<n:=by decide):AtT cx n ks O V P ops Qn (.n wr i t):=AtT.box ho hg hx hc hn next
theorem qD {X:TypeId} {ps:List (Nat×Operand)} {vs:List (Nat×Value)} (hr:∀ w,(Instr.build X vs.toArray).run P w=.ok v w) (next:AtT cx n ((d,v)::ks) O V P ops Qn t) (ho:ops[i]? = some ⟨some d,.build X ps.toArray,T,pos,after,gd⟩:=by rfl) (hg:Gd ks ops gd:=by first | exact trivial | exact⟨_,_,rfl,rfl,rfl⟩) (hp:evp ks ps=some vs:=by rfl) (hn:d<n:=by decide):AtT cx n ks O V P ops Qn (.q i t):=AtT.build ho hg hp hr hn next
theorem kbslice {X E:TypeId} {m:Nat} {cs:List Value} {ps:List (Nat×Operand)} {vs:List (Nat×Value)} (hr:∀ w,(Instr.buildSlice X m vs.toArray).run P w=.ok (.slice (some ⟨w.heap.size,0,none⟩) m m) (w.alloc (LC cs E))) (next:∀ b,AtT cx n ((d,.slice (some ⟨b,0,none⟩) m m)::ks) (.blk b (LC cs E)::O) V P ops Qn t) (ho:ops[i]? = some ⟨some d,.buildSlice X m ps.toArray,T,pos,after,gd⟩:=by rfl) (hg:Gd ks ops gd:=by first | exact trivial | exact⟨_,_,rfl,rfl,rfl⟩) (hp:evp ks ps=some vs:=by rfl) (hn:d<n:=by decide):AtT cx n ks O V P ops Qn (.n wr i t):=bslice ho hg hp hr hn next
theorem kfn {f:Fn} {fs cs:List Operand} {us vs:List Value} (next:AtT cx n ((d,.func f us.toArray vs.toArray)::ks) O V P ops Qn t) (ho:ops[i]? = some ⟨some d,.makeFunc f fs.toArray cs.toArray,T,pos,after,gd⟩:=by rfl) (hg:Gd ks ops gd:=by first | exact trivial | exact⟨_,_,rfl,rfl,rfl⟩) (hf:evs ks fs=some us:=by rfl) (hc:evs ks cs=some vs:=by rfl) (hn:d<n:=by decide):AtT cx n ks O V P ops Qn (.q i t):=AtT.fn ho hg hf hc hn next
theorem qK {X E:TypeId} {b off:Nat} {cs cs':List Value} (hT:tkB P X=some (false,1)) (next:AtT cx n ks O' V P ops Qn t) (ho:ops[i]? = some ⟨none,.store X x y,T,pos,after,gd⟩:=by rfl) (hg:Gd ks ops gd:=by first | exact trivial | exact⟨_,_,rfl,rfl,rfl⟩) (hx:ev ks x=some (.pointer (some ⟨b,off,none⟩)):=by rfl) (hy:ev ks y=some v:=by rfl) (hp:Upd (.blk b (LC cs E)) (.blk b (LC cs' E)) O O':=by repeat(first | exact Upd.here | apply Upd.there)) (hs:SetAt cs off v cs':=by repeat(first | exact SetAt.here | apply SetAt.there)) (hv:v.cells=[v].toArray:=by rfl) (h1:v.oneCell'=true:=by rfl):AtT cx n ks O V P ops Qn (.n true i t):=store1 ho hg hx hy hT hv h1 hp hs next
theorem zH {X E:TypeId} {b:Nat} {cs us:List Value} {m:Nat} (hT:tkB P X=some (true,m)) (next:AtT cx n ks O' V P ops Qn t) (ho:ops[i]? = some ⟨none,.store X x y,T,pos,after,gd⟩:=by rfl) (hg:Gd ks ops gd:=by first | exact trivial | exact⟨_,_,rfl,rfl,rfl⟩) (hx:ev ks x=some (.pointer (some ⟨b,0,none⟩)):=by rfl) (hy:ev ks y=some (.agg us.toArray):=by rfl) (hp:Upd (.blk b (LC cs E)) (.blk b (LC us E)) O O':=by repeat(first | exact Upd.here | apply Upd.there)) (hm':us.length=m:=by rfl) (hl:cs.length=m:=by rfl) (h1:us.all Value.oneCell'=true:=by rfl):AtT cx n ks O V P ops Qn (.n true i t):=storeA ho hg hx hy hT hm' hl h1 hp next
theorem kK {f:FuncId} {args:List Operand} {ts:Array TypeId} {vs:List Value} {R:Value->View->Prop} (ho:ops[i]? = some ⟨some d,.call ⟨.value (.func f),args.toArray,ts⟩,T,pos,after,gd⟩) (ha:evs ks args=some vs) (hf:zi P f) (hc:Fnc P f vs V R) (next:∀ v V',Le V V'->R v V'->AtT cx n ((d,v)::ks) O V' P ops Qn t) (hg:Gd ks ops gd:=by first | exact trivial | exact⟨_,_,rfl,rfl,rfl⟩) (hn:d<n:=by decide):AtT cx n ks O V P ops Qn (.n wr i t):=AtT.call ho hg ha hf hn hc next
theorem zm {f:FuncId} {args:List Operand} {ts:Array TypeId} {vs:List Value} {R:Value->Prop} (ho:ops[i]? = some ⟨some d,.call ⟨.value (.func f),args.toArray,ts⟩,T,pos,after,gd⟩) (ha:evs ks args=some vs) (hf:zi P f) (hc:Fnc P f vs V (λv _=>R v)) (next:∀ v,R v->AtT cx n ((d,v)::ks) O V P ops Qn t) (hg:Gd ks ops gd:=by first | exact trivial | exact⟨_,_,rfl,rfl,rfl⟩) (hn:d<n:=by decide):AtT cx n ks O V P ops Qn (.n wr i t):=callP ho hg ha hf hn hc next
theorem jD {c:Operand} {f:FuncId} {args:List Operand} {fs cs:List Value} {ts:Array TypeId} {vs:List Value} {R:Value->Prop} (ho:ops[i]? = some ⟨some d,.call ⟨.value c,args.toArray,ts⟩,T,pos,after,gd⟩) (hcv:ev ks c=some (.func (.func f) fs.toArray cs.toArray)) (ha:evs ks args=some vs) (hf:zi P f) (hc:Fnc P f (fs++vs++cs) V (λv _=>R v)) (next:∀ v,R v->AtT cx n ((d,v)::ks) O V P ops Qn t) (hg:Gd ks ops gd:=by first | exact trivial | exact⟨_,_,rfl,rfl,rfl⟩) (hn:d<n:=by decide):AtT cx n ks O V P ops Qn (.n wr i t):=xM ho hg hcv ha hf hn hc next
theorem zx {us:List Value} {j:Nat} (next:AtT cx n ((d,v)::ks) O V P ops Qn t) (ho:ops[i]? = some ⟨some d,.extract x j,T,pos,after,gd⟩:=by rfl) (hg:Gd ks ops gd:=by first | exact trivial | exact⟨_,_,rfl,rfl,rfl⟩) (hx:ev ks x=some (.tuple us.toArray):=by rfl) (hu:us[j]? = some v:=by rfl) (hn:d<n:=by decide):AtT cx n ks O V P ops Qn (.q i t):=AtT.extract ho hg hx hu hn next
theorem zy {X E:TypeId} {m:Nat} {cs:List Value} {ps:List (Nat×Operand)} {vs:List (Nat×Value)} (hr:∀ w,(Instr.buildSlice X m vs.toArray).run P w=.ok (.slice (some ⟨w.heap.size,0,none⟩) m m) (w.alloc (LC cs E))) (next:∀ q V',Le V V'->Cells V' q cs->AtT cx n ((d,.slice (some q) m m)::ks) O V' P ops Qn t) (ho:ops[i]? = some ⟨some d,.buildSlice X m ps.toArray,T,pos,after,gd⟩:=by rfl) (hg:Gd ks ops gd:=by first | exact trivial | exact⟨_,_,rfl,rfl,rfl⟩) (hp:evp ks ps=some vs:=by rfl) (hn:d<n:=by decide):AtT cx n ks O V P ops Qn (.n wr i t):=bsliceG ho hg hp hr hn next
theorem jq {X E:TypeId} {z:Value} {s by_ m k c:Nat} {xs news:List Value} {q:Addr} (hX:P.underlying X=some (.slice E)) (hE:rowB P E=some (z,s,by_)) (next:∀ a cap,AtT cx n ((d,.slice a (m+k) cap)::ks) (.row (.slice a (m+k) cap) E s (m+k) (xs++news)::R) V P ops Qn t) (ho:ops[i]? = some ⟨some d,.call ⟨.builtin .append,#[x,y],#[X,X]⟩,T,pos,after,gd⟩:=by rfl) (hg:Gd ks ops gd:=by first | exact trivial | exact⟨_,_,rfl,rfl,rfl⟩) (hx:ev ks x=some v:=by rfl) (hy:ev ks y=some (.slice (some q) k c):=by rfl) (hp:zo (.row v E s m xs) O R:=by repeat(first | exact zo.here | apply zo.there)) (hc:Cells V q news:=by first | assumption | exact Cells.le (by assumption) (by assumption)) (hzs:z.cells.size=s:=by rfl) (hl:news.length=k*s:=by rfl) (h1:news.all Value.oneCell'=true:=by rfl) (hb:m+k<=maxLen:=by first | omega | (unfold maxLen;omega)) (hby:(m+k)*by_<=140737488355328:=by omega) (hs:0<s:=by decide) (hn:d<n:=by decide):AtT cx n ks O V P ops Qn (.n true i t):=AtT.append ho hg hX hE hzs hs hx hy hp hc hl h1 hb hby hn next
theorem kclip {α:Type} {enc:α->List Value} {l:List α} {X E:TypeId} {s:Nat} {ag:Bool} {h:Int} {h' m':Operand} {k k2:IntKind} (hX:P.underlying X=some (.slice E)) (hE:tkB P E=some (ag,s)) (next:∀ a,Sl V enc s (.slice a (l.take h.toNat).length (l.take h.toNat).length) (l.take h.toNat)->AtT cx n ((d,.slice a (l.take h.toNat).length (l.take h.toNat).length)::ks) O V P ops Qn t) (ho:ops[i]? = some ⟨some d,.slice X x none (some h') (some m'),T,pos,after,gd⟩:=by rfl) (hg:Gd ks ops gd:=by first | exact trivial | exact⟨_,_,rfl,rfl,rfl⟩) (hx:ev ks x=some v:=by rfl) (hh:ev ks h'=some (.int k h):=by rfl) (hm':ev ks m'=some (.int k2 h):=by rfl) (hv:Sl V enc s v l:=by first | assumption | exact Sl.le (by assumption) (by assumption)) (h0:0<=h:=by omega) (h1:h<=l.length:=by omega) (hn:d<n:=by decide):AtT cx n ks O V P ops Qn (.q i t):=AtT.clip ho hg hX hE hx hv hh hm' h0 h1 hn next
theorem kclipAll {α:Type} {enc:α->List Value} {l:List α} {X E:TypeId} {s:Nat} {ag:Bool} {h' m':Operand} {k k2:IntKind} (hX:P.underlying X=some (.slice E)) (hE:tkB P E=some (ag,s)) (next:∀ a,Sl V enc s (.slice a l.length l.length) l->AtT cx n ((d,.slice a l.length l.length)::ks) O V P ops Qn t) (ho:ops[i]? = some ⟨some d,.slice X x none (some h') (some m'),T,pos,after,gd⟩:=by rfl) (hg:Gd ks ops gd:=by first | exact trivial | exact⟨_,_,rfl,rfl,rfl⟩) (hx:ev ks x=some v:=by rfl) (hh:ev ks h'=some (.int k (l.length:Int)):=by rfl) (hm':ev ks m'=some (.int k2 (l.length:Int)):=by rfl) (hv:Sl V enc s v l:=by first | assumption | exact Sl.le (by assumption) (by assumption)) (hn:d<n:=by decide):AtT cx n ks O V P ops Qn (.q i t):=clipAll ho hg hX hE hx hv hh hm' hn next
theorem ktail {α:Type} {enc:α->List Value} {l:List α} {X E:TypeId} {s:Nat} {ag:Bool} {lo:Int} {lo':Operand} {k:IntKind} (hX:P.underlying X=some (.slice E)) (hE:tkB P E=some (ag,s)) (next:∀ a cap,Sl V enc s (.slice a (l.drop lo.toNat).length cap) (l.drop lo.toNat)->AtT cx n ((d,.slice a (l.drop lo.toNat).length cap)::ks) O V P ops Qn t) (ho:ops[i]? = some ⟨some d,.slice X x (some lo') none none,T,pos,after,gd⟩:=by rfl) (hg:Gd ks ops gd:=by first | exact trivial | exact⟨_,_,rfl,rfl,rfl⟩) (hx:ev ks x=some v:=by rfl) (hh:ev ks lo'=some (.int k lo):=by rfl) (hv:Sl V enc s v l:=by first | assumption | exact Sl.le (by assumption) (by assumption)) (h0:0<=lo:=by omega) (h1:lo<=l.length:=by omega) (hn:d<n:=by decide):AtT cx n ks O V P ops Qn (.q i t):=xO ho hg hX hE hx hv hh h0 h1 hn next
theorem khead {α:Type} {enc:α->List Value} {l:List α} {X E:TypeId} {s:Nat} {ag:Bool} {h:Int} {h':Operand} {k:IntKind} (hX:P.underlying X=some (.slice E)) (hE:tkB P E=some (ag,s)) (next:∀ a cap,Sl V enc s (.slice a (l.take h.toNat).length cap) (l.take h.toNat)->AtT cx n ((d,.slice a (l.take h.toNat).length cap)::ks) O V P ops Qn t) (ho:ops[i]? = some ⟨some d,.slice X x none (some h') none,T,pos,after,gd⟩:=by rfl) (hg:Gd ks ops gd:=by first | exact trivial | exact⟨_,_,rfl,rfl,rfl⟩) (hx:ev ks x=some v:=by rfl) (hh:ev ks h'=some (.int k h):=by rfl) (hv:Sl V enc s v l:=by first | assumption | exact Sl.le (by assumption) (by assumption)) (h0:0<=h:=by omega) (h1:h<=l.length:=by omega) (hn:d<n:=by decide):AtT cx n ks O V P ops Qn (.q i t):=xP ho hg hX hE hx hv hh h0 h1 hn next
theorem keqS {X Y:TypeId} {xs ys:List Value} {b:Bool} (h:EqS P X xs ys b) (next:AtT cx n ((d,.bool b)::ks) O V P ops Qn t) (ho:ops[i]? = some ⟨some d,.binOp .eql X x y Y,T,pos,after,gd⟩:=by rfl) (hg:Gd ks ops gd:=by first | exact trivial | exact⟨_,_,rfl,rfl,rfl⟩) (hx:ev ks x=some (.agg xs.toArray):=by rfl) (hy:ev ks y=some (.agg ys.toArray):=by rfl) (hn:d<n:=by decide):AtT cx n ks O V P ops Qn (.q i t):=xU ho hg hx hy h hn next
theorem kneS {X Y:TypeId} {xs ys:List Value} {b:Bool} (h:EqS P X xs ys b) (next:AtT cx n ((d,.bool (!b))::ks) O V P ops Qn t) (ho:ops[i]? = some ⟨some d,.binOp .neq X x y Y,T,pos,after,gd⟩:=by rfl) (hg:Gd ks ops gd:=by first | exact trivial | exact⟨_,_,rfl,rfl,rfl⟩) (hx:ev ks x=some (.agg xs.toArray):=by rfl) (hy:ev ks y=some (.agg ys.toArray):=by rfl) (hn:d<n:=by decide):AtT cx n ks O V P ops Qn (.q i t):=neS ho hg hx hy h hn next
theorem kfld {X:TypeId} {j:Nat} {us:List Value} {v:Value} (hr:∀ w,(Instr.field X (.agg us.toArray) j).run P w=.ok v w) (next:AtT cx n ((d,v)::ks) O V P ops Qn t) (ho:ops[i]? = some ⟨some d,.field X x j,T,pos,after,gd⟩:=by rfl) (hg:Gd ks ops gd:=by first | exact trivial | exact⟨_,_,rfl,rfl,rfl⟩) (hx:ev ks x=some (.agg us.toArray):=by rfl) (hn:d<n:=by decide):AtT cx n ks O V P ops Qn (.q i t):=fld ho hg hx hr hn next
theorem kcallL {f:FuncId} {args:List Operand} {ts:Array TypeId} {vs:List Value} {R:Value->Prop} (ho:ops[i]? = some ⟨some d,.call ⟨.value (.func f),args.toArray,ts⟩,T,pos,after,gd⟩) (ha:evs ks args=some vs) (hf:zi P f) (hc:∀ V',Le V V'->(∀ b o,Own.blk b o∈O->V' b=some o)->Fnc P f vs V' (λv _=>R v)) (next:∀ v,R v->AtT cx n ((d,v)::ks) O V P ops Qn t) (hg:Gd ks ops gd:=by first | exact trivial | exact⟨_,_,rfl,rfl,rfl⟩) (hn:d<n:=by decide):AtT cx n ks O V P ops Qn (.n wr i t):=callL ho hg ha hf hn hc next
theorem kpass {o:Oper} {g:Nat} {want:Bool} {od:Oper} {gd:Nat} (next:AtT cx n ((d,undef)::ks) O V P ops Qn t) (ho:ops[i]? = some o:=by rfl) (hg:o.guard=some (g,want):=by rfl) (hog:ops[g]? = some od:=by rfl) (hgd:od.dst=some gd:=by rfl) (hgv:look ks gd=some (.bool (!want)):=by rfl) (hd:o.dst=some d:=by rfl) (hn:d<n:=by decide):AtT cx n ks O V P ops Qn (.q i t):=AtT.pass ho hg hog hgd hgv hd hn next
theorem kpassN {o:Oper} {g:Nat} {want:Bool} {od:Oper} {gd:Nat} {wr:Bool} (next:AtT cx n ((d,undef)::ks) O V P ops Qn t) (ho:ops[i]? = some o:=by rfl) (hg:o.guard=some (g,want):=by rfl) (hog:ops[g]? = some od:=by rfl) (hgd:od.dst=some gd:=by rfl) (hgv:look ks gd=some (.bool (!want)):=by rfl) (hd:o.dst=some d:=by rfl) (hn:d<n:=by decide):AtT cx n ks O V P ops Qn (.n wr i t):=passN ho hg hog hgd hgv hd hn next
theorem kpassU {o:Oper} {g:Nat} {want:Bool} {od:Oper} {gd:Nat} (next:AtT cx n ((d,undef)::ks) O V P ops Qn t) (ho:ops[i]? = some o:=by rfl) (hg:o.guard=some (g,want):=by rfl) (hog:ops[g]? = some od:=by rfl) (hgd:od.dst=some gd:=by rfl) (hgv:look ks gd=some undef:=by rfl) (hd:o.dst=some d:=by rfl) (hn:d<n:=by decide):AtT cx n ks O V P ops Qn (.q i t):=passU ho hg hog hgd hgv hd hn next
theorem kpassNU {o:Oper} {g:Nat} {want:Bool} {od:Oper} {gd:Nat} {wr:Bool} (next:AtT cx n ((d,undef)::ks) O V P ops Qn t) (ho:ops[i]? = some o:=by rfl) (hg:o.guard=some (g,want):=by rfl) (hog:ops[g]? = some od:=by rfl) (hgd:od.dst=some gd:=by rfl) (hgv:look ks gd=some undef:=by rfl) (hd:o.dst=some d:=by rfl) (hn:d<n:=by decide):AtT cx n ks O V P ops Qn (.n wr i t):=passNU ho hg hog hgd hgv hd hn next
theorem kY (d:Nat) (h:AtT cx n ks O V P ops Qn t) (hd:look ks d=some (.bool true)\/look ks d=some (.bool false)\/look ks d=some undef:=by first | exact .inl rfl | exact .inr (.inl rfl) | exact .inr (.inr rfl)):AtT cx n ks O V P ops Qn t:=h
theorem Zd (d:Nat) (h:AtC cx n ks O V O1 V1 P ops Qn t) (hd:look ks d=some (.bool true)\/look ks d=some (.bool false)\/look ks d=some undef:=by first | exact .inl rfl | exact .inr (.inl rfl) | exact .inr (.inr rfl)):AtC cx n ks O V O1 V1 P ops Qn t:=h
theorem xg (h:AtT cx n ks O1 V1 P ops (λa' _=>Kn cx n ((d,v)::ks) a') (.q i .done)) (next:AtC cx n ((d,v)::ks) O V O1 V1 P ops Qn t) (hp:Pt O1 O:=by repeat(first | exact Pt.nil | refine Pt.cons (by repeat(first | exact zo.here | apply zo.there)) ?_)) (hl:Le V1 V:=by first | exact Le.refl _ | assumption | exact Le.trans (by assumption) (by assumption)) (h0:Le cx.V0 V1:=by assumption):AtC cx n ks O V O1 V1 P ops Qn (.q i t):=AtC.q h (sub1 hp hl h0) next
theorem kgo {V':View} (next:AtC cx n ks O' V' O1 V1 P ops Qn t) (hp:Pt O1 O':=by repeat(first | exact Pt.nil | refine Pt.cons (by repeat(first | exact zo.here | apply zo.there)) ?_)) (hl:Le V1 V':=by first | exact Le.refl _ | assumption | exact Le.trans (by assumption) (by assumption)):AtT cx n ks O' V' P ops (λa' w'=>Le cx.V0 V1->Mem cx O1 V1 w'/\wpT P ops Qn t (Mem cx O1 V1) a' w') .done:=xQ hp hl next
theorem xH {α:Type} {X E:TypeId} {enc:α->List Value} {s:Nat} {l:List α} {k:IntKind} {j:Int} {ag:Bool} (hX:P.underlying X=some (.slice E)) (hE:tkB P E=some (ag,s))
  (next:∀ (p:Addr) (e:α),l[j.toNat]? = some e->Cells V1 p (enc e)->AtC cx n ((d,.pointer (some p))::ks) O V O1 V1 P ops Qn t) (ho:ops[i]? = some ⟨some d,.indexAddr X x y,T,pos,after,gd⟩:=by rfl) (hg:Gd ks ops gd:=by first | exact trivial | exact⟨_,_,rfl,rfl,rfl⟩)
  (hx:ev ks x=some v:=by rfl) (hl:Sl V1 enc s v l:=by first | assumption | exact Sl.le (by assumption) (by assumption)) (hy:ev ks y=some (.int k j):=by rfl) (h0:0<=j:=by omega) (h1:j<l.length:=by omega) (hn:d<n:=by decide) (hp:Pt O1 O:=by repeat(first | exact Pt.nil | refine Pt.cons (by repeat(first | exact zo.here | apply zo.there)) ?_)) (hv:Le V1 V:=by first | exact Le.refl _ | assumption | exact Le.trans (by assumption) (by assumption)) (hv0:Le cx.V0 V1:=by assumption):AtC cx n ks O V O1 V1 P ops Qn (.q i t):=AtC.idx ho hg hX hE hx hl hy h0 h1 hn (sub1 hp hv hv0) next
theorem zP {ops:Array Oper} (t:Tr) (h:AtT cx n ks O V P ops (Q .normal) t) (hc:t.okText ops=true:=by kernel_rfl):At cx n ks O V ((Code.region id ops false).wpIn (FW ro) 0 P Q):=xI t hc h
theorem AtT.dn (h:At cx n ks O V K) (f:At cx n ks O V K->At cx n ks O V Qn:=by exact λh=>nrm h):AtT cx n ks O V P ops Qn .done:=AtT.done (f h)
theorem zh {x:Operand} {v:Value} (h:At cx n ((d,v)::ks) O V K) (ho:ops[i]? = some ⟨some d,.assign x,T,pos,after,gd⟩:=by rfl) (hg:Gd ks ops gd:=by first | exact trivial | exact⟨_,_,rfl,rfl,rfl⟩) (hx:ev ks x=some v:=by rfl) (hn:d<n:=by decide) (f:At cx n ((d,v)::ks) O V K->At cx n ((d,v)::ks) O V Qn:=by exact λh=>nrm h):AtT cx n ks O V P ops Qn (.q i .done):=AtT.assign ho hg hx hn (AtT.done (f h))
section
variable {ops1:Array Oper} {P1:Program}
theorem zb (t1:Tr) (h:AtT cx n ks O V P1 ops1 (Q .normal) t1) (f:At cx n ks O V ((Code.region id ops1 false).wpIn (FW ro) 0 P1 Q)->At cx n ks O V K:=by exact λh=>nrm h) (hc:t1.okText ops1=true:=by kernel_rfl):At cx n ks O V K:=f (zP t1 h hc)
theorem xq (t1:Tr) (h:AtT cx n ks O V P1 ops1 (Q .normal) t1) (f:At cx n ks O V ((Code.region id ops1 false).wpIn (FW ro) 0 P1 Q)->At cx n ks O V Qn:=by exact λh=>nrm h) (hc:t1.okText ops1=true:=by kernel_rfl):AtT cx n ks O V P ops Qn .done:=AtT.done (f (zP t1 h hc))
theorem ax {x:Operand} {v:Value} (t1:Tr) (h:AtT cx n ((d,v)::ks) O V P1 ops1 (Q .normal) t1) (ho:ops[i]? = some ⟨some d,.assign x,T,pos,after,gd⟩:=by rfl) (hg:Gd ks ops gd:=by first | exact trivial | exact⟨_,_,rfl,rfl,rfl⟩) (hx:ev ks x=some v:=by rfl) (hn:d<n:=by decide) (f:At cx n ((d,v)::ks) O V ((Code.region id ops1 false).wpIn (FW ro) 0 P1 Q)->At cx n ((d,v)::ks) O V Qn:=by exact λh=>nrm h) (hc:t1.okText ops1=true:=by kernel_rfl):AtT cx n ks O V P ops Qn (.q i .done):=AtT.assign ho hg hx hn (AtT.done (f (zP t1 h hc)))
end
theorem Pt.zg {l O:List Own} (h:Pt l O:=by repeat(first | exact Pt.nil | refine Pt.cons (by repeat(first | exact zo.here | apply zo.there)) ?_)):Pt l O:=h
theorem zo.zg {x:Own} {O R:List Own} (h:zo x O R:=by repeat(first | exact zo.here | apply zo.there)):zo x O R:=h
end
section
variable {cx:Cx} {n:Nat} {ks:List (Nat×Value)} {O:List Own} {V:View} {P:Program} {ops:Array Oper} {Qn:Act->World->Prop} {t:Tr} {A T0:Prop}
theorem AtT.kp (h:A) (f:A->AtT cx n ks O V P ops Qn t:=by intro h;first | exact kpass h | exact kpassU h):AtT cx n ks O V P ops Qn t:=f h
theorem kpN (h:A) (f:A->AtT cx n ks O V P ops Qn t:=by intro h;first | exact kpassN h | exact kpassNU h):AtT cx n ks O V P ops Qn t:=f h
theorem kV (hT:T0) (h:A) (f:T0->A->AtT cx n ks O V P ops Qn t:=by intro hT h;first | exact kloadO hT h | exact kload hT h):AtT cx n ks O V P ops Qn t:=f hT h
theorem zw (hT:T0) (h:A) (f:T0->A->AtT cx n ks O V P ops Qn t:=by intro hT h;first | exact kfieldO hT h | with_reducible exact kfield2 hT h | exact kfield hT h):AtT cx n ks O V P ops Qn t:=f hT h
theorem qo (hT:T0) (h:A) (f:T0->A->AtT cx n ks O V P ops Qn t:=by intro hT h;first | exact kloadOA hT h | exact kloadA hT h | exact kloadOP hT h):AtT cx n ks O V P ops Qn t:=f hT h
theorem zZ (hT:T0) (h:A) (f:T0->A->AtT cx n ks O V P ops Qn t:=by intro hT h;first | exact klenS hT h | exact klenR hT h):AtT cx n ks O V P ops Qn t:=f hT h
theorem zM (h:A) (f:A->AtT cx n ks O V P ops Qn t:=by intro h;first | exact kadd h | exact kaddW h):AtT cx n ks O V P ops Qn t:=f h
theorem k_sb (h:A) (f:A->AtT cx n ks O V P ops Qn t:=by intro h;first | exact ksubt h | exact ksubW h):AtT cx n ks O V P ops Qn t:=f h
theorem qi (hT:T0) (h:A) (f:T0->A->AtT cx n ks O V P ops Qn t:=by intro hT h;first | exact kpass h | exact kpassU h | exact kloadO hT h | exact kload hT h):AtT cx n ks O V P ops Qn t:=f hT h
theorem ja (hT:T0) (h:A) (f:T0->A->AtT cx n ks O V P ops Qn t:=by intro hT h;first | exact kpass h | exact kpassU h | exact kfieldO hT h | with_reducible exact kfield2 hT h | exact kfield hT h):AtT cx n ks O V P ops Qn t:=f hT h
theorem p_la (hT:T0) (h:A) (f:T0->A->AtT cx n ks O V P ops Qn t:=by intro hT h;first | exact kpass h | exact kpassU h | exact kloadOA hT h | exact kloadA hT h | exact kloadOP hT h):AtT cx n ks O V P ops Qn t:=f hT h
theorem p_ln (hT:T0) (h:A) (f:T0->A->AtT cx n ks O V P ops Qn t:=by intro hT h;first | exact kpass h | exact kpassU h | exact klenS hT h | exact klenR hT h):AtT cx n ks O V P ops Qn t:=f hT h
theorem p_ad (h:A) (f:A->AtT cx n ks O V P ops Qn t:=by intro h;first | exact kpass h | exact kpassU h | exact kadd h | exact kaddW h):AtT cx n ks O V P ops Qn t:=f h
theorem p_sb (h:A) (f:A->AtT cx n ks O V P ops Qn t:=by intro h;first | exact kpass h | exact kpassU h | exact ksubt h | exact ksubW h):AtT cx n ks O V P ops Qn t:=f h
theorem zJ (h:A) (f:A->AtT cx n ks O V P ops Qn t:=by intro h;first | exact kpass h | exact kpassU h | exact ze h):AtT cx n ks O V P ops Qn t:=f h
theorem p_gt (h:A) (f:A->AtT cx n ks O V P ops Qn t:=by intro h;first | exact kpass h | exact kpassU h | exact kgtr h):AtT cx n ks O V P ops Qn t:=f h
theorem p_lt (h:A) (f:A->AtT cx n ks O V P ops Qn t:=by intro h;first | exact kpass h | exact kpassU h | exact qc h):AtT cx n ks O V P ops Qn t:=f h
theorem p_ne (h:A) (f:A->AtT cx n ks O V P ops Qn t:=by intro h;first | exact kpass h | exact kpassU h | exact kJ h):AtT cx n ks O V P ops Qn t:=f h
theorem p_nt (h:A) (f:A->AtT cx n ks O V P ops Qn t:=by intro h;first | exact kpass h | exact kpassU h | exact xn h):AtT cx n ks O V P ops Qn t:=f h
theorem p_qI (h:A) (f:A->AtT cx n ks O V P ops Qn t:=by intro h;first | exact kpass h | exact kpassU h | exact keqI h):AtT cx n ks O V P ops Qn t:=f h
end
section
variable {cx:Cx} {n:Nat} {ks:List (Nat×Value)} {O:List Own} {V:View} {P:Program} {ops:Array Oper} {Qn:Act->World->Prop} {t:Tr} {i d:Nat} {T X Y:TypeId} {pos:String} {after:Array Edge} {gd:Option (Nat×Bool)} {x y:Operand}
theorem neB {a b:Bool} (ho:ops[i]? = some ⟨some d,.binOp .neq X x y Y,T,pos,after,gd⟩) (hg:Gd ks ops gd) (hT:P.underlying X=some .bool) (hx:ev ks x=some (.bool a)) (hy:ev ks y=some (.bool b)) (hn:d<n)
  (next:AtT cx n ((d,.bool (!(a == b)))::ks) O V P ops Qn t):AtT cx n ks O V P ops Qn (.q i t):=
 .q ho hg rfl hn (λa w hk _=>by simp[execOp,hk.ev hx,hk.ev hy,eqGuard_at_bool,run_neq_bool _ _ _ _ hT]) next
theorem toT {O1:List Own} {V1:View} (h:AtT cx n ks O V P ops Qn (.n true i t)):AtC cx n ks O V O1 V1 P ops Qn (.n true i t):=λh0 a w hk hm=>by obtain⟨o,ho,hs⟩:=h a w hk hm;exact⟨o,ho,qm (λa' w' ⟨S',_,h2,h3⟩=>⟨S',(λh=>by cases h),h2,h3⟩) hs⟩
theorem max3 {z:Operand} {X Y Z:TypeId} {k:IntKind} {p q r:Int} (ho:ops[i]? = some ⟨some d,.call ⟨.builtin .max,#[x,y,z],#[X,Y,Z]⟩,T,pos,after,gd⟩) (hg:Gd ks ops gd) (hx:ev ks x=some (.int k p)) (hy:ev ks y=some (.int k q)) (hz:ev ks z=some (.int k r)) (hn:d<n)
  (next:AtT cx n ((d,.int k (max (max p q) r))::ks) O V P ops Qn t):AtT cx n ks O V P ops Qn (.q i t):=
 .q ho hg rfl hn (λa w hk _=>by
  have e:(if q > p then q else p)=max p q:=by split<;>omega
  have e2:(if r > max p q then r else max p q)=max (max p q) r:=by split<;>omega
  simp[execOp,resolve,invoke,builtin,hk.ev hx,hk.ev hy,hk.ev hz,Builtin.max_,Builtin.max2,e,e2]) next
end
end Go.Lw
namespace Go.Lw
open Go.Instr
def bt (s:ByteArray):List UInt8:=s.data.toList
def bv (s:ByteArray) (k:Nat):Int:=(((bt s).getD k 0).toNat:Int)
theorem bt_len (s:ByteArray):(bt s).length=s.size:=by unfold bt;rw[Array.length_toList];rfl
theorem bt_ext {a b:ByteArray} (h:bt a=bt b):a=b:=by
 cases a with
 | mk x=>cases b with
  | mk y=>
   have:x=y:=Array.ext' h
   rw[this]
theorem bt_eq (a b:ByteArray):(a.toList == b.toList)=decide (a=b):=by rw[ByteArray.toList_eq,ByteArray.toList_eq];rw[Bool.eq_iff_iff,beq_iff_eq,decide_eq_true_eq];exact⟨λh=>bt_ext h,λh=>by rw[h]⟩
section
variable {cx:Cx} {n:Nat} {ks:List (Nat×Value)} {O R:List Own} {V:View} {P:Program} {ops:Array Oper} {Qn:Act->World->Prop} {t:Tr} {i d:Nat} {x y:Operand} {T:TypeId} {pos:String} {after:Array Edge} {gd:Option (Nat×Bool)} {X Y:TypeId}
theorem xz {s:ByteArray} {k:IntKind} {j:Int} (ho:ops[i]? = some ⟨some d,.index X x y,T,pos,after,gd⟩) (hg:Gd ks ops gd) (hX:P.underlying X=some .string) (hx:ev ks x=some (.string s)) (hy:ev ks y=some (.int k j)) (h0:0<=j) (h1:j<s.size) (hn:d<n)
  (next:AtT cx n ((d,.int .u8 (bv s j.toNat))::ks) O V P ops Qn t):AtT cx n ks O V P ops Qn (.q i t):=
 .q ho hg rfl hn (λa w hk hm=>by
  have h2:j.toNat<s.size:=by omega
  have h3:j.toNat<s.data.size:=h2
  have e:((s[j.toNat]'h2).toNat:Int)=bv s j.toNat:=by
   unfold bv bt;have h4:s.data.toList.getD j.toNat 0=s.data[j.toNat]'h3:=by rw[List.getD_eq_getElem?_getD,Array.getElem?_toList,Array.getElem?_eq_getElem h3];rfl
   rw[h4];rfl
  simp only[execOp,hk.ev hx,hk.ev hy,Sem.run_bind,run_index_string (P:=P) w X s k j hX,dif_pos (And.intro h0 h1),Result.andThen_ok,Sem.run_pure,e]) next
theorem qX {s:ByteArray} (ho:ops[i]? = some ⟨some d,.call ⟨.builtin .len,#[x],#[X]⟩,T,pos,after,gd⟩) (hg:Gd ks ops gd) (hX:P.underlying X=some .string) (hx:ev ks x=some (.string s)) (hn:d<n)
  (next:AtT cx n ((d,.int .i64 s.size)::ks) O V P ops Qn t):AtT cx n ks O V P ops Qn (.q i t):=
 .q ho hg rfl hn (λb w hk hm=>by simp[execOp,resolve,invoke,builtin,hk.ev hx,run_len_string (P:=P) w X T s hX,goInt]) next
theorem eqStr {a b:ByteArray} (ho:ops[i]? = some ⟨some d,.binOp .eql X x y Y,T,pos,after,gd⟩) (hg:Gd ks ops gd) (hx:ev ks x=some (.string a)) (hy:ev ks y=some (.string b)) (hn:d<n)
  (next:AtT cx n ((d,.bool (decide (a=b)))::ks) O V P ops Qn t):AtT cx n ks O V P ops Qn (.q i t):=
 .q ho hg rfl hn (λc w hk hm=>by
  have:=bt_eq a b
  simp[execOp,hk.ev hx,hk.ev hy,eqGuard_at_string,binOp_string_eql,this]) next
theorem neStr {a b:ByteArray} (ho:ops[i]? = some ⟨some d,.binOp .neq X x y Y,T,pos,after,gd⟩) (hg:Gd ks ops gd) (hx:ev ks x=some (.string a)) (hy:ev ks y=some (.string b)) (hn:d<n)
  (next:AtT cx n ((d,.bool (decide (a≠b)))::ks) O V P ops Qn t):AtT cx n ks O V P ops Qn (.q i t):=
 .q ho hg rfl hn (λc w hk hm=>by
  have:=bt_eq a b
  simp[execOp,hk.ev hx,hk.ev hy,eqGuard_at_string,binOp_string_neq,this]) next
end
end Go.Lw
namespace Go.Lw
open Go.RowKit
def bitsOf:List Nat->Nat
 | []=>0
 | i::l=>bitsOf l ||| 2 ^ i
theorem bits_test:∀ (l:List Nat) (j:Nat),(bitsOf l).testBit j=l.contains j
 | [],j=>by simp[bitsOf]
 | i::l,j=>by
  simp only[bitsOf,Nat.testBit_or,bits_test l j,Nat.testBit_two_pow,List.contains_cons];rw[Bool.or_comm];congr 1;by_cases h:i=j
  ·subst h;simp
  ·have h':¬ j=i:=λe=>h e.symm
   simp[h,h']
theorem bits_apart (l k:List Nat) (h:(bitsOf l &&& bitsOf k == 0)=true):∀ i∈k,i∉l:=by
 rw[beq_iff_eq]at h;intro i hk hl;have:=congrArg (·.testBit i) h;simp only[Nat.testBit_and,bits_test,Nat.zero_testBit]at this;have h1:l.contains i=true:=by simpa using hl
 have h2:k.contains i=true:=by simpa using hk
 rw[h1,h2]at this;cases this
structure Rl (ops:Array Oper) (m:Nat) (listed:Array Bool):Prop where
 size:listed.size=ops.size
 bit:∀ j,listed.getD j false=m.testBit j
section
variable {ops:Array Oper} {m:Nat} {listed:Array Bool}
theorem Rl.t (h:Rl ops m listed) {j:Nat} (hj:j<ops.size):listed.getD j true=m.testBit j:=by
 have:=h.bit j
 have hj':j<listed.size:=by rw[h.size];exact hj
 simp[hj']at this⊢;exact this
def WOk (ops:Array Oper) (acc:List Nat):Prop:=∀ j i,(acc.getD j 0).testBit i=true->Waits ops j i
theorem Rl.set (h:Rl ops m listed) {i:Nat} (hi:i∈Region.ready .any ops listed):Rl ops (m ||| 2 ^ i) (listed.setIfInBounds i true):=by
 obtain⟨_,o,ho,_⟩:=mem_ready.1 hi;have hlt:i<listed.size:=by rw[h.size];exact(Array.getElem?_eq_some_iff.1 ho).1
 refine⟨by simp[h.size],λj=>?_⟩;rw[Nat.testBit_or,Nat.testBit_two_pow,<-h.bit j];by_cases c:i=j
 ·subst c;simp[Array.getElem?_setIfInBounds_self_of_lt hlt]
 ·rw[getD_set_ne false c];simp[c]
end
end Go.Lw
namespace Go.Proofs.YtnffcfhdnjbdbaaGreatDoor
open Go.Lw
theorem z1:zK Tryz.prog 1=some Go.Value.nilFunc:=by kernel_rfl
theorem tk2:tkB Tryz.prog 2=some (false,1):=by kernel_rfl
theorem z2:zK Tryz.prog 2=some (Go.Value.int Go.IntKind.i64 0):=by kernel_rfl
theorem tk3:tkB Tryz.prog 3=some (false,1):=by kernel_rfl
theorem z3:zK Tryz.prog 3=some (Go.Value.int Go.IntKind.i64 0):=by kernel_rfl
theorem rw3:rowB Tryz.prog 3=some ((Go.Value.int Go.IntKind.i64 0),1,8):=by kernel_rfl
theorem un3:(Tryz.prog.underlying 3).isSome=true:=by kernel_rfl
theorem tk4:tkB Tryz.prog 4=some (false,1):=by kernel_rfl
theorem z4:zK Tryz.prog 4=some (Go.Value.bool Bool.false):=by kernel_rfl
theorem z5:zK Tryz.prog 5=some (Go.Value.int Go.IntKind.u8 0):=by kernel_rfl
theorem un5:(Tryz.prog.underlying 5).isSome=true:=by kernel_rfl
theorem tk9:tkB Tryz.prog 9=some (false,1):=by kernel_rfl
theorem z9:zK Tryz.prog 9=some (Go.Value.string (ByteArray.mk #[])):=by kernel_rfl
theorem z20:zK Tryz.prog 20=some Go.Value.nilIface:=by kernel_rfl
theorem z21:zK Tryz.prog 21=some (Go.Value.int Go.IntKind.i32 0):=by kernel_rfl
theorem jO:tkB Tryz.prog 22=some (false,1):=by kernel_rfl
theorem z22:zK Tryz.prog 22=some (Go.Value.slice Option.none 0 0):=by kernel_rfl
theorem tk24:tkB Tryz.prog 24=some (true,2):=by kernel_rfl
theorem qg:foB Tryz.prog 24 0=some 0:=by kernel_rfl
theorem fo24_1:foB Tryz.prog 24 1=some 1:=by kernel_rfl
theorem z25:zK Tryz.prog 25=some (Go.Value.int Go.IntKind.i64 0):=by kernel_rfl
theorem z28:zK Tryz.prog 28=some (Go.Value.slice Option.none 0 0):=by kernel_rfl
theorem tk30:tkB Tryz.prog 30=some (false,1):=by kernel_rfl
theorem z31:zK Tryz.prog 31=some (Go.Value.agg #[(Go.Value.int Go.IntKind.i64 0),(Go.Value.slice Option.none 0 0)]):=by kernel_rfl
theorem tk32:tkB Tryz.prog 32=some (true,2):=by kernel_rfl
theorem z32:zK Tryz.prog 32=some (Go.Value.agg #[(Go.Value.int Go.IntKind.i64 0),(Go.Value.slice Option.none 0 0)]):=by kernel_rfl
theorem fo32_0:foB Tryz.prog 32 0=some 0:=by kernel_rfl
theorem fo32_1:foB Tryz.prog 32 1=some 1:=by kernel_rfl
theorem qp:tkB Tryz.prog 34=some (false,1):=by kernel_rfl
theorem z34:zK Tryz.prog 34=some (Go.Value.slice Option.none 0 0):=by kernel_rfl
theorem rw34:rowB Tryz.prog 34=some ((Go.Value.slice Option.none 0 0),1,24):=by kernel_rfl
theorem tk36:tkB Tryz.prog 36=some (true,2):=by kernel_rfl
theorem z36:zK Tryz.prog 36=some (Go.Value.agg #[(Go.Value.int Go.IntKind.i64 0),(Go.Value.int Go.IntKind.i64 0)]):=by kernel_rfl
theorem rw36:rowB Tryz.prog 36=some ((Go.Value.agg #[(Go.Value.int Go.IntKind.i64 0),(Go.Value.int Go.IntKind.i64 0)]),2,16):=by kernel_rfl
theorem fo36_0:foB Tryz.prog 36 0=some 0:=by kernel_rfl
theorem fo36_1:foB Tryz.prog 36 1=some 1:=by kernel_rfl
theorem z37:zK Tryz.prog 37=some (Go.Value.slice Option.none 0 0):=by kernel_rfl
theorem z39:zK Tryz.prog 39=some Go.Value.nilFunc:=by kernel_rfl
theorem tk41:tkB Tryz.prog 41=some (false,1):=by kernel_rfl
theorem z41:zK Tryz.prog 41=some (Go.Value.slice Option.none 0 0):=by kernel_rfl
theorem z45:zK Tryz.prog 45=some (Go.Value.agg #[(Go.Value.int Go.IntKind.i64 0),(Go.Value.int Go.IntKind.i64 0)]):=by kernel_rfl
theorem z46:zK Tryz.prog 46=some (Go.Value.agg #[(Go.Value.int Go.IntKind.i64 0),(Go.Value.int Go.IntKind.i64 0)]):=by kernel_rfl
theorem rw46:rowB Tryz.prog 46=some ((Go.Value.agg #[(Go.Value.int Go.IntKind.i64 0),(Go.Value.int Go.IntKind.i64 0)]),2,16):=by kernel_rfl
theorem z50:zK Tryz.prog 50=some Go.Value.nilFunc:=by kernel_rfl
theorem tk51:tkB Tryz.prog 51=some (false,1):=by kernel_rfl
theorem z51:zK Tryz.prog 51=some (Go.Value.slice Option.none 0 0):=by kernel_rfl
theorem tk53:tkB Tryz.prog 53=some (true,49):=by kernel_rfl
theorem z53:zK Tryz.prog 53=some (Go.Value.agg #[(Go.Value.int Go.IntKind.i64 0),(Go.Value.int Go.IntKind.i64 0),(Go.Value.int Go.IntKind.i64 0),(Go.Value.int Go.IntKind.i64 0),(Go.Value.int Go.IntKind.i64 0),(Go.Value.int Go.IntKind.i64 0),(Go.Value.int Go.IntKind.i64 0),(Go.Value.int Go.IntKind.i64 0),(Go.Value.int Go.IntKind.i64 0),(Go.Value.int Go.IntKind.i64 0),(Go.Value.int Go.IntKind.i64 0),(Go.Value.int Go.IntKind.i64 0),(Go.Value.int Go.IntKind.i64 0),(Go.Value.int Go.IntKind.i64 0),(Go.Value.int Go.IntKind.i64 0),(Go.Value.int Go.IntKind.i64 0),(Go.Value.int Go.IntKind.i64 0),(Go.Value.int Go.IntKind.i64 0),(Go.Value.int Go.IntKind.i64 0),(Go.Value.int Go.IntKind.i64 0),(Go.Value.int Go.IntKind.i64 0),(Go.Value.int Go.IntKind.i64 0),(Go.Value.int Go.IntKind.i64 0),(Go.Value.int Go.IntKind.i64 0),(Go.Value.int Go.IntKind.i64 0),(Go.Value.int Go.IntKind.i64 0),(Go.Value.int Go.IntKind.i64 0),(Go.Value.int Go.IntKind.i64 0),(Go.Value.int Go.IntKind.i64 0),(Go.Value.int Go.IntKind.i64 0),(Go.Value.int Go.IntKind.i64 0),(Go.Value.int Go.IntKind.i64 0),(Go.Value.int Go.IntKind.i64 0),(Go.Value.int Go.IntKind.i64 0),(Go.Value.int Go.IntKind.i64 0),(Go.Value.int Go.IntKind.i64 0),(Go.Value.int Go.IntKind.i64 0),(Go.Value.int Go.IntKind.i64 0),(Go.Value.int Go.IntKind.i64 0),(Go.Value.int Go.IntKind.i64 0),(Go.Value.int Go.IntKind.i64 0),(Go.Value.int Go.IntKind.i64 0),(Go.Value.int Go.IntKind.i64 0),(Go.Value.int Go.IntKind.i64 0),(Go.Value.int Go.IntKind.i64 0),(Go.Value.int Go.IntKind.i64 0),(Go.Value.int Go.IntKind.i64 0),(Go.Value.int Go.IntKind.i64 0),(Go.Value.int Go.IntKind.i64 0)]):=by kernel_rfl
theorem z55:zK Tryz.prog 55=some (Go.Value.agg #[(Go.Value.slice Option.none 0 0),(Go.Value.int Go.IntKind.i64 0),(Go.Value.slice Option.none 0 0),(Go.Value.int Go.IntKind.i64 0),(Go.Value.int Go.IntKind.i64 0),(Go.Value.int Go.IntKind.i64 0),(Go.Value.int Go.IntKind.i64 0),(Go.Value.int Go.IntKind.i64 0),(Go.Value.int Go.IntKind.i64 0),(Go.Value.int Go.IntKind.i64 0),(Go.Value.int Go.IntKind.i64 0),(Go.Value.int Go.IntKind.i64 0),(Go.Value.int Go.IntKind.i64 0),(Go.Value.int Go.IntKind.i64 0),(Go.Value.int Go.IntKind.i64 0),(Go.Value.int Go.IntKind.i64 0),(Go.Value.int Go.IntKind.i64 0),(Go.Value.int Go.IntKind.i64 0),(Go.Value.int Go.IntKind.i64 0),(Go.Value.int Go.IntKind.i64 0),(Go.Value.int Go.IntKind.i64 0),(Go.Value.int Go.IntKind.i64 0),(Go.Value.int Go.IntKind.i64 0),(Go.Value.int Go.IntKind.i64 0),(Go.Value.int Go.IntKind.i64 0),(Go.Value.int Go.IntKind.i64 0),(Go.Value.int Go.IntKind.i64 0),(Go.Value.int Go.IntKind.i64 0),(Go.Value.int Go.IntKind.i64 0),(Go.Value.int Go.IntKind.i64 0),(Go.Value.int Go.IntKind.i64 0),(Go.Value.int Go.IntKind.i64 0),(Go.Value.int Go.IntKind.i64 0),(Go.Value.int Go.IntKind.i64 0),(Go.Value.int Go.IntKind.i64 0),(Go.Value.int Go.IntKind.i64 0),(Go.Value.int Go.IntKind.i64 0),(Go.Value.int Go.IntKind.i64 0),(Go.Value.int Go.IntKind.i64 0),(Go.Value.int Go.IntKind.i64 0),(Go.Value.int Go.IntKind.i64 0),(Go.Value.int Go.IntKind.i64 0),(Go.Value.int Go.IntKind.i64 0),(Go.Value.int Go.IntKind.i64 0),(Go.Value.int Go.IntKind.i64 0),(Go.Value.int Go.IntKind.i64 0),(Go.Value.int Go.IntKind.i64 0),(Go.Value.int Go.IntKind.i64 0),(Go.Value.int Go.IntKind.i64 0),(Go.Value.int Go.IntKind.i64 0),(Go.Value.int Go.IntKind.i64 0),(Go.Value.int Go.IntKind.i64 0)]):=by kernel_rfl
theorem fo55_0:foB Tryz.prog 55 0=some 0:=by kernel_rfl
theorem fo55_1:foB Tryz.prog 55 1=some 2:=by kernel_rfl
theorem fo55_2:foB Tryz.prog 55 2=some 3:=by kernel_rfl
theorem tk56:tkB Tryz.prog 56=some (false,1):=by kernel_rfl
theorem z56:zK Tryz.prog 56=some Go.Value.nilFunc:=by kernel_rfl
theorem tk60:tkB Tryz.prog 60=some (false,1):=by kernel_rfl
theorem z60:zK Tryz.prog 60=some (Go.Value.pointer Option.none):=by kernel_rfl
theorem tk66:tkB Tryz.prog 66=some (true,6):=by kernel_rfl
theorem z66:zK Tryz.prog 66=some (Go.Value.agg #[(Go.Value.int Go.IntKind.i64 0),(Go.Value.int Go.IntKind.i64 0),(Go.Value.int Go.IntKind.i64 0),(Go.Value.int Go.IntKind.i64 0),(Go.Value.int Go.IntKind.i64 0),(Go.Value.int Go.IntKind.i64 0)]):=by kernel_rfl
theorem z70:zK Tryz.prog 70=some Go.Value.nilFunc:=by kernel_rfl
theorem tk72:tkB Tryz.prog 72=some (true,2):=by kernel_rfl
theorem z72:zK Tryz.prog 72=some (Go.Value.agg #[(Go.Value.int Go.IntKind.i64 0),(Go.Value.int Go.IntKind.i64 0)]):=by kernel_rfl
theorem rw72:rowB Tryz.prog 72=some ((Go.Value.agg #[(Go.Value.int Go.IntKind.i64 0),(Go.Value.int Go.IntKind.i64 0)]),2,16):=by kernel_rfl
theorem fo72_0:foB Tryz.prog 72 0=some 0:=by kernel_rfl
theorem fo72_1:foB Tryz.prog 72 1=some 1:=by kernel_rfl
theorem z75:zK Tryz.prog 75=some Go.Value.nilFunc:=by kernel_rfl
theorem z77:zK Tryz.prog 77=some Go.Value.nilFunc:=by kernel_rfl
theorem tk103:tkB Tryz.prog 103=some (true,4):=by kernel_rfl
theorem z103:zK Tryz.prog 103=some (Go.Value.agg #[(Go.Value.int Go.IntKind.i64 0),(Go.Value.int Go.IntKind.i64 0),(Go.Value.int Go.IntKind.i64 0),(Go.Value.int Go.IntKind.i64 0)]):=by kernel_rfl
theorem fo103_0:foB Tryz.prog 103 0=some 0:=by kernel_rfl
theorem fo103_1:foB Tryz.prog 103 1=some 1:=by kernel_rfl
theorem fo103_2:foB Tryz.prog 103 2=some 2:=by kernel_rfl
theorem fo103_3:foB Tryz.prog 103 3=some 3:=by kernel_rfl
theorem z105:zK Tryz.prog 105=some (Go.Value.agg #[(Go.Value.int Go.IntKind.i64 0)]):=by kernel_rfl
theorem fo106_0:foB Tryz.prog 106 0=some 0:=by kernel_rfl
theorem fo114_0:foB Tryz.prog 114 0=some 0:=by kernel_rfl
theorem z116:zK Tryz.prog 116=some Go.Value.nilFunc:=by kernel_rfl
theorem z117:zK Tryz.prog 117=some Go.Value.nilFunc:=by kernel_rfl
theorem tk119:tkB Tryz.prog 119=some (false,1):=by kernel_rfl
theorem z119:zK Tryz.prog 119=some (Go.Value.slice Option.none 0 0):=by kernel_rfl
theorem tk123:tkB Tryz.prog 123=some (true,3):=by kernel_rfl
theorem fo123_0:foB Tryz.prog 123 0=some 0:=by kernel_rfl
theorem fo123_1:foB Tryz.prog 123 1=some 1:=by kernel_rfl
theorem fo123_2:foB Tryz.prog 123 2=some 2:=by kernel_rfl
theorem z124:zK Tryz.prog 124=some Go.Value.nilFunc:=by kernel_rfl
theorem z127:zK Tryz.prog 127=some Go.Value.nilFunc:=by kernel_rfl
theorem z138:zK Tryz.prog 138=some Go.Value.nilFunc:=by kernel_rfl
theorem z139:zK Tryz.prog 139=some Go.Value.nilFunc:=by kernel_rfl
theorem z146:zK Tryz.prog 146=some Go.Value.nilFunc:=by kernel_rfl
theorem tk162:tkB Tryz.prog 162=some (true,2):=by kernel_rfl
theorem z162:zK Tryz.prog 162=some (Go.Value.agg #[(Go.Value.int Go.IntKind.i64 0),(Go.Value.int Go.IntKind.i64 0)]):=by kernel_rfl
theorem rw162:rowB Tryz.prog 162=some ((Go.Value.agg #[(Go.Value.int Go.IntKind.i64 0),(Go.Value.int Go.IntKind.i64 0)]),2,16):=by kernel_rfl
theorem fo162_0:foB Tryz.prog 162 0=some 0:=by kernel_rfl
theorem fo162_1:foB Tryz.prog 162 1=some 1:=by kernel_rfl
theorem z164:zK Tryz.prog 164=some Go.Value.nilFunc:=by kernel_rfl
theorem z182:zK Tryz.prog 182=some Go.Value.nilFunc:=by kernel_rfl
theorem z183:zK Tryz.prog 183=some Go.Value.nilFunc:=by kernel_rfl
theorem tk196:tkB Tryz.prog 196=some (true,4):=by kernel_rfl
theorem z196:zK Tryz.prog 196=some (Go.Value.agg #[(Go.Value.int Go.IntKind.i64 0),(Go.Value.int Go.IntKind.i64 0),(Go.Value.int Go.IntKind.i64 0),(Go.Value.bool Bool.false)]):=by kernel_rfl
theorem fo196_0:foB Tryz.prog 196 0=some 0:=by kernel_rfl
theorem fo196_1:foB Tryz.prog 196 1=some 3:=by kernel_rfl
theorem qG:tkB Tryz.prog 200=some (true,1):=by kernel_rfl
theorem z200:zK Tryz.prog 200=some (Go.Value.agg #[(Go.Value.int Go.IntKind.i64 0)]):=by kernel_rfl
theorem rw200:rowB Tryz.prog 200=some ((Go.Value.agg #[(Go.Value.int Go.IntKind.i64 0)]),1,8):=by kernel_rfl
theorem fo200_0:foB Tryz.prog 200 0=some 0:=by kernel_rfl
theorem fo206_0:foB Tryz.prog 206 0=some 0:=by kernel_rfl
theorem fo206_1:foB Tryz.prog 206 1=some 1:=by kernel_rfl
theorem tk207:tkB Tryz.prog 207=some (false,1):=by kernel_rfl
theorem fo209_0:foB Tryz.prog 209 0=some 0:=by kernel_rfl
theorem fo209_1:foB Tryz.prog 209 1=some 2:=by kernel_rfl
theorem fo209_2:foB Tryz.prog 209 2=some 3:=by kernel_rfl
theorem z218:zK Tryz.prog 218=some (Go.Value.agg #[(Go.Value.int Go.IntKind.i64 0),(Go.Value.int Go.IntKind.i64 0),(Go.Value.int Go.IntKind.i64 0),(Go.Value.int Go.IntKind.i64 0),(Go.Value.int Go.IntKind.i64 0),(Go.Value.int Go.IntKind.i64 0),(Go.Value.int Go.IntKind.i64 0),(Go.Value.int Go.IntKind.i64 0),(Go.Value.int Go.IntKind.i64 0),(Go.Value.int Go.IntKind.i64 0),(Go.Value.int Go.IntKind.i64 0),(Go.Value.int Go.IntKind.i64 0),(Go.Value.int Go.IntKind.i64 0),(Go.Value.int Go.IntKind.i64 0),(Go.Value.int Go.IntKind.i64 0)]):=by kernel_rfl
theorem tk219:tkB Tryz.prog 219=some (true,15):=by kernel_rfl
theorem z219:zK Tryz.prog 219=some (Go.Value.agg #[(Go.Value.int Go.IntKind.i64 0),(Go.Value.int Go.IntKind.i64 0),(Go.Value.int Go.IntKind.i64 0),(Go.Value.int Go.IntKind.i64 0),(Go.Value.int Go.IntKind.i64 0),(Go.Value.int Go.IntKind.i64 0),(Go.Value.int Go.IntKind.i64 0),(Go.Value.int Go.IntKind.i64 0),(Go.Value.int Go.IntKind.i64 0),(Go.Value.int Go.IntKind.i64 0),(Go.Value.int Go.IntKind.i64 0),(Go.Value.int Go.IntKind.i64 0),(Go.Value.int Go.IntKind.i64 0),(Go.Value.int Go.IntKind.i64 0),(Go.Value.int Go.IntKind.i64 0)]):=by kernel_rfl
theorem un252:(Tryz.prog.underlying 252).isSome=true:=by kernel_rfl
theorem tk326:tkB Tryz.prog 326=some (false,1):=by kernel_rfl
theorem tk328:tkB Tryz.prog 328=some (true,2):=by kernel_rfl
theorem z328:zK Tryz.prog 328=some (Go.Value.agg #[(Go.Value.int Go.IntKind.i64 0),(Go.Value.int Go.IntKind.i64 0)]):=by kernel_rfl
theorem rw328:rowB Tryz.prog 328=some ((Go.Value.agg #[(Go.Value.int Go.IntKind.i64 0),(Go.Value.int Go.IntKind.i64 0)]),2,16):=by kernel_rfl
theorem fo328_0:foB Tryz.prog 328 0=some 0:=by kernel_rfl
theorem fo328_1:foB Tryz.prog 328 1=some 1:=by kernel_rfl
theorem fo330_0:foB Tryz.prog 330 0=some 0:=by kernel_rfl
theorem fo330_1:foB Tryz.prog 330 1=some 1:=by kernel_rfl
theorem tk341:tkB Tryz.prog 341=some (true,2):=by kernel_rfl
theorem z341:zK Tryz.prog 341=some (Go.Value.agg #[(Go.Value.int Go.IntKind.i64 0),(Go.Value.int Go.IntKind.i64 0)]):=by kernel_rfl
theorem fo341_0:foB Tryz.prog 341 0=some 0:=by kernel_rfl
theorem fo341_1:foB Tryz.prog 341 1=some 1:=by kernel_rfl
theorem fo425_0:foB Tryz.prog 425 0=some 0:=by kernel_rfl
theorem tk487:tkB Tryz.prog 487=some (true,2):=by kernel_rfl
theorem z487:zK Tryz.prog 487=some (Go.Value.agg #[(Go.Value.int Go.IntKind.i64 0),(Go.Value.int Go.IntKind.i64 0)]):=by kernel_rfl
theorem fo487_0:foB Tryz.prog 487 0=some 0:=by kernel_rfl
theorem tk566:tkB Tryz.prog 566=some (false,1):=by kernel_rfl
theorem tk781:tkB Tryz.prog 781=some (false,1):=by kernel_rfl
theorem jA:tkB Tryz.prog 787=some (true,2):=by kernel_rfl
theorem z787:zK Tryz.prog 787=some (Go.Value.agg #[(Go.Value.slice Option.none 0 0),(Go.Value.int Go.IntKind.i64 0)]):=by kernel_rfl
theorem rw787:rowB Tryz.prog 787=some ((Go.Value.agg #[(Go.Value.slice Option.none 0 0),(Go.Value.int Go.IntKind.i64 0)]),2,32):=by kernel_rfl
theorem fo787_0:foB Tryz.prog 787 0=some 0:=by kernel_rfl
theorem fo787_1:foB Tryz.prog 787 1=some 1:=by kernel_rfl
theorem ok4:zi Tryz.prog 4:=zf Tryz.func4 (by kernel_rfl) (by kernel_rfl)
theorem ok5:zi Tryz.prog 5:=zf Tryz.func5 (by kernel_rfl) (by kernel_rfl)
theorem ok6:zi Tryz.prog 6:=zf Tryz.func6 (by kernel_rfl) (by kernel_rfl)
theorem ok7:zi Tryz.prog 7:=zf Tryz.func7 (by kernel_rfl) (by kernel_rfl)
theorem ok8:zi Tryz.prog 8:=zf Tryz.func8 (by kernel_rfl) (by kernel_rfl)
theorem ok9:zi Tryz.prog 9:=zf Tryz.func9 (by kernel_rfl) (by kernel_rfl)
theorem ok10:zi Tryz.prog 10:=zf Tryz.func10 (by kernel_rfl) (by kernel_rfl)
theorem ok13:zi Tryz.prog 13:=zf Tryz.func13 (by kernel_rfl) (by kernel_rfl)
theorem ok14:zi Tryz.prog 14:=zf Tryz.func14 (by kernel_rfl) (by kernel_rfl)
theorem ok15:zi Tryz.prog 15:=zf Tryz.func15 (by kernel_rfl) (by kernel_rfl)
theorem ok16:zi Tryz.prog 16:=zf Tryz.func16 (by kernel_rfl) (by kernel_rfl)
theorem ok17:zi Tryz.prog 17:=zf Tryz.func17 (by kernel_rfl) (by kernel_rfl)
theorem ok18:zi Tryz.prog 18:=zf Tryz.func18 (by kernel_rfl) (by kernel_rfl)
theorem ok19:zi Tryz.prog 19:=zf Tryz.func19 (by kernel_rfl) (by kernel_rfl)
theorem ok20:zi Tryz.prog 20:=zf Tryz.func20 (by kernel_rfl) (by kernel_rfl)
theorem ok21:zi Tryz.prog 21:=zf Tryz.func21 (by kernel_rfl) (by kernel_rfl)
theorem ok22:zi Tryz.prog 22:=zf Tryz.func22 (by kernel_rfl) (by kernel_rfl)
theorem ok23:zi Tryz.prog 23:=zf Tryz.func23 (by kernel_rfl) (by kernel_rfl)
theorem ok24:zi Tryz.prog 24:=zf Tryz.func24 (by kernel_rfl) (by kernel_rfl)
theorem ok25:zi Tryz.prog 25:=zf Tryz.func25 (by kernel_rfl) (by kernel_rfl)
theorem ok50:zi Tryz.prog 50:=zf Tryz.func50 (by kernel_rfl) (by kernel_rfl)
theorem ok51:zi Tryz.prog 51:=zf Tryz.func51 (by kernel_rfl) (by kernel_rfl)
theorem ok52:zi Tryz.prog 52:=zf Tryz.func52 (by kernel_rfl) (by kernel_rfl)
theorem ok53:zi Tryz.prog 53:=zf Tryz.func53 (by kernel_rfl) (by kernel_rfl)
theorem ok54:zi Tryz.prog 54:=zf Tryz.func54 (by kernel_rfl) (by kernel_rfl)
theorem ok55:zi Tryz.prog 55:=zf Tryz.func55 (by kernel_rfl) (by kernel_rfl)
theorem ok56:zi Tryz.prog 56:=zf Tryz.func56 (by kernel_rfl) (by kernel_rfl)
theorem ok57:zi Tryz.prog 57:=zf Tryz.func57 (by kernel_rfl) (by kernel_rfl)
theorem ok58:zi Tryz.prog 58:=zf Tryz.func58 (by kernel_rfl) (by kernel_rfl)
theorem ok59:zi Tryz.prog 59:=zf Tryz.func59 (by kernel_rfl) (by kernel_rfl)
theorem ok60:zi Tryz.prog 60:=zf Tryz.func60 (by kernel_rfl) (by kernel_rfl)
theorem ok61:zi Tryz.prog 61:=zf Tryz.func61 (by kernel_rfl) (by kernel_rfl)
theorem ok62:zi Tryz.prog 62:=zf Tryz.func62 (by kernel_rfl) (by kernel_rfl)
theorem ok63:zi Tryz.prog 63:=zf Tryz.func63 (by kernel_rfl) (by kernel_rfl)
theorem ok64:zi Tryz.prog 64:=zf Tryz.func64 (by kernel_rfl) (by kernel_rfl)
theorem ok65:zi Tryz.prog 65:=zf Tryz.func65 (by kernel_rfl) (by kernel_rfl)
theorem ok66:zi Tryz.prog 66:=zf Tryz.func66 (by kernel_rfl) (by kernel_rfl)
theorem ok67:zi Tryz.prog 67:=zf Tryz.func67 (by kernel_rfl) (by kernel_rfl)
theorem ok68:zi Tryz.prog 68:=zf Tryz.func68 (by kernel_rfl) (by kernel_rfl)
theorem ok69:zi Tryz.prog 69:=zf Tryz.func69 (by kernel_rfl) (by kernel_rfl)
theorem ok70:zi Tryz.prog 70:=zf Tryz.func70 (by kernel_rfl) (by kernel_rfl)
theorem ok71:zi Tryz.prog 71:=zf Tryz.func71 (by kernel_rfl) (by kernel_rfl)
theorem ok72:zi Tryz.prog 72:=zf Tryz.func72 (by kernel_rfl) (by kernel_rfl)
theorem ok105:zi Tryz.prog 105:=zf Tryz.func105 (by kernel_rfl) (by kernel_rfl)
theorem ok119:zi Tryz.prog 119:=zf Tryz.func119 (by kernel_rfl) (by kernel_rfl)
theorem ok120:zi Tryz.prog 120:=zf Tryz.func120 (by kernel_rfl) (by kernel_rfl)
theorem ok121:zi Tryz.prog 121:=zf Tryz.func121 (by kernel_rfl) (by kernel_rfl)
theorem ok122:zi Tryz.prog 122:=zf Tryz.func122 (by kernel_rfl) (by kernel_rfl)
theorem ok123:zi Tryz.prog 123:=zf Tryz.func123 (by kernel_rfl) (by kernel_rfl)
theorem ok125:zi Tryz.prog 125:=zf Tryz.func125 (by kernel_rfl) (by kernel_rfl)
theorem ok126:zi Tryz.prog 126:=zf Tryz.func126 (by kernel_rfl) (by kernel_rfl)
theorem ok127:zi Tryz.prog 127:=zf Tryz.func127 (by kernel_rfl) (by kernel_rfl)
theorem ok128:zi Tryz.prog 128:=zf Tryz.func128 (by kernel_rfl) (by kernel_rfl)
theorem ok151:zi Tryz.prog 151:=zf Tryz.func151 (by kernel_rfl) (by kernel_rfl)
theorem ok152:zi Tryz.prog 152:=zf Tryz.func152 (by kernel_rfl) (by kernel_rfl)
theorem ok153:zi Tryz.prog 153:=zf Tryz.func153 (by kernel_rfl) (by kernel_rfl)
theorem ok156:zi Tryz.prog 156:=zf Tryz.func156 (by kernel_rfl) (by kernel_rfl)
theorem ok157:zi Tryz.prog 157:=zf Tryz.func157 (by kernel_rfl) (by kernel_rfl)
theorem ok164:zi Tryz.prog 164:=zf Tryz.func164 (by kernel_rfl) (by kernel_rfl)
theorem ok165:zi Tryz.prog 165:=zf Tryz.func165 (by kernel_rfl) (by kernel_rfl)
theorem ok166:zi Tryz.prog 166:=zf Tryz.func166 (by kernel_rfl) (by kernel_rfl)
theorem ok202:zi Tryz.prog 202:=zf Tryz.func202 (by kernel_rfl) (by kernel_rfl)
theorem ok203:zi Tryz.prog 203:=zf Tryz.func203 (by kernel_rfl) (by kernel_rfl)
theorem ok204:zi Tryz.prog 204:=zf Tryz.func204 (by kernel_rfl) (by kernel_rfl)
theorem ok257:zi Tryz.prog 257:=zf Tryz.func257 (by kernel_rfl) (by kernel_rfl)
theorem ok258:zi Tryz.prog 258:=zf Tryz.func258 (by kernel_rfl) (by kernel_rfl)
theorem ok261:zi Tryz.prog 261:=zf Tryz.func261 (by kernel_rfl) (by kernel_rfl)
theorem ok262:zi Tryz.prog 262:=zf Tryz.func262 (by kernel_rfl) (by kernel_rfl)
theorem ok263:zi Tryz.prog 263:=zf Tryz.func263 (by kernel_rfl) (by kernel_rfl)
theorem ok331:zi Tryz.prog 331:=zf Tryz.func331 (by kernel_rfl) (by kernel_rfl)
theorem ok338:zi Tryz.prog 338:=zf Tryz.func338 (by kernel_rfl) (by kernel_rfl)
theorem ok342:zi Tryz.prog 342:=zf Tryz.func342 (by kernel_rfl) (by kernel_rfl)
theorem ok369:zi Tryz.prog 369:=zf Tryz.func369 (by kernel_rfl) (by kernel_rfl)
theorem ok406:zi Tryz.prog 406:=zf Tryz.func406 (by kernel_rfl) (by kernel_rfl)
theorem ok455:zi Tryz.prog 455:=zf Tryz.func455 (by kernel_rfl) (by kernel_rfl)
theorem ok461:zi Tryz.prog 461:=zf Tryz.func461 (by kernel_rfl) (by kernel_rfl)
theorem ok693:zi Tryz.prog 693:=zf Tryz.func693 (by kernel_rfl) (by kernel_rfl)
theorem ok764:zi Tryz.prog 764:=zf Tryz.func764 (by kernel_rfl) (by kernel_rfl)
theorem ok765:zi Tryz.prog 765:=zf Tryz.func765 (by kernel_rfl) (by kernel_rfl)
theorem bd32_0 (x1:Int) (w:World):(Instr.build 32 #[(0,(.int .i64 x1))]).run Tryz.prog w=.ok (.agg #[(.int .i64 x1),(Go.Value.slice Option.none 0 0)]) w:=by kernel_rfl
theorem bs34_2_0_1 (x1:Int) (x2:Int) (w:World):(Instr.buildSlice 34 2 #[(0,(.int .i64 x1)),(1,(.int .i64 x2))]).run Tryz.prog w=.ok (.slice (some ⟨w.heap.size,0,none⟩) 2 2) (w.alloc (LC [(.int .i64 x1),(.int .i64 x2)] 3)):=by kernel_rfl
theorem bd36_0_1 (x1:Int) (x2:Int) (w:World):(Instr.build 36 #[(0,(.int .i64 x1)),(1,(.int .i64 x2))]).run Tryz.prog w=.ok (.agg #[(.int .i64 x1),(.int .i64 x2)]) w:=by kernel_rfl
theorem bs30_1_0 (x1:Int) (x2:Int) (w:World):(Instr.buildSlice 30 1 #[(0,(.agg #[(.int .i64 x1),(.int .i64 x2)]))]).run Tryz.prog w=.ok (.slice (some ⟨w.heap.size,0,none⟩) 1 1) (w.alloc (LC [(.int .i64 x1),(.int .i64 x2)] 36)):=by kernel_rfl
theorem bd46_0_1 (x1:Int) (x2:Int) (w:World):(Instr.build 46 #[(0,(.int .i64 x1)),(1,(.int .i64 x2))]).run Tryz.prog w=.ok (.agg #[(.int .i64 x1),(.int .i64 x2)]) w:=by kernel_rfl
theorem bs28_1_0 (x1:Int) (x2:Int) (w:World):(Instr.buildSlice 28 1 #[(0,(.agg #[(.int .i64 x1),(.int .i64 x2)]))]).run Tryz.prog w=.ok (.slice (some ⟨w.heap.size,0,none⟩) 1 1) (w.alloc (LC [(.int .i64 x1),(.int .i64 x2)] 46)):=by kernel_rfl
theorem zR (x1:Int) (w:World):(Instr.buildSlice 34 1 #[(0,(.int .i64 x1))]).run Tryz.prog w=.ok (.slice (some ⟨w.heap.size,0,none⟩) 1 1) (w.alloc (LC [(.int .i64 x1)] 3)):=by kernel_rfl
theorem bs41_1_0 (x1:Int) (x2:Int) (w:World):(Instr.buildSlice 41 1 #[(0,(.agg #[(.int .i64 x1),(.int .i64 x2)]))]).run Tryz.prog w=.ok (.slice (some ⟨w.heap.size,0,none⟩) 1 1) (w.alloc (LC [(.int .i64 x1),(.int .i64 x2)] 72)):=by kernel_rfl
theorem bd106_0 (x1:Int) (w:World):(Instr.build 106 #[(0,(.int .i64 x1))]).run Tryz.prog w=.ok (.agg #[(.int .i64 x1)]) w:=by kernel_rfl
theorem bs37_1_0 (x1:Option Addr) (x2:Nat) (x3:Nat) (w:World):(Instr.buildSlice 37 1 #[(0,(.slice x1 x2 x3))]).run Tryz.prog w=.ok (.slice (some ⟨w.heap.size,0,none⟩) 1 1) (w.alloc (LC [(.slice x1 x2 x3)] 34)):=by kernel_rfl
theorem bd114_0 (x1:Int) (x2:Option Addr) (x3:Nat) (x4:Nat) (w:World):(Instr.build 114 #[(0,(.agg #[(.int .i64 x1),(.slice x2 x3 x4)]))]).run Tryz.prog w=.ok (.agg #[(.int .i64 x1),(.slice x2 x3 x4)]) w:=by kernel_rfl
theorem bd55_0 (x1:Option Addr) (x2:Nat) (x3:Nat) (x4:Int) (w:World):(Instr.build 55 #[(0,(.agg #[(.slice x1 x2 x3),(.int .i64 x4)]))]).run Tryz.prog w=.ok (.agg #[(.slice x1 x2 x3),(.int .i64 x4),(Go.Value.slice Option.none 0 0),(Go.Value.int Go.IntKind.i64 0),(Go.Value.int Go.IntKind.i64 0),(Go.Value.int Go.IntKind.i64 0),(Go.Value.int Go.IntKind.i64 0),(Go.Value.int Go.IntKind.i64 0),(Go.Value.int Go.IntKind.i64 0),(Go.Value.int Go.IntKind.i64 0),(Go.Value.int Go.IntKind.i64 0),(Go.Value.int Go.IntKind.i64 0),(Go.Value.int Go.IntKind.i64 0),(Go.Value.int Go.IntKind.i64 0),(Go.Value.int Go.IntKind.i64 0),(Go.Value.int Go.IntKind.i64 0),(Go.Value.int Go.IntKind.i64 0),(Go.Value.int Go.IntKind.i64 0),(Go.Value.int Go.IntKind.i64 0),(Go.Value.int Go.IntKind.i64 0),(Go.Value.int Go.IntKind.i64 0),(Go.Value.int Go.IntKind.i64 0),(Go.Value.int Go.IntKind.i64 0),(Go.Value.int Go.IntKind.i64 0),(Go.Value.int Go.IntKind.i64 0),(Go.Value.int Go.IntKind.i64 0),(Go.Value.int Go.IntKind.i64 0),(Go.Value.int Go.IntKind.i64 0),(Go.Value.int Go.IntKind.i64 0),(Go.Value.int Go.IntKind.i64 0),(Go.Value.int Go.IntKind.i64 0),(Go.Value.int Go.IntKind.i64 0),(Go.Value.int Go.IntKind.i64 0),(Go.Value.int Go.IntKind.i64 0),(Go.Value.int Go.IntKind.i64 0),(Go.Value.int Go.IntKind.i64 0),(Go.Value.int Go.IntKind.i64 0),(Go.Value.int Go.IntKind.i64 0),(Go.Value.int Go.IntKind.i64 0),(Go.Value.int Go.IntKind.i64 0),(Go.Value.int Go.IntKind.i64 0),(Go.Value.int Go.IntKind.i64 0),(Go.Value.int Go.IntKind.i64 0),(Go.Value.int Go.IntKind.i64 0),(Go.Value.int Go.IntKind.i64 0),(Go.Value.int Go.IntKind.i64 0),(Go.Value.int Go.IntKind.i64 0),(Go.Value.int Go.IntKind.i64 0),(Go.Value.int Go.IntKind.i64 0),(Go.Value.int Go.IntKind.i64 0),(Go.Value.int Go.IntKind.i64 0),(Go.Value.int Go.IntKind.i64 0)]) w:=by kernel_rfl
theorem bd162_0_1 (x1:Int) (x2:Int) (w:World):(Instr.build 162 #[(0,(.int .i64 x1)),(1,(.int .i64 x2))]).run Tryz.prog w=.ok (.agg #[(.int .i64 x1),(.int .i64 x2)]) w:=by kernel_rfl
theorem bs51_1_0 (x1:Int) (x2:Int) (w:World):(Instr.buildSlice 51 1 #[(0,(.agg #[(.int .i64 x1),(.int .i64 x2)]))]).run Tryz.prog w=.ok (.slice (some ⟨w.heap.size,0,none⟩) 1 1) (w.alloc (LC [(.int .i64 x1),(.int .i64 x2)] 162)):=by kernel_rfl
theorem bd53  (w:World):(Instr.build 53 #[]).run Tryz.prog w=.ok (.agg #[(Go.Value.int Go.IntKind.i64 0),(Go.Value.int Go.IntKind.i64 0),(Go.Value.int Go.IntKind.i64 0),(Go.Value.int Go.IntKind.i64 0),(Go.Value.int Go.IntKind.i64 0),(Go.Value.int Go.IntKind.i64 0),(Go.Value.int Go.IntKind.i64 0),(Go.Value.int Go.IntKind.i64 0),(Go.Value.int Go.IntKind.i64 0),(Go.Value.int Go.IntKind.i64 0),(Go.Value.int Go.IntKind.i64 0),(Go.Value.int Go.IntKind.i64 0),(Go.Value.int Go.IntKind.i64 0),(Go.Value.int Go.IntKind.i64 0),(Go.Value.int Go.IntKind.i64 0),(Go.Value.int Go.IntKind.i64 0),(Go.Value.int Go.IntKind.i64 0),(Go.Value.int Go.IntKind.i64 0),(Go.Value.int Go.IntKind.i64 0),(Go.Value.int Go.IntKind.i64 0),(Go.Value.int Go.IntKind.i64 0),(Go.Value.int Go.IntKind.i64 0),(Go.Value.int Go.IntKind.i64 0),(Go.Value.int Go.IntKind.i64 0),(Go.Value.int Go.IntKind.i64 0),(Go.Value.int Go.IntKind.i64 0),(Go.Value.int Go.IntKind.i64 0),(Go.Value.int Go.IntKind.i64 0),(Go.Value.int Go.IntKind.i64 0),(Go.Value.int Go.IntKind.i64 0),(Go.Value.int Go.IntKind.i64 0),(Go.Value.int Go.IntKind.i64 0),(Go.Value.int Go.IntKind.i64 0),(Go.Value.int Go.IntKind.i64 0),(Go.Value.int Go.IntKind.i64 0),(Go.Value.int Go.IntKind.i64 0),(Go.Value.int Go.IntKind.i64 0),(Go.Value.int Go.IntKind.i64 0),(Go.Value.int Go.IntKind.i64 0),(Go.Value.int Go.IntKind.i64 0),(Go.Value.int Go.IntKind.i64 0),(Go.Value.int Go.IntKind.i64 0),(Go.Value.int Go.IntKind.i64 0),(Go.Value.int Go.IntKind.i64 0),(Go.Value.int Go.IntKind.i64 0),(Go.Value.int Go.IntKind.i64 0),(Go.Value.int Go.IntKind.i64 0),(Go.Value.int Go.IntKind.i64 0),(Go.Value.int Go.IntKind.i64 0)]) w:=by kernel_rfl
theorem bd103_0_1_2_3 (x1:Int) (x2:Int) (x3:Int) (x4:Int) (w:World):(Instr.build 103 #[(0,(.int .i64 x1)),(1,(.int .i64 x2)),(2,(.int .i64 x3)),(3,(.int .i64 x4))]).run Tryz.prog w=.ok (.agg #[(.int .i64 x1),(.int .i64 x2),(.int .i64 x3),(.int .i64 x4)]) w:=by kernel_rfl
theorem bd72_0_1 (x1:Int) (x2:Int) (w:World):(Instr.build 72 #[(0,(.int .i64 x1)),(1,(.int .i64 x2))]).run Tryz.prog w=.ok (.agg #[(.int .i64 x1),(.int .i64 x2)]) w:=by kernel_rfl
theorem bd200  (w:World):(Instr.build 200 #[]).run Tryz.prog w=.ok (.agg #[(Go.Value.int Go.IntKind.i64 0)]) w:=by kernel_rfl
theorem bs34_3_0_1_2 (x1:Int) (x2:Int) (x3:Int) (w:World):(Instr.buildSlice 34 3 #[(0,(.int .i64 x1)),(1,(.int .i64 x2)),(2,(.int .i64 x3))]).run Tryz.prog w=.ok (.slice (some ⟨w.heap.size,0,none⟩) 3 3) (w.alloc (LC [(.int .i64 x1),(.int .i64 x2),(.int .i64 x3)] 3)):=by kernel_rfl
theorem bd219  (w:World):(Instr.build 219 #[]).run Tryz.prog w=.ok (.agg #[(Go.Value.int Go.IntKind.i64 0),(Go.Value.int Go.IntKind.i64 0),(Go.Value.int Go.IntKind.i64 0),(Go.Value.int Go.IntKind.i64 0),(Go.Value.int Go.IntKind.i64 0),(Go.Value.int Go.IntKind.i64 0),(Go.Value.int Go.IntKind.i64 0),(Go.Value.int Go.IntKind.i64 0),(Go.Value.int Go.IntKind.i64 0),(Go.Value.int Go.IntKind.i64 0),(Go.Value.int Go.IntKind.i64 0),(Go.Value.int Go.IntKind.i64 0),(Go.Value.int Go.IntKind.i64 0),(Go.Value.int Go.IntKind.i64 0),(Go.Value.int Go.IntKind.i64 0)]) w:=by kernel_rfl
theorem bd206_0 (x1:Option Addr) (x2:Nat) (x3:Nat) (w:World):(Instr.build 206 #[(0,(.slice x1 x2 x3))]).run Tryz.prog w=.ok (.agg #[(.slice x1 x2 x3),(Go.Value.int Go.IntKind.i64 0)]) w:=by kernel_rfl
theorem bd209_0 (x1:Option Addr) (x2:Nat) (x3:Nat) (x4:Int) (w:World):(Instr.build 209 #[(0,(.agg #[(.slice x1 x2 x3),(.int .i64 x4)]))]).run Tryz.prog w=.ok (.agg #[(.slice x1 x2 x3),(.int .i64 x4),(Go.Value.slice Option.none 0 0),(Go.Value.slice Option.none 0 0)]) w:=by kernel_rfl
theorem bd200_0 (x1:Int) (w:World):(Instr.build 200 #[(0,(.int .i64 x1))]).run Tryz.prog w=.ok (.agg #[(.int .i64 x1)]) w:=by kernel_rfl
theorem bs207_1_0 (x1:Int) (w:World):(Instr.buildSlice 207 1 #[(0,(.agg #[(.int .i64 x1)]))]).run Tryz.prog w=.ok (.slice (some ⟨w.heap.size,0,none⟩) 1 1) (w.alloc (LC [(.int .i64 x1)] 200)):=by kernel_rfl
theorem bd487_0_1 (x1:Int) (x2:Int) (w:World):(Instr.build 487 #[(0,(.int .i64 x1)),(1,(.int .i64 x2))]).run Tryz.prog w=.ok (.agg #[(.int .i64 x1),(.int .i64 x2)]) w:=by kernel_rfl
theorem bd341_0_1 (x1:Int) (x2:Int) (w:World):(Instr.build 341 #[(0,(.int .i64 x1)),(1,(.int .i64 x2))]).run Tryz.prog w=.ok (.agg #[(.int .i64 x1),(.int .i64 x2)]) w:=by kernel_rfl
theorem bs173_1_0 (x1:Int) (w:World):(Instr.buildSlice 173 1 #[(0,(.int .i64 x1))]).run Tryz.prog w=.ok (.slice (some ⟨w.heap.size,0,none⟩) 1 1) (w.alloc (LC [(.int .i64 x1)] 2)):=by kernel_rfl
theorem bs785_1_0 (x1:Option Addr) (x2:Nat) (x3:Nat) (x4:Int) (w:World):(Instr.buildSlice 785 1 #[(0,(.agg #[(.slice x1 x2 x3),(.int .i64 x4)]))]).run Tryz.prog w=.ok (.slice (some ⟨w.heap.size,0,none⟩) 1 1) (w.alloc (LC [(.slice x1 x2 x3),(.int .i64 x4)] 787)):=by kernel_rfl
theorem bs566_1_0 (x1:Int) (x2:Int) (w:World):(Instr.buildSlice 566 1 #[(0,(.agg #[(.int .i64 x1),(.int .i64 x2)]))]).run Tryz.prog w=.ok (.slice (some ⟨w.heap.size,0,none⟩) 1 1) (w.alloc (LC [(.int .i64 x1),(.int .i64 x2)] 328)):=by kernel_rfl
theorem bd787_0_1 (x1:Option Addr) (x2:Nat) (x3:Nat) (x4:Int) (w:World):(Instr.build 787 #[(0,(.slice x1 x2 x3)),(1,(.int .i64 x4))]).run Tryz.prog w=.ok (.agg #[(.slice x1 x2 x3),(.int .i64 x4)]) w:=by kernel_rfl
theorem ffm:Tryz.prog.follows .mixedOrders=true:=by kernel_rfl
end Go.Proofs.YtnffcfhdnjbdbaaGreatDoor
namespace Go.Proofs.YtnffcfhdnjbdbaaGreatDoor
open Go.Lw Go.RowKit
theorem eqS200 (x1:Int) (x2:Int):EqS Tryz.prog 200 [(.int .i64 x1)] [(.int .i64 x2)] (decide (x1=x2)):=by
 refine⟨by first | exact Tryz.eqGuardType200 | kernel_rfl,λw=>?_⟩;have u3:=Tryz.underlying3;have a3:=Tryz.isAgg3;have z3:=Tryz.sizeOf3;have hS:Tryz.prog.underlying 200=some (.struct (Tryz.prog.fieldsOf 200)):=by kernel_rfl
 have hp:Tryz.prog.stoodInHeld 200=false:=by kernel_rfl
 rw[show(10000:Nat)=9999+1 from rfl,run_equalIn_agg w 9999 200 _ _ hS hp];simp only[Program.fieldsOf,Tryz.underlying200]
 go_simp
 by_cases h0:x1=x2<;>simp[*]
theorem eqS487 (x1:Int) (x2:Int) (x3:Int) (x4:Int):EqS Tryz.prog 487 [(.int .i64 x1),(.int .i64 x2)] [(.int .i64 x3),(.int .i64 x4)] (decide (x1=x3/\x2=x4)):=by
 refine⟨by first | exact Tryz.eqGuardType487 | kernel_rfl,λw=>?_⟩;have u2:=Tryz.underlying2;have a2:=Tryz.isAgg2;have z2:=Tryz.sizeOf2;have hS:Tryz.prog.underlying 487=some (.struct (Tryz.prog.fieldsOf 487)):=by kernel_rfl
 have hp:Tryz.prog.stoodInHeld 487=false:=by kernel_rfl
 rw[show(10000:Nat)=9999+1 from rfl,run_equalIn_agg w 9999 487 _ _ hS hp];simp only[Program.fieldsOf,Tryz.underlying487]
 go_simp
 by_cases h0:x1=x3<;>by_cases h1:x2=x4<;>simp[*]
theorem fl200_0 (x1:Int) (w:World):(Instr.field 200 (.agg #[(.int .i64 x1)]) 0).run Tryz.prog w=.ok (.int .i64 x1) w:=by kernel_rfl
end Go.Proofs.YtnffcfhdnjbdbaaGreatDoor
namespace Go.Lw
open Go.RowKit
section
variable {α β:Type} [DecidableEq α] (f:α->β)
theorem mdel_eq {a:α} : ∀ {M:MM α β},(M.map (·.1)).Nodup->mdel a M=M.filter λe=>!decide (e.1=a)
 | [],_=>rfl
 | e::M,h=>by
  simp only[List.map_cons,List.nodup_cons]at h;by_cases c:a=e.1
  ·have:∀ e'∈M,(!decide (e'.1=a))=true:=λe' he=>by
    have:e'.1≠a:=λhc=>h.1 (by rw[<-c,<-hc];exact List.mem_map_of_mem he)
    simp[this]
   simp only[mdel,c,if_true,List.filter_cons,decide_true,Bool.not_true,Bool.false_eq_true,if_false];rw[<-c];exact(List.filter_eq_self.2 this).symm
  ·have c':¬ e.1=a:=λh=>c h.symm
   simp[mdel,c,c',mdel_eq h.2]
end
def left {α β:Type} (g:α×β×Nat->Bool) (M:MM α β) (seen:Array Nat):MM α β:=M.filter λe=>g e || !seen.contains e.2.2
theorem left_nil {α β:Type} (g:α×β×Nat->Bool) (M:MM α β):left g M #[]=M:=by unfold left;rw[List.filter_eq_self.2];intro e _;simp
theorem inj_of {γ δ:Type} (h:γ->δ):∀ {l:List γ} {x y:γ},(l.map h).Nodup->x∈l->y∈l->h x=h y->x=y
 | b::l,x,y,hn,hx,hy,e=>by
  simp only[List.map_cons,List.nodup_cons]at hn;rcases List.mem_cons.1 hx with hx' | hx'<;>rcases List.mem_cons.1 hy with hy' | hy'
  ·rw[hx',hy']
  ·exact absurd (by rw[<-hx',e];exact List.mem_map_of_mem hy') hn.1
  ·exact absurd (by rw[<-hy',<-e];exact List.mem_map_of_mem hx') hn.1
  ·exact inj_of h hn.2 hx' hy' e
theorem filter_lt {γ:Type} {p q:γ->Bool} : ∀ {l:List γ} {x:γ},(∀ y∈l,p y=true->q y=true)->x∈l->q x=true->p x=false->(l.filter p).length<(l.filter q).length
 | b::l,x,h,hx,hq,hp=>by
  have mono:∀ l:List γ,(∀ y∈l,p y=true->q y=true)->(l.filter p).length<=(l.filter q).length:=by
   intro l;induction l with
   | nil=>intro _;simp
   | cons b l ih=>
    intro h;have:=ih λy hy=>h y (List.mem_cons_of_mem _ hy);by_cases c:p b=true
    ·have d:=h b (by simp) c
     simp[List.filter_cons,c,d,this]
    ·simp only[List.filter_cons,c,if_false,Bool.false_eq_true];split
     ·simp only[List.length_cons];omega
     ·exact this
  rcases List.mem_cons.1 hx with rfl | hx
  ·have:=mono l λy hy=>h y (List.mem_cons_of_mem _ hy)
   simp only[List.filter_cons,hp,hq,if_true,if_false,Bool.false_eq_true,List.length_cons];omega
  ·have ih:=filter_lt (λy hy=>h y (List.mem_cons_of_mem _ hy)) hx hq hp
   by_cases c:p b=true
   ·have d:=h b (by simp) c
    simp only[List.filter_cons,c,d,if_true,List.length_cons];omega
   ·simp only[List.filter_cons,c,if_false,Bool.false_eq_true];split
    ·simp only[List.length_cons];omega
    ·exact ih
theorem left_keep {α β:Type} {g:α×β×Nat->Bool} {M:MM α β} {seen:Array Nat} {e:α×β×Nat} (hb:(M.map (·.2.2)).Nodup) (he:e∈M) (hg:g e=true):left g M (seen.push e.2.2)=left g M seen:=by
 unfold left;refine List.filter_congr λx hx=>?_;by_cases c:x.2.2=e.2.2
 ·have:x=e:=inj_of (λe:α×β×Nat=>e.2.2) hb hx he c
  subst this;simp[hg]
 ·have:¬ e.2.2=x.2.2:=λh=>c h.symm
  simp[Array.contains_push,c]
theorem left_del {α β:Type} [DecidableEq α] {g:α×β×Nat->Bool} {M:MM α β} {seen:Array Nat} {e:α×β×Nat} (hb:(M.map (·.2.2)).Nodup) (hk:(M.map (·.1)).Nodup) (he:e∈M) (hg:g e=false) :
  mdel e.1 (left g M seen)=left g M (seen.push e.2.2):=by
 have hkl:((left g M seen).map (·.1)).Nodup:=hk.sublist ((List.filter_sublist).map _)
 rw[mdel_eq hkl];unfold left;rw[List.filter_filter];refine List.filter_congr λx hx=>?_;by_cases c:x.1=e.1
 ·have:x=e:=inj_of (λe:α×β×Nat=>e.1) hk hx he c
  subst this;simp[hg]
 ·have:¬ x.2.2=e.2.2:=λh=>c (by rw[inj_of (λe:α×β×Nat=>e.2.2) hb hx he h])
  simp[Array.contains_push,c,this]
theorem kr {α β:Type} {M:MM α β} {seen:Array Nat} {e:α×β×Nat} (he:e∈M) (hs:e.2.2∉seen) :
  (M.filter λx=>!(seen.push e.2.2).contains x.2.2).length<(M.filter λx=>!seen.contains x.2.2).length:=by
 refine filter_lt (x:=e) (λy _ h=>?_) he (by simpa using hs) (by simp);simp at h⊢;exact h.1
theorem left_end {α β:Type} {g:α×β×Nat->Bool} {M:MM α β} {seen:Array Nat} (h:∀ e∈left g M seen,e.2.2∈seen):left g M seen=M.filter g:=by
 unfold left at *;refine List.filter_congr λx hx=>?_;cases hg:g x with
 | true=>simp
 | false=>
  by_cases c:x.2.2∈seen
  ·simp[c]
  ·have:=h x (by rw[List.mem_filter];exact⟨hx,by simp[hg,c]⟩)
   exact absurd this c
theorem jg {α β:Type} [DecidableEq α] (a:α):∀ (M:MM α β),kI a M=true↔∃ e∈M,e.1=a
 | []=>by simp[kI]
 | e::M=>by
  by_cases c:a=e.1
  ·simp[kI,c]
  ·have c':¬ e.1=a:=λh=>c h.symm
   simp[kI,c,c',jg a M]
section
variable {α β:Type} [DecidableEq α] {P:Program} {kt et:TypeId} {ek:α->Value} {ev':β->Value} {M:MM α β} {b c:Nat}
theorem fk_isSome (a:α):∀ (M:MM α β) (i:Nat),(fk a M i).isSome=kI a M
 | [],_=>rfl
 | e::M,i=>by
  simp only[fk,kI];by_cases c:a=e.1
  ·simp[c]
  ·simp only[c,if_false];exact fk_isSome a M (i+1)
variable {cx:Cx} {n:Nat} {ks:List (Nat×Value)} {O O' R R':List Own} {V:View} {ops:Array Oper} {Qn:Act->World->Prop} {t:Tr} {i d:Nat} {T:TypeId} {pos:String} {after:Array Edge} {gd:Option (Nat×Bool)} {x y z:Operand}
end
section
variable {α β:Type} [DecidableEq α]
def mIns (a:α) (v:β) (M:MM α β) (c:Nat):MM α β×Nat:=if kI a M=true then (M,c)else (M++[(a,v,c)],c+1)
theorem mmod_same {a:α} {v:β} : ∀ {M:MM α β},(∀ e∈M,e.1=a->e.2.1=v)->mmod a v M=M
 | [],_=>rfl
 | e::M,h=>by
  simp only[mmod];split
  ·rename_i c;have:=h e List.mem_cons_self c.symm;subst c this;rfl
  ·rw[mmod_same λx hx=>h x (List.mem_cons_of_mem _ hx)]
theorem mhas_no {a:α} {M:MM α β} (h:¬ kI a M=true):fk a M 0=none:=by
 have:=fk_isSome a M 0
 cases c:fk a M 0 with
 | none=>rfl
 | some p=>rw[c]at this;exact absurd this.symm h
theorem mhas_yes {a:α} {M:MM α β} (h:kI a M=true):∃ j v,fk a M 0=some (j,v):=by
 have:=fk_isSome a M 0
 rw[h]at this;obtain⟨p,hp⟩:=Option.isSome_iff_exists.1 this;exact⟨p.1,p.2,hp⟩
theorem fk_at {a:α} : ∀ {M:MM α β} {i j:Nat} {v:β},fk a M i=some (j,v)->i<=j/\∃ e,M[j-i]? = some e/\e.1=a
 | [],_,_,_,h=>by cases h
 | e::M,i,j,v,h=>by
  simp only[fk]at h;split at h
  ·rename_i c;cases h;exact⟨Nat.le_refl _,e,by simp,c.symm⟩
  ·obtain⟨h1,e',h2,h3⟩:=fk_at h;refine⟨by omega,e',?_,h3⟩;rw[show j-i=(j-(i+1))+1 by omega];simpa using h2
variable {P:Program} {kt et:TypeId} {ek:α->Value} {ev':β->Value} {M:MM α β} {b c:Nat}
variable {cx:Cx} {n:Nat} {ks:List (Nat×Value)} {O O' R R':List Own} {V:View} {ops:Array Oper} {Qn:Act->World->Prop} {t:Tr} {i d:Nat} {T:TypeId} {pos:String} {after:Array Edge} {gd:Option (Nat×Bool)} {x y z:Operand}
theorem mapPut {X:TypeId} (ho:ops[i]? = some ⟨none,.mapUpdate X x y z,T,pos,after,gd⟩) (hg:Gd ks ops gd) (K:KeyL P kt ek) (a:α) (vb:β) (hX:P.underlying X=some (.map kt et)) (hx:ev ks x=some (.map (some b))) (hy:ev ks y=some (ek a)) (hz:ev ks z=some (ev' vb)) (hold:∀ e∈M,e.1=a->e.2.1=vb) (hp:Upd (.blk b (qM ek ev' M c)) (.blk b (qM ek ev' (mIns a vb M c).1 (mIns a vb M c).2)) O O')
  (next:AtT cx n ks O' V P ops Qn t):AtT cx n ks O V P ops Qn (.n true i t):=by
 by_cases h:kI a M=true
 ·obtain⟨j,v0,hj⟩:=mhas_yes h;have e:mIns a vb M c=(M,c):=by unfold mIns;rw[if_pos h]
  rw[e]at hp;refine mapOld (c:=c) ho hg K a vb hX hx hy hz hj (λe he=>?_) ?_ next
  ·obtain⟨_,e',h2,h3⟩:=fk_at hj;rw[Nat.sub_zero,he]at h2;cases h2;exact h3
  ·rw[mmod_same hold];exact hp
 ·have e:mIns a vb M c=(M++[(a,vb,c)],c+1):=by unfold mIns;rw[if_neg h]
  rw[e]at hp;exact mapNew ho hg K a vb hX hx hy hz (mhas_no h) hp next
theorem insNew {X:TypeId} (ho:ops[i]? = some ⟨none,.insert X x y z,T,pos,after,gd⟩) (hg:Gd ks ops gd) (K:KeyL P kt ek) (a:α) (vb:β) (hX:P.underlying X=some (.map kt et)) (hx:ev ks x=some (.map (some b))) (hy:ev ks y=some (ek a)) (hz:ev ks z=some (ev' vb)) (hnew:fk a M 0=none) (hp:Upd (.blk b (qM ek ev' M c)) (.blk b (qM ek ev' (M++[(a,vb,c)]) (c+1))) O O')
  (next:AtT cx n ks O' V P ops Qn t):AtT cx n ks O V P ops Qn (.n true i t):=
 .x ho hg λa' w hk hm=>by
  obtain⟨R,p1,p2⟩:=hp.perm;have hm1:=hm.perm p1;simp only[opW,execOp,hk.ev hx,hk.ev hy,hk.ev hz,Instr.mapUpdate,Sem.run_bind,run_underlying hX,Result.andThen_ok,qw hm1.blk,qM,K.ck,K.find a M,List.toList_toArray,hnew,Option.map_none,jZ _ hm1.blk,Sem.run_pure];refine⟨ks,O',V,hk,Mem.perm (O:=.blk b (qM ek ev' (M++[(a,vb,c)]) (c+1))::R) ?_ p2.symm,λh=>(by cases h),next⟩;have e:(Obj.map ((M.map (mE ek ev')).toArray.push { key:=ek a,val:=ev' vb,born:=c }) (c+1))=qM ek ev' (M++[(a,vb,c)]) (c+1):=by simp[qM,mE]
  rw[e];exact hm1.put
end
end Go.Lw
namespace Go.Lw
section
variable {cx:Cx} {n:Nat} {ks:List (Nat×Value)} {O O':List Own} {V:View} {P:Program} {ops:Array Oper} {Qn:Act->World->Prop} {t:Tr} {i:Nat} {T:TypeId} {pos:String} {after:Array Edge} {gd:Option (Nat×Bool)} {x:Operand}
theorem clearAt {X E E':TypeId} {b off m c:Nat} {zv:Value} {cs us xs:List Value} (ho:ops[i]? = some ⟨none,.call ⟨.builtin .clear,#[x],#[X]⟩,T,pos,after,gd⟩) (hg:Gd ks ops gd) (hX:P.underlying X=some (.slice E)) (hz:zK P E=some zv)
  (hx:ev ks x=some (.slice (some ⟨b,off,none⟩) (m+1) c)) (hu:(Builtin.zeroCells zv.cells (m+1)).toList=us) (hl:off+us.length<=cs.length) (h1:us.all Value.oneCell'=true) (hxs:cs.take off++us++cs.drop (off+us.length)=xs) (hup:Upd (.blk b (LC cs E')) (.blk b (LC xs E')) O O')
  (next:AtT cx n ks O' V P ops Qn t):AtT cx n ks O V P ops Qn (.n true i t):=
 .x ho hg λa w hk hm=>by
  obtain⟨R,p1,p2⟩:=hup.perm;have hm1:=hm.perm p1;have e0:(#[x]:Array Operand).map a.eval=#[.slice (some ⟨b,off,none⟩) (m+1) c]:=by simp[hk.ev hx]
  obtain⟨w',hr,hgr,hh⟩:=zX (P:=P) us 0 off cs w hm1.blk (by omega) (by simpa [List.all_eq_true]using h1);rw[Nat.add_zero,hxs]at hh;have e1:(#[X]:Array TypeId)[0]? = some X:=rfl;have e2:(#[Value.slice (some ⟨b,off,none⟩) (m+1) c]:Array Value)[0]? = some (Value.slice (some ⟨b,off,none⟩) (m+1) c):=rfl;simp only[opW,execOp,resolve,e0,Sem.run_bind,Sem.run_pure,Result.andThen_ok,invoke,builtin,Builtin.clear_,e1,e2,run_underlying hX,run_zero hz,hu,hr];exact⟨ks,O',V,hk,(hm1.set hgr hh).perm p2.symm,λh=>(by cases h),next⟩
end
open Go.RowKit
section
variable {cx:Cx} {n:Nat} {ks:List (Nat×Value)} {O:List Own} {V:View} {P:Program} {ops:Array Oper} {Qn:Act->World->Prop} {t:Tr} {i d:Nat} {T:TypeId} {pos:String} {after:Array Edge} {gd:Option (Nat×Bool)} {x y:Operand}
theorem idxZ {X E:TypeId} {len cap s j:Nat} {k:IntKind} {b:Nat} {ag:Bool} (ho:ops[i]? = some ⟨some d,.indexAddr X x y,T,pos,after,gd⟩) (hg:Gd ks ops gd) (hX:P.underlying X=some (.slice E)) (hE:tkB P E=some (ag,s))
  (hx:ev ks x=some (.slice (some ⟨b,0,none⟩) len cap)) (hy:ev ks y=some (.int k (j:Int))) (h1:j<len) (hn:d<n)
  (next:AtT cx n ((d,.pointer (some ⟨b,j*s,none⟩))::ks) O V P ops Qn t):AtT cx n ks O V P ops Qn (.q i t):=
 idxO ho hg hX hE hx hy (Int.natCast_nonneg j) (Int.ofNat_lt.2 h1) hn (by
  have e:0+(j:Int).toNat*s=j*s:=by simp
  rw[e];exact next)
end
theorem cells_pre {V:View} {b:Nat} {us rest:List Value} {E:TypeId} {fr:Nat×Nat} (h:V b=some (LC (us++rest) E fr)):Cells V ⟨b,0,none⟩ us:=λj u hj=>
 zQ h j u (by rw[List.getElem?_append_left (List.getElem?_eq_some_iff.1 hj).1];exact hj)
theorem flat_all1 {α:Type} {enc:α->List Value} (h1:∀ x,(enc x).all Value.oneCell'=true) (l:List α):(flat enc l).all Value.oneCell'=true:=by rw[List.all_eq_true];intro u hu;simp only[flat,List.mem_flatMap]at hu;obtain⟨q,_,hq⟩:=hu;exact List.all_eq_true.1 (h1 q) u hq
def clrB (a b:Nat):Nat:=a &&& (18446744073709551615-b)
theorem clrB_le (a b:Nat):clrB a b<=a:=Nat.and_le_left
section
variable {cx:Cx} {n:Nat} {ks:List (Nat×Value)} {O:List Own} {V:View} {P:Program} {ops:Array Oper} {Qn:Act->World->Prop} {t:Tr} {i d:Nat} {T:TypeId} {pos:String} {after:Array Edge} {gd:Option (Nat×Bool)} {x y:Operand} {p q:Int} {X Z:TypeId}
theorem andN {A B:Nat} (ho:ops[i]? = some ⟨some d,.binOp .and X x y Z,T,pos,after,gd⟩) (hg:Gd ks ops gd) (hx:ev ks x=some (.int .i64 p)) (hy:ev ks y=some (.int .i64 q)) (hp:p=(A:Int)) (hq:q=(B:Int)) (hA:A<9223372036854775808) (hB:B<9223372036854775808) (hn:d<n)
  (next:AtT cx n ((d,.int .i64 ((A &&& B:Nat):Int))::ks) O V P ops Qn t):AtT cx n ks O V P ops Qn (.q i t):=
 .q ho hg rfl hn (λa w hk _=>by
  subst hp hq;have hr:Op.intBits .and .i64 (A:Int) (B:Int)=(pure (.int .i64 ((A &&& B:Nat):Int)):Sem Value):=by
   show(pure (Value.int .i64 (IntKind.i64.wrap ((BitVec.ofInt 64 (A:Int) &&& BitVec.ofInt 64 (B:Int)).toNat:Int))):Sem Value)=_
   rw[BitVec.toNat_and,ofInt_u64 A (by omega),ofInt_u64 B (by omega),Go.Lib.wrap_i64_small _ (Nat.lt_of_le_of_lt Nat.and_le_left hA)]
  simp[execOp,hk.ev hx,hk.ev hy,eqGuard_and,binOp_and,hr]) next
theorem clrN {A B:Nat} (ho:ops[i]? = some ⟨some d,.binOp .andNot X x y Z,T,pos,after,gd⟩) (hg:Gd ks ops gd) (hx:ev ks x=some (.int .i64 p)) (hy:ev ks y=some (.int .i64 q)) (hp:p=(A:Int)) (hq:q=(B:Int)) (hA:A<9223372036854775808) (hB:B<9223372036854775808) (hn:d<n)
  (next:AtT cx n ((d,.int .i64 ((clrB A B:Nat):Int))::ks) O V P ops Qn t):AtT cx n ks O V P ops Qn (.q i t):=
 .q ho hg rfl hn (λa w hk _=>by
  subst hp hq;have hr:Op.intBits .andNot .i64 (A:Int) (B:Int)=(pure (.int .i64 ((clrB A B:Nat):Int)):Sem Value):=by
   show(pure (Value.int .i64 (IntKind.i64.wrap ((BitVec.ofInt 64 (A:Int) &&& ~~~BitVec.ofInt 64 (B:Int)).toNat:Int))):Sem Value)=_
   rw[BitVec.toNat_and,BitVec.toNat_not,ofInt_u64 A (by omega),ofInt_u64 B (by omega)];show pure (Value.int .i64 (IntKind.i64.wrap ((clrB A B:Nat):Int)))=_;rw[Go.Lib.wrap_i64_small _ (Nat.lt_of_le_of_lt (clrB_le A B) hA)]
  simp[execOp,hk.ev hx,hk.ev hy,eqGuard_andNot,binOp_andNot,hr]) next
theorem shlN {N:Nat} {k:IntKind} (ho:ops[i]? = some ⟨some d,.binOp .shl X x y Z,T,pos,after,gd⟩) (hg:Gd ks ops gd) (hx:ev ks x=some (.int .i64 1)) (hy:ev ks y=some (.int k q)) (hq:q=(N:Int)) (hN:N<=61) (hn:d<n)
  (next:AtT cx n ((d,.int .i64 ((2 ^ N:Nat):Int))::ks) O V P ops Qn t):AtT cx n ks O V P ops Qn (.q i t):=
 .q ho hg rfl hn (λa w hk _=>by
  subst hq;have hlt:2 ^ N<9223372036854775808:=Nat.lt_of_le_of_lt (Nat.pow_le_pow_right (by decide) hN) (by decide);have hr:Op.shift .shl .i64 1 k (N:Int)=(pure (.int .i64 ((2 ^ N:Nat):Int)):Sem Value):=by
   unfold Op.shift;rw[if_neg (by omega)];have e:min ((N:Int).toNat) IntKind.i64.bits=N:=by show min ((N:Int).toNat) 64=N;omega
   have e2:(1:Int)*2 ^ N=((2 ^ N:Nat):Int):=by rw[Int.one_mul,Int.natCast_pow];rfl
   simp only[e,e2,Go.Lib.wrap_i64_small _ hlt]
  simp only[execOp,hk.ev hx,hk.ev hy,eqGuard_shl,binOp_shl,hr,Sem.run_bind,Sem.run_pure,Result.andThen_ok]) next
theorem shrN {A N:Nat} {k:IntKind} (ho:ops[i]? = some ⟨some d,.binOp .shr X x y Z,T,pos,after,gd⟩) (hg:Gd ks ops gd) (hx:ev ks x=some (.int .i64 p)) (hy:ev ks y=some (.int k q)) (hp:p=(A:Int)) (hq:q=(N:Int)) (hN:N<=61) (hn:d<n)
  (next:AtT cx n ((d,.int .i64 ((A >>> N:Nat):Int))::ks) O V P ops Qn t):AtT cx n ks O V P ops Qn (.q i t):=
 .q ho hg rfl hn (λa w hk _=>by
  subst hp hq;have hr:Op.shift .shr .i64 (A:Int) k (N:Int)=(pure (.int .i64 ((A >>> N:Nat):Int)):Sem Value):=by
   unfold Op.shift;rw[if_neg (by omega)];have e:min ((N:Int).toNat) IntKind.i64.bits=N:=by show min ((N:Int).toNat) 64=N;omega
   have e2:(A:Int).fdiv (2 ^ N)=((A >>> N:Nat):Int):=by rw[Int.fdiv_eq_ediv_of_nonneg _ (Int.le_of_lt (Int.pow_pos (by decide))),Nat.shiftRight_eq_div_pow,Int.natCast_ediv,Int.natCast_pow];rfl
   simp only[e,e2]
  simp only[execOp,hk.ev hx,hk.ev hy,eqGuard_shr,binOp_shr,hr,Sem.run_bind,Sem.run_pure,Result.andThen_ok]) next
end
end Go.Lw
