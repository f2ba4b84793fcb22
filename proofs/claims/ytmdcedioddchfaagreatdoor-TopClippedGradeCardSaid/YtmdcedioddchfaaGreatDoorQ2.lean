/- Texts that the last one of this claim imports. -/
import Derived.WalkKit
import Derived.OrdersIn
import Derived.RangeFuncIn
import Derived.TacticsIn
import Derived.WalkSpells
import Derived.WalkLawsBesides
import Derived.RangeFuncRecord
import Derived.Maps.RangeRun
import Derived.Laws.StructEq
import Derived.Laws.MakeOwn
import Derived.KernelRfl
import Derived.Laws.Strings
import Derived.Laws.Slices
import Derived.Laws.DeepStrings4
import Derived.Test.YtmdcedioddchfaaGreatDoorProg
import Derived.Lib.QuoteBits
import Derived.WideLaws
set_option linter.unusedVariables false
set_option linter.unusedSimpArgs false
set_option linter.unusedSectionVars false
section
namespace Go.Lw
open Go.RowKit
def FW (ro:Option Nat):Fence:={ fn:=fun _=>True,depth:=none,alive:=false,round:=ro }
theorem FW_round (ro:Option Nat):(FW ro).round=ro:=rfl
theorem FW_dep (ro:Option Nat) {p:Prop} : (FW ro).depth.isSome=true→p:=fun h=>by cases h
theorem jB {ro:Option Nat} {n:Nat} {P:Program} {f:FuncId} {args:Array Value} {w:World} {R:Ending→World→Prop} : CallsIn (FW ro) n P f args w R↔Calls P f args w R:=by
 have h0:∀ (F:Fence),F.fn=(FW none).fn→F.depth=none→F.alive=false→(CallsIn F n P f args w R↔CallsIn Fence.wide n P f args w R):=by
  intro F h1 h2 h3
  have e:∀ m:Machine,m.fenced P F↔m.fenced P Fence.wide:=fun m=>by
   refine⟨fun _=>fenced_wide P m,fun _ g _=>⟨fun h=>(by rw[h3]at h; cases h),Or.inl (by rw[h1]; trivial),fun _ _=>(by rw[h1]; trivial),fun d hd=>(by rw[h2]at hd; cases hd)⟩⟩
  have e':Machine.fenced P F=Machine.fenced P Fence.wide:=funext fun m=>propext (e m)
  unfold CallsIn
  rw[e']
  constructor
  ·rintro⟨_,h⟩; exact⟨trivial,fun cs _=>h cs (fun d hd=>(by rw[h2]at hd; cases hd))⟩
  ·rintro⟨_,h⟩; exact⟨by rw[h1]; trivial,fun cs _=>h cs (room_wide _)⟩
 exact(h0 (FW ro) rfl rfl rfl).trans callsIn_wide
def opW (P:Program) (o:Oper) (a:Act) (w:World) (K:Act→World→Prop):Prop:=
 match (execOp a.eval o).run P w with
 | .ok (.value v) w'=>K (a.put o.dst v) w'
 | .ok .skip w'=>K (a.put o.dst undef) w'
 | .ok (.enter f args) w'=>Calls P f args w' fun e w''=>match e with
  | .returned v=>K (a.put o.dst v) w''
  | _=>False
 | .ok (.round l f tmps assign body) w'=>RoundIn (FW none) 0 P l f tmps assign body w' fun e w''=>match e with
  | .returned v=>K (a.put o.dst v) w''
  | _=>False
 | _=>False
theorem opW_mono {P:Program} {o:Oper} {a:Act} {w:World} {K K':Act→World→Prop} (h:∀ a w,K a w→K' a w) (hh:opW P o a w K):opW P o a w K':=by
 unfold opW at *
 generalize (execOp a.eval o).run P w=r at *
 cases r with
 | ok x w'=>
  cases x<;>simp only at hh⊢<;>first
   | exact h _ _ hh
   | exact Calls.mono hh (fun e w'' he=>by cases e<;>first | exact h _ _ he | exact he)
   | exact RoundIn.mono hh (fun e w'' he=>by cases e<;>first | exact h _ _ he | exact he)
 | halt x w'=>exact hh
def Nd (o:Oper):Bool:=match o.op with | .defer _=>false | .select ..=>false | _=>true
theorem nd_defer {o:Oper} (h:Nd o=true):∀ c,o.op≠.defer c:=fun c e=>by simp[Nd,e]at h
theorem nd_select {o:Oper} (h:Nd o=true):∀ cs b,o.op≠.select cs b:=fun c b e=>by simp[Nd,e]at h
theorem roundIn_FW {ro:Option Nat} {P:Program} {l:Nat} {f:FuncId} {tmps:Array Value} {assign body:Code} {w:World} {R:Ending→World→Prop}
  (h:RoundIn (FW none) 0 P l f tmps assign body w R):RoundIn (FW ro) 0 P l f tmps assign body w R:=h
theorem opW_wpIn {P:Program} {o:Oper} {a:Act} {w:World} {K:Act→World→Prop} {Q:Exit→Act→World→Prop} {ro:Option Nat} (hn:Nd o=true)
  (h:opW P o a w K):o.wpIn (FW ro) 0 P a w K Q:=by
 refine⟨fun _ _=>trivial,?_⟩
 rw[FW_round,Oper.semAt_eq ro a.eval o (nd_defer hn)]
 unfold opW at h
 generalize (execOp a.eval o).run P w=r at *
 cases r with
 | ok x w'=>
  cases x<;>simp only[Oper.uponIn]at h⊢<;>first
   | exact h
   | exact⟨FW_dep ro,jB.2 (Calls.mono h (fun e w'' he=>by cases e<;>first | exact he | exact he.elim))⟩
   | exact⟨FW_dep ro,roundIn_FW (RoundIn.mono h (fun e w'' he=>by cases e<;>first | exact he | exact he.elim))⟩
   | exact h.elim
 | halt x w'=>exact h.elim
def stW (P:Program) (ops:Array Oper) (o:Oper) (a:Act) (w:World) (K:Act→World→Prop):Prop:=
 if Region.wanted o (yielded ops a.tmps)then opW P o a w K else K (a.put o.dst undef) w
theorem qI {P:Program} {ops:Array Oper} {o:Oper} {a:Act} {w:World} {K K':Act→World→Prop} (h:∀ a w,K a w→K' a w) (hh:stW P ops o a w K):stW P ops o a w K':=by
 unfold stW at *
 split
 ·rename_i hw; rw[if_pos hw]at hh; exact opW_mono h hh
 ·rename_i hw; rw[if_neg hw]at hh; exact h _ _ hh
theorem stW_wpOpIn {P:Program} {ops:Array Oper} {i:Nat} {o:Oper} {a:Act} {w:World} {K:Act→World→Prop} {Q:Exit→Act→World→Prop} {ro:Option Nat} (ho:ops[i]? = some o) (hn:Nd o=true)
  (h:stW P ops o a w K):wpOpIn (FW ro) 0 P ops Q i K a w:=by
 unfold wpOpIn
 simp only[ho]
 unfold stW at h
 split
 ·rename_i hw; rw[if_pos hw]at h; exact opW_wpIn hn h
 ·rename_i hw; rw[if_neg hw]at h; exact⟨fun _ _=>trivial,h⟩
def anyW (P:Program) (ops:Array Oper) (Qn:Act→World→Prop):Nat→Array Bool→Act→World→Prop
 | 0,listed,a,w=>Region.ready .any ops listed=[]∧Qn a w
 | fuel+1,listed,a,w=>(Region.ready .any ops listed=[]→Qn a w)∧
  ∀ i∈Region.ready .any ops listed,∃ o,ops[i]? = some o∧stW P ops o a w (anyW P ops Qn fuel (listed.setIfInBounds i true))
def Ndr (ops:Array Oper):Bool:=ops.all Nd
theorem ndr_at {ops:Array Oper} (h:Ndr ops=true) {i:Nat} {o:Oper} (ho:ops[i]? = some o):Nd o=true:=
 Array.all_eq_true_iff_forall_mem.1 h o (Array.mem_of_getElem? ho)
theorem anyW_sound {P:Program} {ops:Array Oper} {Q:Exit→Act→World→Prop} {ro:Option Nat} (hs:Ndr ops=true):∀ (fuel:Nat) (listed:Array Bool) (a:Act) (w:World),
  anyW P ops (Q .normal) fuel listed a w→wpAnyIn (FW ro) 0 P .any ops Q fuel listed a w
 | 0,_,_,_,h=>h
 | fuel+1,listed,a,w,h=>⟨h.1,fun i hi=>by
   obtain⟨o,ho,hst⟩:=h.2 i hi
   exact stW_wpOpIn ho (ndr_at hs ho) (qI (fun a w=>anyW_sound hs fuel _ a w) hst)⟩
def anyM (P:Program) (ops:Array Oper) (Qn:Act→World→Prop) (M:List Nat) (S:World→Prop):Nat→Array Bool→Act→World→Prop
 | 0,listed,a,w=>Region.ready .any ops listed=[]∧Qn a w
 | fuel+1,listed,a,w=>(Region.ready .any ops listed=[]→Qn a w)∧
  ∀ i∈Region.ready .any ops listed,∃ o,ops[i]? = some o∧stW P ops o a w (fun a' w'=>
   (M.contains i=false→S w'∧anyM P ops Qn M S fuel (listed.setIfInBounds i true) a' w')∧
   (M.contains i=true→anyW P ops Qn fuel (listed.setIfInBounds i true) a' w'))
section
variable {P:Program} {ops:Array Oper} {Qn:Act→World→Prop} {M:List Nat} {S S':World→Prop}
theorem anyM_any:∀ (fuel:Nat) (listed:Array Bool) (a:Act) (w:World),anyM P ops Qn M S fuel listed a w→anyW P ops Qn fuel listed a w
 | 0,_,_,_,h=>h
 | fuel+1,listed,a,w,h=>⟨h.1,fun i hi=>by
   obtain⟨o,ho,hst⟩:=h.2 i hi
   refine⟨o,ho,qI (fun a w hk=>?_) hst⟩
   cases hm:M.contains i with
   | false=>exact anyM_any fuel _ a w (hk.1 hm).2
   | true=>exact hk.2 hm⟩
theorem anyM_mono (hS:∀ w,S w→S' w):∀ (fuel:Nat) (listed:Array Bool) (a:Act) (w:World),anyM P ops Qn M S fuel listed a w→anyM P ops Qn M S' fuel listed a w
 | 0,_,_,_,h=>h
 | fuel+1,listed,a,w,h=>⟨h.1,fun i hi=>by
   obtain⟨o,ho,hst⟩:=h.2 i hi
   exact⟨o,ho,qI (fun a w hk=>⟨fun hm=>⟨hS _ (hk.1 hm).1,anyM_mono hS fuel _ a w (hk.1 hm).2⟩,hk.2⟩) hst⟩⟩
def kQ (P:Program) (ops:Array Oper) (S:World→Prop) (o:Oper) (v:Value) (a:Act):Prop:=
 (Region.wanted o (yielded ops a.tmps)=true∧∀ w,S w→(execOp a.eval o).run P w=.ok (.value v) w)∨
 (Region.wanted o (yielded ops a.tmps)=false∧v=undef)
theorem kQ.stW {o:Oper} {v:Value} {a:Act} (hy:kQ P ops S o v a) {K:Act→World→Prop} {w:World} (hS:S w) (h:K (a.put o.dst v) w):stW P ops o a w K:=by
 unfold Go.Lw.stW
 rcases hy with ⟨hw,hv⟩ | ⟨hw,rfl⟩
 ·rw[if_pos hw]; unfold opW; rw[hv w hS]; exact h
 ·rw[if_neg (by simp[hw])]; exact h
theorem kQ.of_same {o:Oper} {v:Value} {a a':Act} (hy:kQ P ops S o v a) (he:execOp a'.eval o=execOp a.eval o)
  (hw:Region.wanted o (yielded ops a'.tmps)=Region.wanted o (yielded ops a.tmps)):kQ P ops S o v a':=by
 unfold kQ at *
 rw[he,hw]
 exact hy
theorem stW_put {oi oj:Oper} {v:Value} (hap:oi.apart ops oj=true) (hsi:Nd oi=true) (hsj:Nd oj=true) {K:Act→World→Prop} {a:Act} {w:World}
  (hy:kQ P ops S oi v a) (h:stW P ops oj (a.put oi.dst v) w K) :
  stW P ops oj a w (fun a' w'=>kQ P ops S oi v a'∧K (a'.put oi.dst v) w'):=by
 obtain⟨h1,h2,h3⟩:=Oper.apart_spec hap
 have keep:∀ (a:Act),kQ P ops S oi v a→∀ u,kQ P ops S oi v (a.put oj.dst u):=fun a hy u=>
  hy.of_same (execOp_put oi (nd_select hsi) a oj.dst u h3) (wanted_put oi a oj.dst u h3)
 unfold Go.Lw.stW at *
 rw[wanted_put oj a oi.dst v h1]at h
 split
 ·rename_i hw
  rw[if_pos hw]at h
  unfold opW at *
  rw[execOp_put oj (nd_select hsj) a oi.dst v h1]at h
  generalize (execOp a.eval oj).run P w=r at *
  cases r with
  | ok x w'=>
   cases x<;>simp only at h⊢
   case value u=>exact⟨keep a hy u,by rw[←Act.put_comm a v u h2]; exact h⟩
   case skip=>exact⟨keep a hy _,by rw[←Act.put_comm a v undef h2]; exact h⟩
   case enter f args=>
    refine Calls.mono h fun e w'' he=>?_
    cases e with
    | returned u=>exact⟨keep a hy u,by rw[←Act.put_comm a v u h2]; exact he⟩
    | panicked c=>exact he
    | outgrown=>exact he
   case round l f tmps assign body=>
    refine RoundIn.mono h fun e w'' he=>?_
    cases e with
    | returned u=>exact⟨keep a hy u,by rw[←Act.put_comm a v u h2]; exact he⟩
    | panicked c=>exact he
    | outgrown=>exact he
  | halt x w'=>exact h
 ·rename_i hw
  rw[if_neg hw]at h
  exact⟨keep a hy _,by rw[←Act.put_comm a v undef h2]; exact h⟩
inductive Waits (ops:Array Oper):Nat→Nat→Prop
 | one {j i:Nat} {o:Oper} {e:Edge} (ho:ops[j]? = some o) (he:e∈o.after) (hb:Region.binds .any e=true) (hi:e.on=i):Waits ops j i
 | more {j i:Nat} {o:Oper} {e:Edge} (ho:ops[j]? = some o) (he:e∈o.after) (hb:Region.binds .any e=true) (h:Waits ops e.on i):Waits ops j i
def Down (ops:Array Oper) (listed:Array Bool):Prop:=∀ (j:Nat) (o:Oper),listed.getD j false=true→ops[j]? = some o→∀ e∈o.after,Region.binds .any e=true→listed.getD e.on false=true
theorem Down.waits {listed:Array Bool} (hd:Down ops listed) {j i:Nat} (hw:Waits ops j i) (hj:listed.getD j false=true):listed.getD i false=true:=by
 induction hw with
 | one ho he hb hi=>subst hi; exact hd _ _ hj ho _ he hb
 | more ho he hb _ ih=>exact ih (hd _ _ hj ho _ he hb)
theorem ready_waits {listed:Array Bool} (hd:Down ops listed) {j i:Nat} (hw:Waits ops j i) (hj:j∈Region.ready .any ops listed):listed.getD i false=true:=by
 obtain⟨_,o,ho,hall⟩:=mem_ready.1 hj
 cases hw with
 | one ho' he hb hi=>rw[ho]at ho'; cases ho'; subst hi; exact hall _ he hb
 | more ho' he hb h=>rw[ho]at ho'; cases ho'; exact hd.waits h (hall _ he hb)
theorem Down.set {listed:Array Bool} (hd:Down ops listed) {j:Nat} (hj:j∈Region.ready .any ops listed):Down ops (listed.setIfInBounds j true):=by
 obtain⟨hj0,o,ho,hall⟩:=mem_ready.1 hj
 intro k ok hk hok e he hb
 by_cases hkj:j=k
 ·subst hkj; rw[ho]at hok; cases hok; exact getD_set_true (hall e he hb)
 ·rw[getD_set_ne false hkj]at hk; exact getD_set_true (hd k ok hk hok e he hb)
theorem anyM_first {i:Nat} {oi:Oper} {v:Value} (hi:ops[i]? = some oi) (hs:Ndr ops=true) (hMi:M.contains i=false) :
  ∀ (fuel:Nat) (listed:Array Bool) (a:Act) (w:World),Down ops listed→
   (∀ j,M.contains j=true→listed.getD j true=false→Waits ops j i)→
   (∀ j oj,ops[j]? = some oj→j≠i→listed.getD j true=false→(∀ e∈oj.after,Region.binds .any e=true→e.on≠i)→oi.apart ops oj=true)→
   i∈Region.ready .any ops listed→kQ P ops S oi v a→S w→
   anyM P ops Qn M S fuel (listed.setIfInBounds i true) (a.put oi.dst v) w→anyM P ops Qn M S (fuel+1) listed a w:=by
 intro fuel
 induction fuel with
 | zero=>
  intro listed a w hd _ _ hr hy hS H
  refine⟨fun h=>(by rw[h]at hr; cases hr),fun j hj=>?_⟩
  by_cases hji:j=i
  ·subst hji; exact⟨oi,hi,hy.stW hS ⟨fun _=>⟨hS,H⟩,fun h=>(by rw[hMi]at h; cases h)⟩⟩
  ·have:=ready_mono hj hji
   rw[H.1]at this
   cases this
 | succ fuel ih=>
  intro listed a w hd hM hfree hr hy hS H
  refine⟨fun h=>(by rw[h]at hr; cases hr),fun j hj=>?_⟩
  by_cases hji:j=i
  ·subst hji; exact⟨oi,hi,hy.stW hS ⟨fun _=>⟨hS,H⟩,fun h=>(by rw[hMi]at h; cases h)⟩⟩
  ·obtain⟨oj',hoj',h1⟩:=H.2 j (ready_mono hj hji)
   obtain⟨hjun,oj,hoj,hall⟩:=mem_ready.1 hj
   have e:=Option.some.inj (hoj.symm.trans hoj'); subst e
   have hun:listed.getD i false=false:=by
    have h0:=(mem_ready.1 hr).1
    rcases Nat.lt_or_ge i listed.size with h' | h'
    ·simp[h']at h0⊢; exact h0
    ·simp[Array.getElem?_eq_none h']
   have hnot:∀ e∈oj.after,Region.binds .any e=true→e.on≠i:=fun e he hb heq=>by
    have h1:=hall e he hb
    rw[heq,hun]at h1; cases h1
   have hMj:M.contains j=false:=by
    cases hm:M.contains j with
    | false=>rfl
    | true=>
     have:=ready_waits hd (hM j hm hjun) hj
     rw[hun]at this; cases this
   have h2:=stW_put (hfree j oj hoj hji hjun hnot) (ndr_at hs hi) (ndr_at hs hoj) hy h1
   have keepUn:∀ k,(listed.setIfInBounds j true).getD k true=false→listed.getD k true=false:=fun k hun=>by
    by_cases hjk:j=k
    ·subst hjk; exact hjun
    ·rw[getD_set_ne true hjk]at hun; exact hun
   have hfree':∀ k ok,ops[k]? = some ok→k≠i→(listed.setIfInBounds j true).getD k true=false→
     (∀ e∈ok.after,Region.binds .any e=true→e.on≠i)→oi.apart ops ok=true:=fun k ok hk hki hun hno=>hfree k ok hk hki (keepUn k hun) hno
   refine⟨oj,hoj,qI (fun a' w' h3=>⟨fun _=>?_,fun h=>(by rw[hMj]at h; cases h)⟩) h2⟩
   have h4:=h3.2.1 hMj
   refine⟨h4.1,ih (listed.setIfInBounds j true) a' w' (hd.set hj) (fun k hm hk=>hM k hm (keepUn k hk)) hfree' (ready_mono hr (Ne.symm hji)) h3.1 h4.1 ?_⟩
   rw[Array.setIfInBounds_comm _ _ hji]
   exact h4.2
end
inductive Tr
 | done
 | q (i:Nat) (t:Tr)
 | n (writes:Bool) (i:Nat) (t:Tr)
 | two (i:Nat) (t:Tr) (j:Nat) (u:Tr)
 | br (is:List Nat) (f:Nat→Tr)
def wpT (P:Program) (ops:Array Oper) (Qn:Act→World→Prop):Tr→(World→Prop)→Act→World→Prop
 | .done,_,a,w=>Qn a w
 | .q i t,S,a,w=>∃ o v,ops[i]? = some o∧kQ P ops S o v a∧wpT P ops Qn t S (a.put o.dst v) w
 | .n wr i t,S,a,w=>∃ o,ops[i]? = some o∧stW P ops o a w (fun a' w'=>∃ S':World→Prop,(wr=false→∀ u,S' u→S u)∧S' w'∧wpT P ops Qn t S' a' w')
 | .two i t j u,S,a,w=>(∃ o,ops[i]? = some o∧stW P ops o a w (fun a' w'=>∃ S':World→Prop,(∀ u,S' u→S u)∧S' w'∧wpT P ops Qn t S' a' w'))∧
   (∃ o,ops[j]? = some o∧stW P ops o a w (fun a' w'=>∃ S':World→Prop,(∀ u,S' u→S u)∧S' w'∧wpT P ops Qn u S' a' w'))
 | .br is f,S,a,w=>∀ i∈is,(∃ o,ops[i]? = some o∧stW P ops o a w (fun a' w'=>∃ S':World→Prop,(∀ u,S' u→S u)∧S' w'∧wpT P ops Qn (f i) S' a' w'))
def Tr.len:Tr→Nat
 | .done=>0
 | .q _ t=>t.len+1
 | .n _ _ t=>t.len+1
 | .two _ t _ u=>max t.len u.len+1
 | .br is f=>is.foldr (fun i m=>max (f i).len m) 0+1
def Tr.muts:Tr→List Nat
 | .done=>[]
 | .q _ t=>t.muts
 | .n wr i t=>if wr then i::t.muts else t.muts
 | .two _ t _ u=>t.muts++u.muts
 | .br is f=>is.flatMap fun i=>(f i).muts
def waitsB (ops:Array Oper):Nat→Nat→Nat→Bool
 | 0,_,_=>false
 | fuel+1,j,i=>match ops[j]? with
  | none=>false
  | some o=>o.after.any fun e=>Region.binds .any e && (e.on == i || (i<e.on && waitsB ops fuel e.on i))
theorem waitsB_spec {ops:Array Oper} : ∀ (fuel j i:Nat),waitsB ops fuel j i=true→Waits ops j i
 | 0,_,_,h=>by simp[waitsB]at h
 | fuel+1,j,i,h=>by
  unfold waitsB at h
  cases ho:ops[j]? with
  | none=>rw[ho]at h; cases h
  | some o=>
   rw[ho]at h
   obtain⟨e,he,hb⟩:=Array.any_eq_true'.1 h
   simp only[Bool.and_eq_true,Bool.or_eq_true,beq_iff_eq,decide_eq_true_eq]at hb
   rcases hb.2 with h1 | h1
   ·exact .one ho he hb.1 h1
   ·exact .more ho he hb.1 (waitsB_spec fuel _ _ h1.2)
def Tr.chk (ops:Array Oper) (M:List Nat) (wt:Nat→Nat→Bool):Tr→Array Bool→Bool
 | .done,listed=>(Region.ready .any ops listed).isEmpty
 | .q i t,listed=>Region.free .any ops listed i && (Region.ready .any ops listed).contains i && !M.contains i &&
   M.all (fun j=>listed.getD j true || wt j i) && t.chk ops M wt (listed.setIfInBounds i true)
 | .n wr i t,listed=>(Region.ready .any ops listed == [i]) && (M.contains i == wr) && t.chk ops M wt (listed.setIfInBounds i true)
 | .two i t j u,listed=>(Region.ready .any ops listed == [i,j]) && !M.contains i && !M.contains j && t.chk ops M wt (listed.setIfInBounds i true) && u.chk ops M wt (listed.setIfInBounds j true)
 | .br is f,listed=>!is.isEmpty && (Region.ready .any ops listed == is) && is.all fun i=>!M.contains i && (f i).chk ops M wt (listed.setIfInBounds i true)
theorem len_le {f:Nat→Tr} : ∀ {is:List Nat} {i:Nat},i∈is→(f i).len≤is.foldr (fun i m=>max (f i).len m) 0
 | j::is,i,h=>by
  simp only[List.foldr_cons]
  rcases List.mem_cons.1 h with rfl | h
  ·exact Nat.le_max_left _ _
  ·exact Nat.le_trans (len_le h) (Nat.le_max_right _ _)
theorem wpT_sound {P:Program} {ops:Array Oper} {Qn:Act→World→Prop} {M:List Nat} {wt:Nat→Nat→Bool} (hs:Ndr ops=true) (hw:∀ j i,wt j i=true→Waits ops j i) :
  ∀ (t:Tr) (listed:Array Bool) (fuel:Nat) (S:World→Prop) (a:Act) (w:World),t.len≤fuel→Down ops listed→t.chk ops M wt listed=true→S w→wpT P ops Qn t S a w→
   anyM P ops Qn M S fuel listed a w:=by
 intro t
 induction t with
 | done=>
  intro listed fuel S a w _ _ hc _ h
  have hr:Region.ready .any ops listed=[]:=by simpa [Tr.chk]using hc
  cases fuel with
  | zero=>exact⟨hr,h⟩
  | succ f=>exact⟨fun _=>h,by rw[hr]; simp⟩
 | q i t ih=>
  intro listed fuel S a w hf hd hc hS h
  obtain⟨o,v,ho,hy,h⟩:=h
  simp only[Tr.chk,Bool.and_eq_true,Bool.not_eq_true']at hc
  obtain⟨⟨⟨⟨hfree,hready⟩,hMi⟩,hM⟩,hc⟩:=hc
  cases fuel with
  | zero=>simp[Tr.len]at hf
  | succ f=>
   have hr:i∈Region.ready .any ops listed:=by simpa using hready
   refine anyM_first ho hs hMi f listed a w hd (fun j hm hj=>?_) (Region.free_spec ho hfree) hr hy hS
    (ih _ f S _ w (by simp[Tr.len]at hf; omega) (hd.set hr) hc hS h)
   have:=List.all_eq_true.1 hM j (by simpa using hm)
   rw[hj,Bool.false_or]at this
   exact hw j i this
 | n wr i t ih=>
  intro listed fuel S a w hf hd hc hS h
  obtain⟨o,ho,h⟩:=h
  simp only[Tr.chk,Bool.and_eq_true,beq_iff_eq]at hc
  obtain⟨⟨hr,hm⟩,hc⟩:=hc
  cases fuel with
  | zero=>simp[Tr.len]at hf
  | succ f=>
   refine⟨fun h0=>(by rw[hr]at h0; cases h0),fun j hj=>?_⟩
   have hj':=hj
   rw[hr]at hj
   obtain rfl:j=i:=by simpa using hj
   refine⟨o,ho,qI (fun a' w' hk=>?_) h⟩
   obtain⟨S',hle,hS',hk⟩:=hk
   have h2:=ih _ f S' a' w' (by simp[Tr.len]at hf; omega) (hd.set hj') hc hS' hk
   refine⟨fun hm'=>?_,fun hm'=>anyM_any _ _ _ _ h2⟩
   rw[hm']at hm
   exact⟨hle hm.symm _ hS',anyM_mono (hle hm.symm) _ _ _ _ h2⟩
 | two i t j u iht ihu=>
  intro listed fuel S a w hf hd hc hS h
  obtain⟨⟨o1,ho1,h1⟩,⟨o2,ho2,h2⟩⟩:=h
  simp only[Tr.chk,Bool.and_eq_true,beq_iff_eq,Bool.not_eq_true']at hc
  obtain⟨⟨⟨⟨hr,hm1⟩,hm2⟩,hc1⟩,hc2⟩:=hc
  cases fuel with
  | zero=>simp[Tr.len]at hf
  | succ f=>
   simp only[Tr.len]at hf
   refine⟨fun h0=>(by rw[hr]at h0; cases h0),fun k hk=>?_⟩
   have hk':=hk
   rw[hr]at hk
   simp at hk
   rcases hk with rfl | rfl
   ·refine⟨o1,ho1,qI (fun a' w' hk=>?_) h1⟩
    obtain⟨S',hle,hS',hk⟩:=hk
    have h3:=iht _ f S' a' w' (by omega) (hd.set hk') hc1 hS' hk
    exact⟨fun _=>⟨hle _ hS',anyM_mono hle _ _ _ _ h3⟩,fun hm'=>(by rw[hm1]at hm'; cases hm')⟩
   ·refine⟨o2,ho2,qI (fun a' w' hk=>?_) h2⟩
    obtain⟨S',hle,hS',hk⟩:=hk
    have h3:=ihu _ f S' a' w' (by omega) (hd.set hk') hc2 hS' hk
    exact⟨fun _=>⟨hle _ hS',anyM_mono hle _ _ _ _ h3⟩,fun hm'=>(by rw[hm2]at hm'; cases hm')⟩
 | br is g ih=>
  intro listed fuel S a w hf hd hc hS h
  simp only[Tr.chk,Bool.and_eq_true,beq_iff_eq]at hc
  obtain⟨⟨hb0,hr⟩,hall⟩:=hc
  cases fuel with
  | zero=>simp[Tr.len]at hf
  | succ f=>
   simp only[Tr.len]at hf
   refine⟨fun h0=>?_,fun k hk=>?_⟩
   ·rw[hr]at h0
    subst h0
    simp at hb0
   ·have hk':=hk
    rw[hr]at hk
    obtain⟨o1,ho1,h1⟩:=h k hk
    have hc:=List.all_eq_true.1 hall k hk
    simp only[Bool.and_eq_true,Bool.not_eq_true']at hc
    refine⟨o1,ho1,qI (fun a' w' hk=>?_) h1⟩
    obtain⟨S',hle,hS',hk2⟩:=hk
    have h3:=ih k _ f S' a' w' (by have:=len_le (f:=g) hk; omega) (hd.set hk') hc.2 hS' hk2
    exact⟨fun _=>⟨hle _ hS',anyM_mono hle _ _ _ _ h3⟩,fun hm'=>(by rw[hc.1]at hm'; cases hm')⟩
def Tr.okDraw (ops:Array Oper) (t:Tr):Bool:=
 Ndr ops && decide (t.len≤ops.size) && t.chk ops t.muts (fun j i=>waitsB ops ops.size j i) (Array.replicate ops.size false)
theorem wp_region_drawn {P:Program} {id:Nat} {ops:Array Oper} {Q:Exit→Act→World→Prop} {a:Act} {w:World} {ro:Option Nat} (t:Tr) (hm:P.follows .mixedOrders=true)
  (hc:t.okDraw ops=true) (S:World→Prop) (hS:S w.drew) (h:wpT P ops (Q .normal) t S a w.drew):(Code.region id ops true).wpIn (FW ro) 0 P Q a w:=by
 simp only[Tr.okDraw,Bool.and_eq_true,decide_eq_true_eq]at hc
 refine wpIn_region_any hm ?_
 refine anyW_sound hc.1.1 _ _ _ _ (anyM_any _ _ _ _ (wpT_sound (wt:=fun j i=>waitsB ops ops.size j i) hc.1.1 (fun j i h=>waitsB_spec _ j i h) t _ _ S a _ hc.1.2 ?_ hc.2 hS h))
 intro j o hj
 simp[Array.getElem?_replicate]at hj
 split at hj<;>simp at hj
def Tr.lin (n:Nat):Tr→Nat→Bool
 | .done,k=>k == n
 | .q i t,k=>i == k && t.lin n (k+1)
 | .n _ i t,k=>i == k && t.lin n (k+1)
 | .two ..,_=>false
 | .br ..,_=>false
theorem wpT_lin {P:Program} {ops:Array Oper} {Q:Exit→Act→World→Prop} {ro:Option Nat} (hs:Ndr ops=true):∀ (t:Tr) (k:Nat) (S:World→Prop) (a:Act) (w:World),t.lin ops.size k=true→S w→wpT P ops (Q .normal) t S a w→
  k≤ops.size∧wpOpsIn (FW ro) 0 P ops Q (List.range' k (ops.size-k)) a w:=by
 intro t
 induction t with
 | done=>
  intro k S a w hl _ h
  have:k=ops.size:=by simpa [Tr.lin]using hl
  subst this
  have h':Q .normal a w:=h
  exact⟨Nat.le_refl _,by simpa [wpOpsIn]using h'⟩
 | q i t ih=>
  intro k S a w hl hS h
  simp only[Tr.lin,Bool.and_eq_true,beq_iff_eq]at hl
  obtain⟨rfl,hl⟩:=hl
  obtain⟨o,v,ho,hy,h⟩:=h
  obtain⟨hk,h⟩:=ih _ S _ w hl hS h
  have e:ops.size-i=(ops.size-(i+1))+1:=by omega
  rw[e,List.range'_succ]
  refine⟨by omega,?_⟩
  rw[wpOpsIn_cons]
  exact stW_wpOpIn ho (ndr_at hs ho) (hy.stW hS h)
 | n wr i t ih=>
  intro k S a w hl hS h
  simp only[Tr.lin,Bool.and_eq_true,beq_iff_eq]at hl
  obtain⟨rfl,hl⟩:=hl
  obtain⟨o,ho,h⟩:=h
  have hk:i+1≤ops.size:=(Array.getElem?_eq_some_iff.1 ho).1
  have e:ops.size-i=(ops.size-(i+1))+1:=by omega
  rw[e,List.range'_succ]
  refine⟨by omega,?_⟩
  rw[wpOpsIn_cons]
  refine stW_wpOpIn ho (ndr_at hs ho) (qI (fun a' w' hk=>?_) h)
  obtain⟨S',_,hS',hk⟩:=hk
  exact(ih _ S' a' w' hl hS' hk).2
 | two i t j u _ _=>intro k S a w hl; simp[Tr.lin]at hl
 | br is f _=>intro k S a w hl; simp[Tr.lin]at hl
def Tr.okText (ops:Array Oper) (t:Tr):Bool:=Ndr ops && t.lin ops.size 0
theorem wp_region_text {P:Program} {id:Nat} {ops:Array Oper} {Q:Exit→Act→World→Prop} {a:Act} {w:World} {ro:Option Nat} (t:Tr)
  (hc:t.okText ops=true) (S:World→Prop) (hS:S w) (h:wpT P ops (Q .normal) t S a w):(Code.region id ops false).wpIn (FW ro) 0 P Q a w:=by
 simp only[Tr.okText,Bool.and_eq_true]at hc
 refine wpIn_region ?_
 have:=(wpT_lin (ro:=ro) hc.1 t 0 S a w hc.2 hS h).2
 rw[List.range_eq_range']
 simpa using this
end Go.Lw
end
section
namespace Go.Lw
open Go.RowKit
abbrev View:=Nat→Option Obj
def Le (V V':View):Prop:=∀ k o,V k=some o→V' k=some o
theorem Le.refl (V:View):Le V V:=fun _ _ h=>h
theorem Le.trans {A B C:View} (h:Le A B) (k:Le B C):Le A C:=fun i o hi=>k i o (h i o hi)
def hp (w:World):View:=fun k=>w.heap[k]?
theorem Below.le {w w':World} (h:Below w.heap.size w w'):Le (hp w) (hp w'):=fun k o hk=>by
 have hk':w.heap[k]? = some o:=hk
 show w'.heap[k]? = some o
 rw[h.block k (Array.getElem?_eq_some_iff.1 hk').1]; exact hk'
theorem Le.lt {V:View} {w:World} (h:Le V (hp w)) {k:Nat} {o:Obj} (hk:V k=some o):k<w.heap.size:=(Array.getElem?_eq_some_iff.1 (show w.heap[k]? = some o from h k o hk)).1
inductive Own
 | blk (b:Nat) (o:Obj)
 | row (v:Value) (e:TypeId) (s n:Nat) (xs:List Value)
def Own.holds (B:Nat) (w:World):Own→List Nat→Prop
 | .blk b o,fp=>fp=[b]∧B≤b∧w.heap[b]? = some o
 | .row v e s n xs,fp=>fp=v.ownBlock.toList∧w.ownsRow B e s v n xs
def OwnsL (B:Nat) (w:World):List Own→List Nat→Prop
 | [],fp=>fp=[]
 | x::l,fp=>∃ f g,fp=f++g∧x.holds B w f∧OwnsL B w l g
theorem Own.holds.lt {B:Nat} {w:World} {x:Own} {fp:List Nat} (h:x.holds B w fp):∀ b∈fp,B≤b∧b<w.heap.size:=by
 cases x with
 | blk b o=>
  obtain⟨rfl,hB,ho⟩:=h
  intro c hc
  obtain rfl:c=b:=by simpa using hc
  exact⟨hB,(Array.getElem?_eq_some_iff.1 ho).1⟩
 | row v e s n xs=>
  obtain⟨rfl,ho⟩:=h
  intro c hc
  exact ho.lt c (by cases hv:v.ownBlock<;>simp[hv]at hc⊢; exact hc.symm)
theorem Own.holds.kept {B:Nat} {w w':World} {x:Own} {fp:List Nat} (h:x.holds B w fp) (hk:∀ b∈fp,w'.heap[b]? = w.heap[b]?):x.holds B w' fp:=by
 cases x with
 | blk b o=>
  obtain⟨rfl,hB,ho⟩:=h
  exact⟨rfl,hB,by rw[hk b (by simp)]; exact ho⟩
 | row v e s n xs=>
  obtain⟨rfl,h1,h2⟩:=h
  refine⟨rfl,h1,?_⟩
  rcases h2 with hn | ⟨g,cap,cur,rfl,hb,hg,rest⟩
  ·exact .inl hn
  ·exact .inr ⟨g,cap,cur,rfl,hb,by rw[hk g (by simp[Value.ownBlock])]; exact hg,rest⟩
theorem OwnsL.lt {B:Nat} {w:World} : ∀ {O:List Own} {fp:List Nat},OwnsL B w O fp→∀ b∈fp,B≤b∧b<w.heap.size
 | [],_,h,b,hb=>by cases h; cases hb
 | _::_,_,⟨f,g,e,hx,hl⟩,b,hb=>by
  subst e
  rcases List.mem_append.1 hb with h | h
  ·exact hx.lt b h
  ·exact hl.lt b h
theorem OwnsL.kept {B:Nat} {w w':World} : ∀ {O:List Own} {fp:List Nat},OwnsL B w O fp→(∀ b∈fp,w'.heap[b]? = w.heap[b]?)→OwnsL B w' O fp
 | [],_,h,_=>h
 | _::_,_,⟨f,g,e,hx,hl⟩,hk=>by
  subst e
  exact⟨f,g,rfl,hx.kept fun b hb=>hk b (List.mem_append_left _ hb),hl.kept fun b hb=>hk b (List.mem_append_right _ hb)⟩
theorem OwnsL.perm {B:Nat} {w:World} {O O':List Own} (hp:O.Perm O'):∀ {fp:List Nat},OwnsL B w O fp→∃ fp',fp.Perm fp'∧OwnsL B w O' fp':=by
 induction hp with
 | nil=>exact fun h=>⟨_,.refl _,h⟩
 | cons x _ ih=>
  rintro fp ⟨f,g,rfl,hx,hl⟩
  obtain⟨g',hg,hl'⟩:=ih hl
  exact⟨f++g',hg.append_left f,f,g',rfl,hx,hl'⟩
 | swap x y l=>
  rintro fp ⟨f,g,rfl,hx,f2,g2,rfl,hy,hl⟩
  refine⟨f2++(f++g2),?_,f2,_,rfl,hy,f,g2,rfl,hx,hl⟩
  rw[←List.append_assoc,←List.append_assoc]
  exact List.perm_append_comm.append_right g2
 | trans _ _ ih1 ih2=>
  intro fp h
  obtain⟨f1,p1,h1⟩:=ih1 h
  obtain⟨f2,p2,h2⟩:=ih2 h1
  exact⟨f2,p1.trans p2,h2⟩
structure Cx where
 w0:World
 V0:View
 ds:List Deferred:=[]
structure Mem (cx:Cx) (O:List Own) (V:View) (w:World):Prop where
 below:Below cx.w0.heap.size cx.w0 w
 le0:Le cx.V0 V
 fresh:∀ k o,V k=some o→cx.V0 k=some o∨cx.w0.heap.size≤k
 view:Le V (hp w)
 own:∃ fp,OwnsL cx.w0.heap.size w O fp∧fp.Nodup∧∀ b∈fp,V b=none
section
variable {cx:Cx} {O O':List Own} {V V':View} {w w':World}
theorem Mem.perm (h:Mem cx O V w) (hp:O.Perm O'):Mem cx O' V w:=by
 obtain⟨fp,h1,h2,h3⟩:=h.own
 obtain⟨fp',p,h1'⟩:=h1.perm hp
 exact⟨h.below,h.le0,h.fresh,h.view,fp',h1',p.nodup_iff.1 h2,fun b hb=>h3 b (p.mem_iff.2 hb)⟩
theorem Mem.drop {x:Own} (h:Mem cx (x::O) V w):Mem cx O V w:=by
 obtain⟨fp,⟨f,g,rfl,_,hl⟩,h2,h3⟩:=h.own
 exact⟨h.below,h.le0,h.fresh,h.view,g,hl,(List.nodup_append.1 h2).2.1,fun b hb=>h3 b (List.mem_append_right _ hb)⟩
inductive Part:List Own→List Own→Prop
 | nil (O:List Own):Part [] O
 | take {x:Own} {l O R:List Own} (hx:O.Perm (x::R)) (h:Part l R):Part (x::l) O
theorem Mem.cons {x:Own} (h:Mem cx (x::O) V w) {O':List Own} (hk:∀ fp,OwnsL cx.w0.heap.size w O fp→∃ fp',OwnsL cx.w0.heap.size w O' fp'∧(∀ b∈fp',b∈fp)∧(fp.Nodup→fp'.Nodup)):Mem cx (x::O') V w:=by
 obtain⟨fp,⟨f,g,rfl,hx,hl⟩,h2,h3⟩:=h.own
 obtain⟨g',hl',hs,hn⟩:=hk g hl
 obtain⟨n1,n2,n3⟩:=List.nodup_append.1 h2
 refine⟨h.below,h.le0,h.fresh,h.view,f++g',⟨f,g',rfl,hx,hl'⟩,List.nodup_append.2 ⟨n1,hn n2,fun a ha b hb=>n3 a ha b (hs b hb)⟩,fun b hb=>?_⟩
 rcases List.mem_append.1 hb with h | h
 ·exact h3 b (List.mem_append_left _ h)
 ·exact h3 b (List.mem_append_right _ (hs b h))
theorem Part.owns {B:Nat} {l O:List Own} (hp:Part l O):∀ {fp:List Nat},OwnsL B w O fp→∃ fp',OwnsL B w l fp'∧(∀ b∈fp',b∈fp)∧(fp.Nodup→fp'.Nodup):=by
 induction hp with
 | nil O=>exact fun _=>⟨[],rfl,fun _ h=>by(cases h),fun _=>List.nodup_nil⟩
 | take hx _ ih=>
  intro fp h
  obtain⟨fp1,p,f,g,rfl,hx',hl⟩:=h.perm hx
  obtain⟨g',hl',hs,hn⟩:=ih hl
  refine⟨f++g',⟨f,g',rfl,hx',hl'⟩,fun b hb=>p.mem_iff.2 ?_,fun h=>?_⟩
  ·rcases List.mem_append.1 hb with h | h
   ·exact List.mem_append_left _ h
   ·exact List.mem_append_right _ (hs b h)
  ·obtain⟨n1,n2,n3⟩:=List.nodup_append.1 (p.nodup_iff.1 h)
   exact List.nodup_append.2 ⟨n1,hn n2,fun a ha b hb=>n3 a ha b (hs b hb)⟩
theorem Mem.part (h:Mem cx O V w) (hp:Part O' O):Mem cx O' V w:=by
 obtain⟨fp,h1,h2,h3⟩:=h.own
 obtain⟨fp',h1',hs,hn⟩:=hp.owns h1
 exact⟨h.below,h.le0,h.fresh,h.view,fp',h1',hn h2,fun b hb=>h3 b (hs b hb)⟩
theorem Mem.ext (h:Mem cx O V w) (hb:Below w.heap.size w w'):Mem cx O V w':=by
 obtain⟨fp,h1,h2,h3⟩:=h.own
 exact⟨h.below.trans (hb.mono h.below.size),h.le0,h.fresh,h.view.trans (Below.le hb),fp,h1.kept fun b hb'=>hb.block b (h1.lt b hb').2,h2,h3⟩
theorem Mem.more (h:Mem cx O V w) (hb:Below w.heap.size w w') (hl:Le V V') (hv:Le V' (hp w')) (hf:∀ k o,V' k=some o→V k=some o∨w.heap.size≤k):Mem cx O V' w':=by
 have h':=h.ext hb
 obtain⟨fp,h1,h2,h3⟩:=h.own
 refine⟨h'.below,h.le0.trans hl,fun k o hk=>?_,hv,fp,h1.kept fun b hb'=>hb.block b (h1.lt b hb').2,h2,fun b hb'=>?_⟩
 ·rcases hf k o hk with h4 | h4
  ·exact h.fresh k o h4
  ·exact .inr (Nat.le_trans h.below.size h4)
 ·cases hv':V' b with
  | none=>rfl
  | some o=>
   rcases hf b o hv' with h4 | h4
   ·rw[h3 b hb']at h4; cases h4
   ·have:=(h1.lt b hb').2; omega
theorem Mem.less (h:Mem cx O V' w) (h0:Le cx.V0 V) (hl:Le V V'):Mem cx O V w:=by
 obtain⟨fp,h1,h2,h3⟩:=h.own
 refine⟨h.below,h0,fun k o hk=>h.fresh k o (hl k o hk),hl.trans h.view,fp,h1,h2,fun b hb=>?_⟩
 cases hv:V b with
 | none=>rfl
 | some o=>have:=hl b o hv; rw[h3 b hb]at this; cases this
theorem Mem.alloc (h:Mem cx O V w) (o:Obj):Mem cx (.blk w.heap.size o::O) V (w.alloc o):=by
 obtain⟨fp,h1,h2,h3⟩:=h.own
 have h':=h.ext ((Below.refl w.heap.size w).alloc (Nat.le_refl _) o)
 refine⟨h'.below,h'.le0,h'.fresh,h'.view,w.heap.size::fp,⟨[w.heap.size],fp,rfl,⟨rfl,h.below.size,heap_alloc_new w o⟩,h1.kept fun b hb=>heap_alloc_old w o (h1.lt b hb).2⟩,List.nodup_cons.2 ⟨fun hm=>?_,h2⟩,fun b hb=>?_⟩
 ·have:=(h1.lt _ hm).2; omega
 ·rcases List.mem_cons.1 hb with rfl | hb
  ·cases hv:V w.heap.size with
   | none=>rfl
   | some o'=>have:=h.view.lt hv; omega
  ·exact h3 b hb
theorem Mem.blk {b:Nat} {o:Obj} (h:Mem cx (.blk b o::O) V w):w.heap[b]? = some o:=by
 obtain⟨_,⟨_,_,_,⟨_,_,ho⟩,_⟩,_⟩:=h.own; exact ho
theorem Mem.old {b:Nat} {o:Obj} (h:Mem cx (.blk b o::O) V w):cx.w0.heap.size≤b:=by
 obtain⟨_,⟨_,_,_,⟨_,ho,_⟩,_⟩,_⟩:=h.own; exact ho
theorem Mem.set {b:Nat} {o o':Obj} (h:Mem cx (.blk b o::O) V w) (hg:w.grownBy w' (some b)) (ho:w'.heap[b]? = some o'):Mem cx (.blk b o'::O) V w':=by
 obtain⟨fp,⟨f,g,rfl,⟨rfl,hB,hb⟩,hl⟩,h2,h3⟩:=h.own
 have hn:∀ k∈g,k≠b:=fun k hk e=>by
  subst e
  exact(List.nodup_append.1 h2).2.2 k (by simp) k hk rfl
 refine⟨⟨hg.os.trans h.below.os,hg.tape.trans h.below.tape,hg.output.trans h.below.output,Nat.le_trans h.below.size hg.size,fun k hk=>?_⟩,h.le0,h.fresh,fun k o2 hk=>?_,[b]++g,⟨[b],g,rfl,⟨rfl,hB,ho⟩,hl.kept fun k hk=>?_⟩,h2,h3⟩
 ·rw[hg.block k (Nat.lt_of_lt_of_le hk h.below.size) (by intro e; cases e; omega)]
  exact h.below.block k hk
 ·show w'.heap[k]? = some o2
  have hk':w.heap[k]? = some o2:=h.view k o2 hk
  rw[hg.block k (h.view.lt hk) (by intro e; cases e; rw[h3 b (by simp)]at hk; cases hk)]
  exact hk'
 ·exact hg.block k (hl.lt k hk).2 (fun e=>hn k hk (Option.some.inj e))
theorem Mem.give {b:Nat} {o:Obj} (h:Mem cx (.blk b o::O) V w):∃ V':View,Le V V'∧V' b=some o∧Mem cx O V' w:=by
 obtain⟨fp,⟨f,g,rfl,⟨rfl,hB,hb⟩,hl⟩,h2,h3⟩:=h.own
 have hn:∀ k∈g,k≠b:=fun k hk e=>by
  subst e
  exact(List.nodup_append.1 h2).2.2 k (by simp) k hk rfl
 refine⟨fun k=>if k=b then some o else V k,fun k o2 hk=>?_,(by simp),h.below,fun k o2 hk=>?_,fun k o2 hk=>?_,fun k o2 hk=>?_,g,hl,(List.nodup_append.1 h2).2.1,fun k hk=>?_⟩
 ·by_cases e:k=b
  ·subst e; rw[h3 k (by simp)]at hk; cases hk
  ·simp[e,hk]
 ·by_cases e:k=b
  ·subst e; have:=h.le0 k o2 hk; rw[h3 k (by simp)]at this; cases this
  ·simp[e,h.le0 k o2 hk]
 ·by_cases e:k=b
  ·subst e; exact .inr hB
  ·simp[e]at hk; exact h.fresh k o2 hk
 ·by_cases e:k=b
  ·subst e; simp at hk; subst hk; exact hb
  ·simp[e]at hk; exact h.view k o2 hk
 ·simp[hn k hk,h3 k (List.mem_append_right _ hk)]
end
/-! ### Readings of memory -/
def jd (V:View) (p:Addr):Option Value:=
 match V p.block with
 | some (.cells c _ _)=>if p.spot.isSome then none else c[p.off]?
 | _=>none
theorem vcell_hp (w:World) (p:Addr):jd (hp w) p=w.cell? p:=rfl
theorem vcell_le {V V':View} (h:Le V V') {p:Addr} {v:Value} (hv:jd V p=some v):jd V' p=some v:=by
 unfold jd at *
 cases ho:V p.block with
 | none=>rw[ho]at hv; cases hv
 | some o=>rw[h _ _ ho]; rw[ho]at hv; exact hv
def Cells (V:View) (p:Addr) (us:List Value):Prop:=∀ j u,us[j]? = some u→jd V (p.add j)=some u
theorem Cells.le {V V':View} {p:Addr} {us:List Value} (h:Cells V p us) (hl:Le V V'):Cells V' p us:=fun j u hj=>vcell_le hl (h j u hj)
def Sl {α:Type} (V:View) (enc:α→List Value) (s:Nat) (v:Value) (l:List α):Prop:=
 ∃ a cap,v=.slice a l.length cap∧l.length≤cap∧cap≤maxLen∧(l≠[]→a.isSome=true)∧∀ p,a=some p→∀ i x,l[i]? = some x→Cells V (p.add (i*s)) (enc x)
theorem Sl.le {α:Type} {V V':View} {enc:α→List Value} {s:Nat} {v:Value} {l:List α} (h:Sl V enc s v l) (hl:Le V V'):Sl V' enc s v l:=by
 obtain⟨a,cap,h1,h2,h3,h4,h5⟩:=h
 exact⟨a,cap,h1,h2,h3,h4,fun p hp i x hi=>(h5 p hp i x hi).le hl⟩
theorem Sl.nil {α:Type} (V:View) (enc:α→List Value) (s:Nat):Sl V enc s (.slice none 0 0) ([]:List α):=
 ⟨none,0,rfl,Nat.le_refl _,Nat.zero_le _,fun h=>absurd rfl h,fun _ h=>(by cases h)⟩
theorem Sl.qV {α:Type} {V:View} {enc:α→List Value} {s:Nat} {v:Value} {l:List α} (h:Sl V enc s v l):l.length≤9223372036854775807:=by
 obtain⟨a,cap,h1,h2,h3,_⟩:=h; unfold maxLen at h3; omega
def ei (x:Int):List Value:=[.int .i64 x]
abbrev SlI (V:View) (v:Value) (l:List Int):Prop:=Sl V ei 1 v l
/-! ### What is known of a frame -/
def look:List (Nat×Value)→Nat→Option Value
 | [],_=>none
 | (j,v)::l,i=>bif Nat.beq j i then some v else look l i
def ev (ks:List (Nat×Value)):Operand→Option Value
 | .tmp t=>look ks t
 | .const v=>some v
 | .global g=>some (.pointer (some ⟨g,0,none⟩))
 | .func f=>some (.func (.func f) #[] #[])
structure Kn (cx:Cx) (n:Nat) (ks:List (Nat×Value)) (a:Act):Prop where
 defers:a.defers=cx.ds
 size:a.tmps.size=n
 known:∀ i v,look ks i=some v→a.tmps[i]? = some v
theorem Kn.ev {cx:Cx} {n:Nat} {ks:List (Nat×Value)} {a:Act} (h:Kn cx n ks a) {x:Operand} {v:Value} (hv:ev ks x=some v):a.eval x=v:=by
 cases x with
 | tmp t=>simp[Act.eval,h.known t v hv]
 | const u=>exact Option.some.inj hv
 | global g=>exact Option.some.inj hv
 | func f=>exact Option.some.inj hv
theorem Kn.put {cx:Cx} {n:Nat} {ks:List (Nat×Value)} {a:Act} (h:Kn cx n ks a) {d:Nat} (hd:d<n) (v:Value):Kn cx n ((d,v)::ks) (a.put (some d) v):=by
 refine⟨h.defers,by simp[Act.put,h.size],fun i u hu=>?_⟩
 simp only[look]at hu
 by_cases e:d=i
 ·subst e
  have:Nat.beq d d=true:=Nat.beq_refl d
  simp only[this,cond_true,Option.some.injEq]at hu
  subst hu
  simp[Act.put,h.size,hd]
 ·have:Nat.beq d i=false:=by cases hb:Nat.beq d i with | false=>rfl | true=>exact absurd (Nat.eq_of_beq_eq_true hb) e
  simp only[this,cond_false]at hu
  simp only[Act.put,Array.getElem?_setIfInBounds_ne e]
  exact h.known i u hu
def Sub:List (Nat×Value)→List (Nat×Value)→Prop
 | [],_=>True
 | (i,v)::l,ks=>look ks i=some v∧Sub l ks
theorem Sub.look {ks' ks:List (Nat×Value)} (h:Sub ks' ks):∀ i v,look ks' i=some v→Go.Lw.look ks i=some v:=by
 induction ks' with
 | nil=>intro i v h; cases h
 | cons p l ih=>
  obtain⟨j,u⟩:=p
  intro i v hv
  simp only[Go.Lw.look]at hv
  cases hb:Nat.beq j i with
  | true=>
   rw[hb]at hv; simp at hv; subst hv
   have:=Nat.eq_of_beq_eq_true hb; subst this
   exact h.1
  | false=>rw[hb]at hv; simp at hv; exact ih h.2 i v hv
theorem Kn.sub {cx:Cx} {n:Nat} {ks ks':List (Nat×Value)} {a:Act} (h:Kn cx n ks a) (hs:Sub ks' ks):Kn cx n ks' a:=⟨h.defers,h.size,fun i v hv=>h.known i v (hs.look i v hv)⟩
theorem wpIn_loop_ghost {F:Fence} {n:Nat} {P:Program} {Q:Exit→Act→World→Prop} {c:Code} {ι:Type} (I:ι→Act→World→Prop) (μ:ι→Nat)
  (round:∀ i a w,I i a w→c.wpIn F n P (Exit.then (fun a' w'=>∃ i',I i' a' w'∧μ i'<μ i) Q) a w):∀ i a w,I i a w→(Code.loop c).wpIn F n P Q a w:=by
 intro i0 a w h₀ b k cs hro hb hr
 have key:∀ j i a w,μ i=j→I i a w→
   ∃ e a' w',Q e a' w'∧ArrivesIn (Machine.fenced P F) P (lone (b.atR a (.code c::.inLoop c::k)) cs w) b k cs e a' w':=by
  intro j
  induction j using Nat.strongRecOn with
  | _ j ih=>
   intro i a w hn hI
   obtain⟨e,a₁,w₁,hq,harr⟩:=round i a w hI b (.inLoop c::k) cs hro hb hr
   cases e with
   | normal=>
    obtain⟨i',hI₁,hlt⟩:=hq
    obtain⟨e₂,a₂,w₂,hq₂,harr₂⟩:=ih (μ i') (hn▸hlt) i' a₁ w₁ rfl hI₁
    exact⟨e₂,a₂,w₂,hq₂,.of_steps (StepsIn.trans harr (.one (fenced_calm hb hr rfl) stepR_inLoop)) harr₂⟩
   | exit id=>exact⟨_,a₁,w₁,hq,.pass (x:=.inLoop c) rfl (fun _ _=>.inl (by simp)) harr⟩
   | goto l=>exact⟨_,a₁,w₁,hq,.pass (x:=.inLoop c) rfl (fun _ _=>.inl (by simp)) harr⟩
   | ret=>exact⟨_,a₁,w₁,hq,.pass (x:=.inLoop c) rfl (fun _ _=>.inl (by simp)) harr⟩
   | panic ch=>exact⟨_,a₁,w₁,hq,.pass (x:=.inLoop c) rfl (fun _ _=>.inl (by simp)) harr⟩
   | outgrown=>exact⟨_,a₁,w₁,hq,.pass (x:=.inLoop c) rfl (fun _ _=>.inl (by simp)) harr⟩
 obtain⟨e,a',w',hq,harr⟩:=key _ i0 a w rfl h₀
 exact⟨e,a',w',hq,.of_steps (.one (fenced_calm hb hr rfl) stepR_loop) harr⟩
/-! ### The judgements -/
def At (cx:Cx) (n:Nat) (ks:List (Nat×Value)) (O:List Own) (V:View) (K:Act→World→Prop):Prop:=∀ a w,Kn cx n ks a→Mem cx O V w→K a w
def AtT (cx:Cx) (n:Nat) (ks:List (Nat×Value)) (O:List Own) (V:View) (P:Program) (ops:Array Oper) (Qn:Act→World→Prop) (t:Tr):Prop:=
 ∀ a w,Kn cx n ks a→Mem cx O V w→wpT P ops Qn t (Mem cx O V) a w
section
variable {cx:Cx} {n:Nat} {ks:List (Nat×Value)} {O:List Own} {V:View} {P:Program} {ro:Option Nat} {Q:Exit→Act→World→Prop} {K:Act→World→Prop}
theorem At.seq {x y:Code} (h:At cx n ks O V (x.wpIn (FW ro) 0 P (Exit.then (y.wpIn (FW ro) 0 P Q) Q))):At cx n ks O V ((Code.seq x y).wpIn (FW ro) 0 P Q):=fun a w hk hm=>wpIn_seq (h a w hk hm)
theorem At.block {id:Nat} {c:Code} (h:At cx n ks O V (c.wpIn (FW ro) 0 P (Exit.inBlock id Q))):At cx n ks O V ((Code.block id c).wpIn (FW ro) 0 P Q):=fun a w hk hm=>wpIn_block (h a w hk hm)
theorem At.skip (h:At cx n ks O V (Q .normal)):At cx n ks O V (Code.skip.wpIn (FW ro) 0 P Q):=fun a w hk hm=>wpIn_skip (h a w hk hm)
theorem At.label {l:Nat} (h:At cx n ks O V (Q .normal)):At cx n ks O V ((Code.label l).wpIn (FW ro) 0 P Q):=fun a w hk hm=>wpIn_label (h a w hk hm)
theorem At.exit {id:Nat} (h:At cx n ks O V (Q (.exit id))):At cx n ks O V ((Code.exit id).wpIn (FW ro) 0 P Q):=fun a w hk hm=>wpIn_exit (h a w hk hm)
theorem At.ret (h:At cx n ks O V (Q .ret)):At cx n ks O V (Code.ret.wpIn (FW ro) 0 P Q):=fun a w hk hm=>wpIn_ret (h a w hk hm)
theorem At.cond {c:Operand} {x y:Code} {b:Bool} (hc:ev ks c=some (.bool b)) (ht:b=true→At cx n ks O V (x.wpIn (FW ro) 0 P Q)) (hf:b=false→At cx n ks O V (y.wpIn (FW ro) 0 P Q)) :
  At cx n ks O V ((Code.cond c x y).wpIn (FW ro) 0 P Q):=fun a w hk hm=>wpIn_cond_split (hk.ev hc) (fun h=>ht h a w hk hm) (fun h=>hf h a w hk hm)
theorem At.qb {c:Operand} {x y:Code} {p:Prop} [Decidable p] (hc:ev ks c=some (.bool (decide p))) (ht:p→At cx n ks O V (x.wpIn (FW ro) 0 P Q)) (hf:¬ p→At cx n ks O V (y.wpIn (FW ro) 0 P Q)) :
  At cx n ks O V ((Code.cond c x y).wpIn (FW ro) 0 P Q):=At.cond hc (fun h=>ht (of_decide_eq_true h)) (fun h=>hf (of_decide_eq_false h))
theorem At.jo {c:Operand} {x y:Code} {b:Bool} (hc:ev ks c=some (.bool b)) (hb:b=true) (h:At cx n ks O V (x.wpIn (FW ro) 0 P Q)):At cx n ks O V ((Code.cond c x y).wpIn (FW ro) 0 P Q):=
 At.cond hc (fun _=>h) (fun e=>by rw[hb]at e; cases e)
theorem At.qh {c:Operand} {x y:Code} {b:Bool} (hc:ev ks c=some (.bool b)) (hb:b=false) (h:At cx n ks O V (y.wpIn (FW ro) 0 P Q)):At cx n ks O V ((Code.cond c x y).wpIn (FW ro) 0 P Q):=
 At.cond hc (fun e=>by rw[hb]at e; cases e) (fun _=>h)
theorem At.then {next:Act→World→Prop} (h:At cx n ks O V next):At cx n ks O V (Exit.then next Q .normal):=h
theorem At.thenX {next:Act→World→Prop} {id:Nat} (h:At cx n ks O V (Q (.exit id))):At cx n ks O V (Exit.then next Q (.exit id)):=h
theorem At.thenR {next:Act→World→Prop} (h:At cx n ks O V (Q .ret)):At cx n ks O V (Exit.then next Q .ret):=h
theorem At.inN {id:Nat} (h:At cx n ks O V (Q .normal)):At cx n ks O V (Exit.inBlock id Q .normal):=h
theorem At.inR {id:Nat} (h:At cx n ks O V (Q .ret)):At cx n ks O V (Exit.inBlock id Q .ret):=h
theorem At.inX {id:Nat} (h:At cx n ks O V (Q .normal)):At cx n ks O V (Exit.inBlock id Q (.exit id)):=fun a w hk hm=>by
 show(if id=id then Q .normal a w else _); rw[if_pos rfl]; exact h a w hk hm
theorem At.inY {id id':Nat} (hn:Nat.beq id' id=false) (h:At cx n ks O V (Q (.exit id'))):At cx n ks O V (Exit.inBlock id Q (.exit id')):=fun a w hk hm=>by
 show(if id'=id then _ else Q (.exit id') a w)
 rw[if_neg (fun e=>by subst e; rw[Nat.beq_refl]at hn; cases hn)]
 exact h a w hk hm
theorem At.sub {ks':List (Nat×Value)} (hs:Sub ks' ks) (h:At cx n ks' O V K):At cx n ks O V K:=fun a w hk hm=>h a w (hk.sub hs) hm
theorem At.part {O':List Own} (hp:Part O' O) (h:At cx n ks O' V K):At cx n ks O V K:=fun a w hk hm=>h a w hk (hm.part hp)
theorem At.perm {O':List Own} (hp:O.Perm O') (h:At cx n ks O' V K):At cx n ks O V K:=fun a w hk hm=>h a w hk (hm.perm hp)
theorem At.give {b:Nat} {o:Obj} (h:∀ V',Le V V'→V' b=some o→At cx n ks O V' K):At cx n ks (.blk b o::O) V K:=fun a w hk hm=>by
 obtain⟨V',h1,h2,h3⟩:=hm.give
 exact h V' h1 h2 a w hk h3
theorem At.draw {id:Nat} {ops:Array Oper} (t:Tr) (hm:P.follows .mixedOrders=true) (hc:t.okDraw ops=true) (h:AtT cx n ks O V P ops (Q .normal) t) :
  At cx n ks O V ((Code.region id ops true).wpIn (FW ro) 0 P Q):=fun a w hk hw=>
 have hd:Mem cx O V w.drew:=hw.ext (Below.refl _ w).drew
 wp_region_drawn t hm hc (Mem cx O V) hd (h a w.drew hk hd)
theorem At.text {id:Nat} {ops:Array Oper} (t:Tr) (hc:t.okText ops=true) (h:AtT cx n ks O V P ops (Q .normal) t) :
  At cx n ks O V ((Code.region id ops false).wpIn (FW ro) 0 P Q):=fun a w hk hw=>wp_region_text t hc (Mem cx O V) hw (h a w hk hw)
theorem At.loop {ι:Type} {c:Code} (KS:ι→List (Nat×Value)) (OS:ι→List Own) (VS:ι→View→Prop) (μ:ι→Nat) (i0:ι)
  (hs:Sub (KS i0) ks) (hp:Part (OS i0) O) (hv:VS i0 V)
  (hbody:∀ i V',VS i V'→Le cx.V0 V'→At cx n (KS i) (OS i) V' (c.wpIn (FW ro) 0 P (Exit.then (fun a w=>∃ i' V'',μ i'<μ i∧VS i' V''∧Kn cx n (KS i') a∧Mem cx (OS i') V'' w) Q))) :
  At cx n ks O V ((Code.loop c).wpIn (FW ro) 0 P Q):=fun a w hk hm=>
 wpIn_loop_ghost (fun(i:ι) a w=>∃ V',VS i V'∧Kn cx n (KS i) a∧Mem cx (OS i) V' w) μ
  (fun i a w ⟨V',hV,hk,hm⟩=>wpIn_mono (hbody i V' hV hm.le0 a w hk hm) (fun e a' w' hq=>by
   cases e with
   | normal=>
    obtain⟨i',V'',hlt,hV',hk',hm'⟩:=hq
    exact⟨i',⟨V'',hV',hk',hm'⟩,hlt⟩
   | exit id=>exact hq
   | goto l=>exact hq
   | ret=>exact hq
   | panic ch=>exact hq
   | outgrown=>exact hq)) i0 a w ⟨V,hv,hk.sub hs,hm.part hp⟩
end
end Go.Lw
end
section
set_option linter.unusedVariables false
set_option linter.unusedSimpArgs false
namespace Go.Lw
open Go.RowKit
/-! ### Types -/
def aggB:TypeDesc→Bool
 | .struct _=>true
 | .array _ _=>true
 | _=>false
def tkB (P:Program) (T:TypeId):Option (Bool×Nat):=
 match P.underlying T,P.info? T with
 | some d,some i=>some (aggB d,i.size)
 | _,_=>none
theorem run_isAgg {P:Program} {T:TypeId} {b:Bool} {s:Nat} (h:tkB P T=some (b,s)) (w:World):(isAgg T).run P w=.ok b w:=by
 unfold tkB at h
 cases hu:P.underlying T with
 | none=>rw[hu]at h; cases h
 | some d=>
  cases hi:P.info? T with
  | none=>rw[hu,hi]at h; cases h
  | some i=>
   rw[hu,hi]at h
   simp only[Option.some.injEq,Prod.mk.injEq]at h
   unfold isAgg
   simp only[Sem.run_bind,run_underlying hu,Result.andThen_ok]
   rw[←h.1]
   cases d<;>rfl
theorem run_sizeOf {P:Program} {T:TypeId} {b:Bool} {s:Nat} (h:tkB P T=some (b,s)) (w:World):(sizeOf T).run P w=.ok s w:=by
 unfold tkB at h
 cases hu:P.underlying T with
 | none=>rw[hu]at h; cases h
 | some d=>
  cases hi:P.info? T with
  | none=>rw[hu,hi]at h; cases h
  | some i=>
   rw[hu,hi]at h
   simp only[Option.some.injEq,Prod.mk.injEq]at h
   simp[sizeOf,typeInfo,hi,h.2]
def zx (P:Program) (T:TypeId):Option Value:=(P.info? T).bind (·.zero)
theorem run_zero {P:Program} {T:TypeId} {z:Value} (h:zx P T=some z) (w:World):(zeroValue T).run P w=.ok z w:=by
 unfold zx at h
 cases hi:P.info? T with
 | none=>rw[hi]at h; cases h
 | some i=>
  rw[hi]at h
  simp only[Option.bind_some]at h
  simp[zeroValue,typeInfo,hi,h]
theorem addr_add_add (p:Addr) (i j:Nat):(p.add i).add j=p.add (i+j):=by
 unfold Addr.add
 by_cases hi:i=0
 ·subst hi; simp
 ·by_cases hj:j=0
  ·subst hj; simp
  ·simp[hi,hj,Nat.add_assoc]
def Fit (z:Int):Prop:=-9223372036854775808≤z∧z≤9223372036854775807
theorem wrap_fit {z:Int} (h:Fit z):IntKind.i64.wrap z=z:=IntWalk.i64_in _ h
theorem Fit.of {z:Int} (h1 : -9223372036854775808≤z) (h2:z≤9223372036854775807):Fit z:=⟨h1,h2⟩
section
variable {cx:Cx} {n:Nat} {ks:List (Nat×Value)} {O:List Own} {V:View} {P:Program} {ops:Array Oper} {Qn:Act→World→Prop} {t:Tr} {i d:Nat} {T:TypeId} {pos:String} {after:Array Edge} {gd:Option (Nat×Bool)}
theorem AtT.done (h:At cx n ks O V Qn):AtT cx n ks O V P ops Qn .done:=fun a w hk hm=>h a w hk hm
def Gd (ks:List (Nat×Value)) (ops:Array Oper):Option (Nat×Bool)→Prop
 | none=>True
 | some (j,want)=>∃ (od:Oper) (g:Nat),ops[j]? = some od∧od.dst=some g∧look ks g=some (.bool want)
theorem Gd.wanted {o:Oper} {a:Act} (hg:Gd ks ops o.guard) (hk:Kn cx n ks a):Region.wanted o (yielded ops a.tmps)=true:=by
 cases h:o.guard with
 | none=>simp[Region.wanted,h]
 | some jw=>
  obtain⟨j,want⟩:=jw
  rw[h]at hg
  obtain⟨od,g,h1,h2,h3⟩:=hg
  have:=hk.known g _ h3
  simp[Region.wanted,h,yielded,h1,h2,this]
theorem AtT.q {o:Oper} {v:Value} (ho:ops[i]? = some o) (hg:Gd ks ops o.guard) (hd:o.dst=some d) (hn:d<n)
  (hy:∀ a w,Kn cx n ks a→Mem cx O V w→(execOp a.eval o).run P w=.ok (.value v) w)
  (next:AtT cx n ((d,v)::ks) O V P ops Qn t):AtT cx n ks O V P ops Qn (.q i t):=fun a w hk hm=>
 ⟨o,v,ho,.inl ⟨hg.wanted hk,fun u hu=>hy a u hk hu⟩,by rw[hd]; exact next _ w (hk.put hn v) hm⟩
theorem AtT.pass {o:Oper} {g:Nat} {want:Bool} {od:Oper} {gd:Nat} (ho:ops[i]? = some o) (hg:o.guard=some (g,want)) (hog:ops[g]? = some od) (hgd:od.dst=some gd) (hgv:look ks gd=some (.bool (!want))) (hd:o.dst=some d) (hn:d<n)
  (next:AtT cx n ((d,undef)::ks) O V P ops Qn t):AtT cx n ks O V P ops Qn (.q i t):=fun a w hk hm=>
 ⟨o,undef,ho,.inr ⟨by
  have:=hk.known gd _ hgv
  simp[Region.wanted,hg,yielded,hog,hgd,this],rfl⟩,by rw[hd]; exact next _ w (hk.put hn undef) hm⟩
theorem AtT.passN {o:Oper} {g:Nat} {want:Bool} {od:Oper} {gd:Nat} {wr:Bool} (ho:ops[i]? = some o) (hg:o.guard=some (g,want)) (hog:ops[g]? = some od) (hgd:od.dst=some gd) (hgv:look ks gd=some (.bool (!want))) (hd:o.dst=some d) (hn:d<n)
  (next:AtT cx n ((d,undef)::ks) O V P ops Qn t):AtT cx n ks O V P ops Qn (.n wr i t):=fun a w hk hm=>
 ⟨o,ho,by
  have:=hk.known gd _ hgv
  unfold stW
  rw[if_neg (by simp[Region.wanted,hg,yielded,hog,hgd,this]),hd]
  exact⟨Mem cx O V,fun _ _ h=>h,hm,next _ w (hk.put hn undef) hm⟩⟩
theorem AtT.x {o:Oper} {wr:Bool} (ho:ops[i]? = some o) (hg:Gd ks ops o.guard)
  (h:∀ a w,Kn cx n ks a→Mem cx O V w→opW P o a w (fun a' w'=>∃ ks' O' V',Kn cx n ks' a'∧Mem cx O' V' w'∧(wr=false→∀ u,Mem cx O' V' u→Mem cx O V u)∧AtT cx n ks' O' V' P ops Qn t)) :
  AtT cx n ks O V P ops Qn (.n wr i t):=fun a w hk hm=>
 ⟨o,ho,by
  unfold stW
  rw[if_pos (hg.wanted hk)]
  exact opW_mono (fun a' w' ⟨ks',O',V',hk',hm',hle,hn⟩=>⟨Mem cx O' V',hle,hm',hn a' w' hk' hm'⟩) (h a w hk hm)⟩
theorem AtT.cases {b:Bool} (ht:b=true→AtT cx n ks O V P ops Qn t) (hf:b=false→AtT cx n ks O V P ops Qn t):AtT cx n ks O V P ops Qn t:=by
 cases b
 ·exact hf rfl
 ·exact ht rfl
theorem AtT.sub {ks':List (Nat×Value)} (hs:Sub ks' ks) (h:AtT cx n ks' O V P ops Qn t):AtT cx n ks O V P ops Qn t:=fun a w hk hm=>h a w (hk.sub hs) hm
/-! #### Copies and arithmetic -/
theorem AtT.move {x:Operand} {v:Value} (ho:ops[i]? = some ⟨some d,.move x,T,pos,after,gd⟩) (hg:Gd ks ops gd) (hx:ev ks x=some v) (hn:d<n)
  (next:AtT cx n ((d,v)::ks) O V P ops Qn t):AtT cx n ks O V P ops Qn (.q i t):=
 .q ho hg rfl hn (fun a w hk _=>by simp[execOp,hk.ev hx]) next
theorem AtT.assign {x:Operand} {v:Value} (ho:ops[i]? = some ⟨some d,.assign x,T,pos,after,gd⟩) (hg:Gd ks ops gd) (hx:ev ks x=some v) (hn:d<n)
  (next:AtT cx n ((d,v)::ks) O V P ops Qn t):AtT cx n ks O V P ops Qn (.q i t):=
 .q ho hg rfl hn (fun a w hk _=>by simp[execOp,hk.ev hx]) next
theorem AtT.pick {c x y:Operand} {b:Bool} {u v:Value} (ho:ops[i]? = some ⟨some d,.pick c x y,T,pos,after,gd⟩) (hg:Gd ks ops gd) (hc:ev ks c=some (.bool b)) (hx:ev ks x=some u) (hy:ev ks y=some v) (hn:d<n)
  (next:AtT cx n ((d,bif b then u else v)::ks) O V P ops Qn t):AtT cx n ks O V P ops Qn (.q i t):=
 .q ho hg rfl hn (fun a w hk _=>by cases b<;>simp[execOp,hk.ev hx,hk.ev hy,hk.ev hc,asBool]) next
variable {x y:Operand} {u v:Value} {k:IntKind} {p q:Int} {X Y:TypeId}
theorem AtT.addW (ho:ops[i]? = some ⟨some d,.binOp .add X x y Y,T,pos,after,gd⟩) (hg:Gd ks ops gd) (hx:ev ks x=some (.int k p)) (hy:ev ks y=some (.int k q)) (hn:d<n)
  (next:AtT cx n ((d,.int k (k.wrap (p+q)))::ks) O V P ops Qn t):AtT cx n ks O V P ops Qn (.q i t):=
 .q ho hg rfl hn (fun a w hk _=>by simp[execOp,hk.ev hx,hk.ev hy,eqGuard_add,binOp_add,Op.intArith]) next
theorem AtT.subW (ho:ops[i]? = some ⟨some d,.binOp .sub X x y Y,T,pos,after,gd⟩) (hg:Gd ks ops gd) (hx:ev ks x=some (.int k p)) (hy:ev ks y=some (.int k q)) (hn:d<n)
  (next:AtT cx n ((d,.int k (k.wrap (p-q)))::ks) O V P ops Qn t):AtT cx n ks O V P ops Qn (.q i t):=
 .q ho hg rfl hn (fun a w hk _=>by simp[execOp,hk.ev hx,hk.ev hy,eqGuard_sub,binOp_sub,Op.intArith]) next
theorem AtT.mulW (ho:ops[i]? = some ⟨some d,.binOp .mul X x y Y,T,pos,after,gd⟩) (hg:Gd ks ops gd) (hx:ev ks x=some (.int k p)) (hy:ev ks y=some (.int k q)) (hn:d<n)
  (next:AtT cx n ((d,.int k (k.wrap (p*q)))::ks) O V P ops Qn t):AtT cx n ks O V P ops Qn (.q i t):=
 .q ho hg rfl hn (fun a w hk _=>by simp[execOp,hk.ev hx,hk.ev hy,eqGuard_mul,binOp_mul,Op.intArith]) next
theorem AtT.add (ho:ops[i]? = some ⟨some d,.binOp .add X x y Y,T,pos,after,gd⟩) (hg:Gd ks ops gd) (hx:ev ks x=some (.int .i64 p)) (hy:ev ks y=some (.int .i64 q)) (hn:d<n) (hf:Fit (p+q))
  (next:AtT cx n ((d,.int .i64 (p+q))::ks) O V P ops Qn t):AtT cx n ks O V P ops Qn (.q i t):=.addW ho hg hx hy hn (by rw[wrap_fit hf]; exact next)
theorem AtT.subt (ho:ops[i]? = some ⟨some d,.binOp .sub X x y Y,T,pos,after,gd⟩) (hg:Gd ks ops gd) (hx:ev ks x=some (.int .i64 p)) (hy:ev ks y=some (.int .i64 q)) (hn:d<n) (hf:Fit (p-q))
  (next:AtT cx n ((d,.int .i64 (p-q))::ks) O V P ops Qn t):AtT cx n ks O V P ops Qn (.q i t):=.subW ho hg hx hy hn (by rw[wrap_fit hf]; exact next)
theorem AtT.mul (ho:ops[i]? = some ⟨some d,.binOp .mul X x y Y,T,pos,after,gd⟩) (hg:Gd ks ops gd) (hx:ev ks x=some (.int .i64 p)) (hy:ev ks y=some (.int .i64 q)) (hn:d<n) (hf:Fit (p*q))
  (next:AtT cx n ((d,.int .i64 (p*q))::ks) O V P ops Qn t):AtT cx n ks O V P ops Qn (.q i t):=.mulW ho hg hx hy hn (by rw[wrap_fit hf]; exact next)
theorem AtT.quo (ho:ops[i]? = some ⟨some d,.binOp .quo X x y Y,T,pos,after,gd⟩) (hg:Gd ks ops gd) (hx:ev ks x=some (.int .i64 p)) (hy:ev ks y=some (.int .i64 q)) (hn:d<n) (hq:q≠0) (hf:Fit (p.tdiv q))
  (next:AtT cx n ((d,.int .i64 (p.tdiv q))::ks) O V P ops Qn t):AtT cx n ks O V P ops Qn (.q i t):=
 .q ho hg rfl hn (fun a w hk _=>by simp[execOp,hk.ev hx,hk.ev hy,eqGuard_quo,binOp_quo,Op.intDiv,hq,wrap_fit hf]) next
theorem AtT.rem (ho:ops[i]? = some ⟨some d,.binOp .rem X x y Y,T,pos,after,gd⟩) (hg:Gd ks ops gd) (hx:ev ks x=some (.int k p)) (hy:ev ks y=some (.int k q)) (hn:d<n) (hq:q≠0)
  (next:AtT cx n ((d,.int k (p.tmod q))::ks) O V P ops Qn t):AtT cx n ks O V P ops Qn (.q i t):=
 .q ho hg rfl hn (fun a w hk _=>by simp[execOp,hk.ev hx,hk.ev hy,eqGuard_rem,binOp_rem,Op.intDiv,hq]) next
theorem AtT.eqI (ho:ops[i]? = some ⟨some d,.binOp .eql X x y Y,T,pos,after,gd⟩) (hg:Gd ks ops gd) (hx:ev ks x=some (.int k p)) (hy:ev ks y=some (.int k q)) (hn:d<n)
  (next:AtT cx n ((d,.bool (decide (p=q)))::ks) O V P ops Qn t):AtT cx n ks O V P ops Qn (.q i t):=
 .q ho hg rfl hn (fun a w hk _=>by simp[execOp,hk.ev hx,hk.ev hy,eqGuard_at_int,binOp_eql]; rfl) next
theorem AtT.neI (ho:ops[i]? = some ⟨some d,.binOp .neq X x y Y,T,pos,after,gd⟩) (hg:Gd ks ops gd) (hx:ev ks x=some (.int k p)) (hy:ev ks y=some (.int k q)) (hn:d<n)
  (next:AtT cx n ((d,.bool (decide (p≠q)))::ks) O V P ops Qn t):AtT cx n ks O V P ops Qn (.q i t):=
 .q ho hg rfl hn (fun a w hk _=>by simp[execOp,hk.ev hx,hk.ev hy,eqGuard_at_int,binOp_neq,bne,BEq.beq]) next
theorem AtT.lss (ho:ops[i]? = some ⟨some d,.binOp .lss X x y Y,T,pos,after,gd⟩) (hg:Gd ks ops gd) (hx:ev ks x=some (.int k p)) (hy:ev ks y=some (.int k q)) (hn:d<n)
  (next:AtT cx n ((d,.bool (decide (p<q)))::ks) O V P ops Qn t):AtT cx n ks O V P ops Qn (.q i t):=
 .q ho hg rfl hn (fun a w hk _=>by simp[execOp,hk.ev hx,hk.ev hy,eqGuard_at_int,binOp_lss]) next
theorem AtT.leq (ho:ops[i]? = some ⟨some d,.binOp .leq X x y Y,T,pos,after,gd⟩) (hg:Gd ks ops gd) (hx:ev ks x=some (.int k p)) (hy:ev ks y=some (.int k q)) (hn:d<n)
  (next:AtT cx n ((d,.bool (decide (p≤q)))::ks) O V P ops Qn t):AtT cx n ks O V P ops Qn (.q i t):=
 .q ho hg rfl hn (fun a w hk _=>by simp[execOp,hk.ev hx,hk.ev hy,eqGuard_at_int,binOp_leq]) next
theorem AtT.gtr (ho:ops[i]? = some ⟨some d,.binOp .gtr X x y Y,T,pos,after,gd⟩) (hg:Gd ks ops gd) (hx:ev ks x=some (.int k p)) (hy:ev ks y=some (.int k q)) (hn:d<n)
  (next:AtT cx n ((d,.bool (decide (q<p)))::ks) O V P ops Qn t):AtT cx n ks O V P ops Qn (.q i t):=
 .q ho hg rfl hn (fun a w hk _=>by simp[execOp,hk.ev hx,hk.ev hy,eqGuard_at_int,binOp_gtr]) next
theorem AtT.geq (ho:ops[i]? = some ⟨some d,.binOp .geq X x y Y,T,pos,after,gd⟩) (hg:Gd ks ops gd) (hx:ev ks x=some (.int k p)) (hy:ev ks y=some (.int k q)) (hn:d<n)
  (next:AtT cx n ((d,.bool (decide (q≤p)))::ks) O V P ops Qn t):AtT cx n ks O V P ops Qn (.q i t):=
 .q ho hg rfl hn (fun a w hk _=>by simp[execOp,hk.ev hx,hk.ev hy,eqGuard_at_int,binOp_geq]) next
theorem AtT.negW (ho:ops[i]? = some ⟨some d,.unOp .neg X x,T,pos,after,gd⟩) (hg:Gd ks ops gd) (hx:ev ks x=some (.int k p)) (hn:d<n)
  (next:AtT cx n ((d,.int k (k.wrap (-p)))::ks) O V P ops Qn t):AtT cx n ks O V P ops Qn (.q i t):=
 .q ho hg rfl hn (fun a w hk _=>by simp[execOp,hk.ev hx,Op.unary,Op.intArith]) next
theorem AtT.neg (ho:ops[i]? = some ⟨some d,.unOp .neg X x,T,pos,after,gd⟩) (hg:Gd ks ops gd) (hx:ev ks x=some (.int .i64 p)) (hn:d<n) (hf:Fit (-p))
  (next:AtT cx n ((d,.int .i64 (-p))::ks) O V P ops Qn t):AtT cx n ks O V P ops Qn (.q i t):=.negW ho hg hx hn (by rw[wrap_fit hf]; exact next)
theorem AtT.not {b:Bool} (ho:ops[i]? = some ⟨some d,.unOp .not X x,T,pos,after,gd⟩) (hg:Gd ks ops gd) (hx:ev ks x=some (.bool b)) (hn:d<n)
  (next:AtT cx n ((d,.bool (!b))::ks) O V P ops Qn t):AtT cx n ks O V P ops Qn (.q i t):=
 .q ho hg rfl hn (fun a w hk _=>by simp[execOp,hk.ev hx,Op.unary]) next
theorem AtT.max2 (ho:ops[i]? = some ⟨some d,.call ⟨.builtin .max,#[x,y],#[X,Y]⟩,T,pos,after,gd⟩) (hg:Gd ks ops gd) (hx:ev ks x=some (.int k p)) (hy:ev ks y=some (.int k q)) (hn:d<n)
  (next:AtT cx n ((d,.int k (max p q))::ks) O V P ops Qn t):AtT cx n ks O V P ops Qn (.q i t):=
 .q ho hg rfl hn (fun a w hk _=>by
  have e:(if q > p then q else p)=max p q:=by split<;>omega
  simp[execOp,resolve,invoke,builtin,hk.ev hx,hk.ev hy,Builtin.max_,Builtin.max2,e]) next
theorem AtT.min2 (ho:ops[i]? = some ⟨some d,.call ⟨.builtin .min,#[x,y],#[X,Y]⟩,T,pos,after,gd⟩) (hg:Gd ks ops gd) (hx:ev ks x=some (.int k p)) (hy:ev ks y=some (.int k q)) (hn:d<n)
  (next:AtT cx n ((d,.int k (min p q))::ks) O V P ops Qn t):AtT cx n ks O V P ops Qn (.q i t):=
 .q ho hg rfl hn (fun a w hk _=>by
  have e:(if q<p then q else p)=min p q:=by split<;>omega
  simp[execOp,resolve,invoke,builtin,hk.ev hx,hk.ev hy,Builtin.min_,Builtin.min2,e]) next
end
end Go.Lw
end
section
set_option linter.unusedVariables false
set_option linter.unusedSimpArgs false
namespace Go.Lw
open Go.RowKit
inductive zM (x:Own):List Own→List Own→Prop
 | here {l:List Own} : zM x (x::l) l
 | there {y:Own} {l l':List Own} (h:zM x l l'):zM x (y::l) (y::l')
theorem zM.perm {x:Own} {l R:List Own} (h:zM x l R):l.Perm (x::R):=by
 induction h with
 | here=>exact .refl _
 | there _ ih=>exact(ih.cons _).trans (.swap _ _ _)
inductive Upd (x y:Own):List Own→List Own→Prop
 | here {l:List Own} : Upd x y (x::l) (y::l)
 | there {z:Own} {l l':List Own} (h:Upd x y l l'):Upd x y (z::l) (z::l')
theorem Upd.perm {x y:Own} {l l':List Own} (h:Upd x y l l'):∃ R,l.Perm (x::R)∧l'.Perm (y::R):=by
 induction h with
 | here=>exact⟨_,.refl _,.refl _⟩
 | there _ ih=>obtain⟨R,h1,h2⟩:=ih; exact⟨_,(h1.cons _).trans (.swap _ _ _),(h2.cons _).trans (.swap _ _ _)⟩
inductive Pt:List Own→List Own→Prop
 | nil {l:List Own} : Pt [] l
 | cons {x:Own} {l' l R:List Own} (hx:zM x l R) (h:Pt l' R):Pt (x::l') l
theorem Pt.part {l' l:List Own} (h:Pt l' l):Part l' l:=by
 induction h with
 | nil=>exact .nil _
 | cons hx _ ih=>exact .take hx.perm ih
inductive SetAt:List Value→Nat→Value→List Value→Prop
 | here {x v:Value} {l:List Value} : SetAt (x::l) 0 v (v::l)
 | there {x v:Value} {l l':List Value} {n:Nat} (h:SetAt l n v l'):SetAt (x::l) (n+1) v (x::l')
theorem SetAt.eq {l l':List Value} {n:Nat} {v:Value} (h:SetAt l n v l'):n<l.length∧l'=l.set n v:=by
 induction h with
 | here=>simp
 | there _ ih=>simp[ih.1,←ih.2]
theorem Mem.pick {cx:Cx} {O R:List Own} {V:View} {w:World} {x:Own} (h:Mem cx O V w) (hp:zM x O R):Mem cx (x::R) V w:=h.perm hp.perm
def LC (cs:List Value) (E:TypeId) (fr:Nat×Nat:=(0,0)):Obj:=.cells ⟨cs⟩ E fr
theorem kH {w:World} {b off:Nat} {cs:List Value} {E:TypeId} {fr:Nat×Nat} (h:w.heap[b]? = some (LC cs E fr)):w.cell? ⟨b,off,none⟩=cs[off]?:=by
 simp[World.cell?,h,LC]
theorem run_load_cell {P:Program} {T:TypeId} {s:Nat} {w:World} {p:Addr} {v:Value} (hT:tkB P T=some (false,s)) (h:w.cell? p=some v):(Instr.loadAt T (.pointer (some p))).run P w=.ok v w:=by
 simp[Instr.loadAt,Instr.sureAddr,loadVar,run_isAgg hT,run_load,h]
theorem xh {P:Program} {T:TypeId} {w:World} {p:Addr} {us:List Value} {m:Nat} (hT:tkB P T=some (true,m)) (hl:us.length=m) (h:∀ j u,us[j]? = some u→w.cell? (p.add j)=some u) :
  (Instr.loadAt T (.pointer (some p))).run P w=.ok (.agg us.toArray) w:=by
 subst hl
 simp[Instr.loadAt,Instr.sureAddr,loadVar,run_isAgg hT,run_sizeOf hT,run_loadCells_list w p us h]
theorem Cells.run {V:View} {w:World} {p:Addr} {us:List Value} (h:Cells V p us) (hv:Le V (hp w)):∀ j u,us[j]? = some u→w.cell? (p.add j)=some u:=fun j u hj=>vcell_le hv (h j u hj)
theorem qi {P:Program} {b:Nat} {E:TypeId} : ∀ (us:List Value) (i off:Nat) (cs:List Value) (w:World),w.heap[b]? = some (LC cs E)→off+i+us.length≤cs.length→(∀ u∈us,u.oneCell'=true)→
  ∃ w',(storeCells ⟨b,off,none⟩ us i).run P w=.ok () w'∧w.grownBy w' (some b)∧w'.heap[b]? = some (LC (cs.take (off+i)++us++cs.drop (off+i+us.length)) E)
 | [],i,off,cs,w,hb,_,_=>⟨w,rfl,⟨rfl,rfl,rfl,Nat.le_refl _,fun _ _ _=>rfl⟩,by simpa using hb⟩
 | u::us,i,off,cs,w,hb,hl,h1=>by
  have hadd:(⟨b,off,none⟩:Addr).add i=⟨b,off+i,none⟩:=Addr.add_lit b off i
  simp only[List.length_cons]at hl
  have hc:w.cell? ⟨b,off+i,none⟩=some (cs[off+i]'(by omega)):=by rw[kH hb]; simp
  have hf:w.frozen? ⟨b,off+i,none⟩=false:=by simp[World.frozen?,hb,LC]
  have hb':(w.setCell ⟨b,off+i,none⟩ u).heap[b]? = some (LC (cs.set (off+i) u) E):=by
   simp only[World.setCell,Array.getElem?_modify,hb,LC]
   simp
  obtain⟨w',hr,hg,hh⟩:=qi (P:=P) us (i+1) off (cs.set (off+i) u) _ hb' (by simp; omega) (fun x hx=>h1 x (List.mem_cons_of_mem _ hx))
  refine⟨w',?_,?_,?_⟩
  ·simp only[storeCells,Sem.run_bind,hadd,run_store P w _ u .plain (h1 u (by simp)),hc,hf,Bool.false_eq_true,if_false,Result.andThen_ok]
   exact hr
  ·have h0:w.grownBy (w.setCell ⟨b,off+i,none⟩ u) (some b):=⟨rfl,rfl,rfl,by simp,fun k _ hk=>Below.heap_setCell _ _ _ _ (fun e=>hk (by simp[e]))⟩
   exact⟨hg.os.trans h0.os,hg.tape.trans h0.tape,hg.output.trans h0.output,Nat.le_trans h0.size hg.size,fun k hk hne=>(hg.block k (Nat.lt_of_lt_of_le hk h0.size) hne).trans (h0.block k hk hne)⟩
  ·rw[hh]
   congr 2
   have e1:off+(i+1)=off+i+1:=by omega
   have e2:off+(i+1)+us.length=off+i+(us.length+1):=by omega
   rw[e2,e1,List.take_succ_eq_append_getElem (by simp; omega),List.take_set_of_le (by omega),List.drop_set_of_lt (by omega)]
   simp
theorem run_storeAt_blk {P:Program} {T:TypeId} {ag:Bool} {b off:Nat} {E:TypeId} {cs:List Value} {w:World} {v:Value} {us:List Value} (hT:tkB P T=some (ag,us.length)) (hv:v.cells=us.toArray) (hb:w.heap[b]? = some (LC cs E)) (hl:off+us.length≤cs.length) (h1:∀ u∈us,u.oneCell'=true) :
  ∃ w',(Instr.storeAt T (.pointer (some ⟨b,off,none⟩)) v).run P w=.ok () w'∧w.grownBy w' (some b)∧w'.heap[b]? = some (LC (cs.take off++us++cs.drop (off+us.length)) E):=by
 obtain⟨w',hr,hg,hh⟩:=qi (P:=P) us 0 off cs w hb (by omega) h1
 refine⟨w',?_,hg,by simpa using hh⟩
 simp[Instr.storeAt,Instr.sureAddr,storeVar,run_sizeOf hT,hv,hr]
def zy (P:Program) (f:FuncId):Prop:=∀ (args:Array Value) (w:World),(callFunc f args).run P w=.ok (.enter f args) w
theorem zu {P:Program} {f:FuncId} {fn:Func} (hf:P.funcs[f]? = some fn) (hn:(fn.name == "runtime.NumGoroutine")=false) (hb:fn.body.isNone=false):zy P f:=fun args w=>by
 simp only[callFunc,Sem.run_bind,run_program,Result.andThen_ok,hf,hn,hb,Bool.false_eq_true,if_false,Sem.run_pure]
def Fnc (P:Program) (f:FuncId) (args:List Value) (V:View) (R:Value→View→Prop):Prop:=
 ∀ w,Le V (hp w)→Calls P f args.toArray w fun e w'=>∃ v V',e=.returned v∧Below w.heap.size w w'∧Le V V'∧Le V' (hp w')∧(∀ k o,V' k=some o→V k=some o∨w.heap.size≤k)∧R v V'
theorem Fnc.mono {P:Program} {f:FuncId} {args:List Value} {V:View} {R R':Value→View→Prop} (h:Fnc P f args V R) (hr:∀ v V',Le V V'→R v V'→R' v V'):Fnc P f args V R':=fun w hw=>
 (h w hw).mono fun e w' ⟨v,V',h1,h2,h3,h4,h5,h6⟩=>⟨v,V',h1,h2,h3,h4,h5,hr v V' h3 h6⟩
theorem Fnc.more {P:Program} {f:FuncId} {args:List Value} {V V':View} {R:Value→Prop} (h:Fnc P f args V (fun v _=>R v)) (hl:Le V V'):Fnc P f args V' (fun v _=>R v):=fun w hw=>
 (h w (hl.trans hw)).mono fun e w' ⟨v,V1,h1,h2,_,_,_,h6⟩=>⟨v,V',h1,h2,Le.refl _,hw.trans (Below.le h2),fun k o hk=>.inl hk,h6⟩
def frame:List Value→Nat→List (Nat×Value)
 | [],_=>[]
 | v::l,i=>(i,v)::frame l (i+1)
theorem kZ:∀ (l:List Value) (i j:Nat) (v:Value),look (frame l i) j=some v→i≤j∧l[j-i]? = some v
 | [],_,_,_,h=>by cases h
 | u::l,i,j,v,h=>by
  simp only[frame,look]at h
  cases hb:Nat.beq i j with
  | true=>
   rw[hb]at h; simp at h
   have:=Nat.eq_of_beq_eq_true hb
   subst this
   exact⟨Nat.le_refl _,by simp[h]⟩
  | false=>
   rw[hb]at h; simp at h
   have:=kZ l (i+1) j v h
   refine⟨by omega,?_⟩
   have e:j-i=(j-(i+1))+1:=by omega
   rw[e]; simpa using this.2
theorem qa {P:Program} {f:FuncId} {fn:Func} {c:Code} {args:List Value} {V:View} {R:Value→View→Prop} {n:Nat} (hf:P.funcs[f]? = some fn) (hb:fn.body=some c) (hn:fn.ntmps=n) (hl:args.length≤n)
  (h:∀ w,Le V (hp w)→At ⟨w,V,[]⟩ n (frame args 0) [] V (c.wpIn (FW none) 0 P (bodyPost P fn fun e w'=>∃ v V',e=.returned v∧Below w.heap.size w w'∧Le V V'∧Le V' (hp w')∧(∀ k o,V' k=some o→V k=some o∨w.heap.size≤k)∧R v V'))) :
  Fnc P f args V R:=fun w hw=>by
 refine(jB (ro:=none) (n:=0)).1 (callsIn_of_wp hf hb trivial (h w hw _ w ⟨rfl,?_,fun i v hi=>?_⟩ ⟨Below.refl _ _,Le.refl _,fun k o hk=>.inl hk,hw,[],rfl,List.nodup_nil,fun b hb=>by cases hb⟩) rfl)
 ·simp[hn]; omega
 ·have:=(kZ args 0 i v hi).2
  simp only[Nat.sub_zero]at this
  have hlt:=(List.getElem?_eq_some_iff.1 this).1
  rw[Array.getElem?_append_left (by simpa using hlt)]
  simpa using this
section
variable {cx:Cx} {n:Nat} {ks:List (Nat×Value)} {O O' R:List Own} {V:View} {P:Program} {ops:Array Oper} {Qn:Act→World→Prop} {t:Tr} {i d:Nat} {T:TypeId} {pos:String} {after:Array Edge} {gd:Option (Nat×Bool)} {x y:Operand} {u v:Value} {wr:Bool}
theorem vcell_of {V:View} {p:Addr} {us:List Value} {j:Nat} {v:Value} (h:Cells V p us) (hj:us[j]? = some v):jd V (p.add j)=some v:=h j v hj
theorem vcell_of0 {V:View} {p:Addr} {us:List Value} {v:Value} (h:Cells V p us) (hj:us[0]? = some v):jd V p=some v:=h 0 v hj
/-! #### Reading -/
theorem AtT.load {X:TypeId} {p:Addr} {s:Nat} (ho:ops[i]? = some ⟨some d,.load X x,T,pos,after,gd⟩) (hg:Gd ks ops gd) (hx:ev ks x=some (.pointer (some p))) (hT:tkB P X=some (false,s)) (hc:jd V p=some v) (hn:d<n)
  (next:AtT cx n ((d,v)::ks) O V P ops Qn t):AtT cx n ks O V P ops Qn (.q i t):=
 .q ho hg rfl hn (fun a w hk hm=>by
  simp[execOp,hk.ev hx,run_load_cell hT (vcell_le hm.view hc)]) next
theorem AtT.loadA {X:TypeId} {p:Addr} {us:List Value} {m:Nat} (ho:ops[i]? = some ⟨some d,.load X x,T,pos,after,gd⟩) (hg:Gd ks ops gd) (hx:ev ks x=some (.pointer (some p))) (hT:tkB P X=some (true,m)) (hc:Cells V p us) (hl:us.length=m) (hn:d<n)
  (next:AtT cx n ((d,.agg us.toArray)::ks) O V P ops Qn t):AtT cx n ks O V P ops Qn (.q i t):=
 .q ho hg rfl hn (fun a w hk hm=>by
  simp[execOp,hk.ev hx,xh hT hl (hc.run hm.view)]) next
theorem AtT.jK {X:TypeId} {b off:Nat} {cs:List Value} {E:TypeId} {fr:Nat×Nat} {s:Nat} (ho:ops[i]? = some ⟨some d,.load X x,T,pos,after,gd⟩) (hg:Gd ks ops gd) (hx:ev ks x=some (.pointer (some ⟨b,off,none⟩))) (hT:tkB P X=some (false,s)) (hp:zM (.blk b (LC cs E fr)) O R) (hc:cs[off]? = some v) (hn:d<n)
  (next:AtT cx n ((d,v)::ks) O V P ops Qn t):AtT cx n ks O V P ops Qn (.q i t):=
 .q ho hg rfl hn (fun a w hk hm=>by
  simp[execOp,hk.ev hx,run_load_cell hT ((kH (hm.pick hp).blk).trans hc)]) next
theorem AtT.loadOA {X:TypeId} {b:Nat} {cs:List Value} {E:TypeId} {fr:Nat×Nat} {m:Nat} (ho:ops[i]? = some ⟨some d,.load X x,T,pos,after,gd⟩) (hg:Gd ks ops gd) (hx:ev ks x=some (.pointer (some ⟨b,0,none⟩))) (hT:tkB P X=some (true,m)) (hp:zM (.blk b (LC cs E fr)) O R) (hl:cs.length=m) (hn:d<n)
  (next:AtT cx n ((d,.agg cs.toArray)::ks) O V P ops Qn t):AtT cx n ks O V P ops Qn (.q i t):=
 .q ho hg rfl hn (fun a w hk hm=>by
  have hb:=(hm.pick hp).blk
  simp[execOp,hk.ev hx,xh hT hl (fun j u hj=>by rw[Addr.add_lit,kH hb,Nat.zero_add]; exact hj)]) next
theorem AtT.loadOP {X:TypeId} {b off:Nat} {cs us:List Value} {E:TypeId} {fr:Nat×Nat} {m:Nat} (ho:ops[i]? = some ⟨some d,.load X x,T,pos,after,gd⟩) (hg:Gd ks ops gd) (hx:ev ks x=some (.pointer (some ⟨b,off,none⟩))) (hT:tkB P X=some (true,m)) (hp:zM (.blk b (LC cs E fr)) O R) (hu:(cs.drop off).take m=us) (hl:us.length=m) (hn:d<n)
  (next:AtT cx n ((d,.agg us.toArray)::ks) O V P ops Qn t):AtT cx n ks O V P ops Qn (.q i t):=
 .q ho hg rfl hn (fun a w hk hm=>by
  have hb:=(hm.pick hp).blk
  simp[execOp,hk.ev hx,xh hT hl (fun j u hj=>by
   rw[Addr.add_lit,kH hb]
   subst hu
   rw[List.getElem?_take]at hj
   split at hj
   ·rw[List.getElem?_drop]at hj; exact hj
   ·cases hj)]) next
/-! #### Addresses -/
def foB (P:Program) (S:TypeId) (f:Nat):Option Nat:=
 match P.underlying S with
 | some (.struct fs)=>match fs[f]? with
  | some fd=>match P.info? fd.type with
   | some j=>if j.size=0 then none else some fd.offset
   | none=>none
  | none=>none
 | _=>none
theorem run_fieldAt {P:Program} {S:TypeId} {f k:Nat} (h:foB P S f=some k) (p:Addr) (w:World):(Instr.fieldAt S (.pointer (some p)) f).run P w=.ok (.pointer (some (p.add k))) w:=by
 unfold foB at h
 cases hu:P.underlying S with
 | none=>rw[hu]at h; cases h
 | some dd=>
  cases dd with
  | struct fs=>
   rw[hu]at h
   simp only at h
   cases hf:fs[f]? with
   | none=>rw[hf]at h; cases h
   | some fd=>
    rw[hf]at h
    simp only at h
    cases hi:P.info? fd.type with
    | none=>rw[hi]at h; cases h
    | some j=>
     rw[hi]at h
     simp only at h
     by_cases hz:j.size=0
     ·rw[if_pos hz]at h; cases h
     ·rw[if_neg hz]at h
      simp only[Option.some.injEq]at h
      simp[Instr.fieldAt,run_underlying hu,hf,Instr.sureAddr,fieldPlace,sizeOf,typeInfo,hi,hz,h]
  | _=>rw[hu]at h; cases h
theorem AtT.field {S f:Nat} {p:Addr} {k:Nat} (ho:ops[i]? = some ⟨some d,.fieldAddr S x f,T,pos,after,gd⟩) (hg:Gd ks ops gd) (hx:ev ks x=some (.pointer (some p))) (hf:foB P S f=some k) (hn:d<n)
  (next:AtT cx n ((d,.pointer (some (p.add k)))::ks) O V P ops Qn t):AtT cx n ks O V P ops Qn (.q i t):=
 .q ho hg rfl hn (fun a w hk hm=>by simp[execOp,hk.ev hx,run_fieldAt hf]) next
theorem AtT.field2 {S f:Nat} {p:Addr} {j k:Nat} (ho:ops[i]? = some ⟨some d,.fieldAddr S x f,T,pos,after,gd⟩) (hg:Gd ks ops gd) (hx:ev ks x=some (.pointer (some (p.add j)))) (hf:foB P S f=some k) (hn:d<n)
  (next:AtT cx n ((d,.pointer (some (p.add (j+k))))::ks) O V P ops Qn t):AtT cx n ks O V P ops Qn (.q i t):=
 .field ho hg hx hf hn (by rw[addr_add_add]; exact next)
theorem AtT.fieldO {S f:Nat} {b off:Nat} {k:Nat} (ho:ops[i]? = some ⟨some d,.fieldAddr S x f,T,pos,after,gd⟩) (hg:Gd ks ops gd) (hx:ev ks x=some (.pointer (some ⟨b,off,none⟩))) (hf:foB P S f=some k) (hn:d<n)
  (next:AtT cx n ((d,.pointer (some ⟨b,off+k,none⟩))::ks) O V P ops Qn t):AtT cx n ks O V P ops Qn (.q i t):=
 .field ho hg hx hf hn (by rw[Addr.add_lit]; exact next)
theorem AtT.nil {p:Addr} (ho:ops[i]? = some ⟨some d,.nilCheck x,T,pos,after,gd⟩) (hg:Gd ks ops gd) (hx:ev ks x=some (.pointer (some p))) (hn:d<n)
  (next:AtT cx n ((d,.pointer (some p))::ks) O V P ops Qn t):AtT cx n ks O V P ops Qn (.q i t):=
 .q ho hg rfl hn (fun a w hk hm=>by simp[execOp,hk.ev hx]) next
theorem AtT.idx {α:Type} {X E:TypeId} {enc:α→List Value} {s:Nat} {l:List α} {k:IntKind} {j:Int} {ag:Bool} (ho:ops[i]? = some ⟨some d,.indexAddr X x y,T,pos,after,gd⟩) (hg:Gd ks ops gd) (hX:P.underlying X=some (.slice E)) (hE:tkB P E=some (ag,s))
  (hx:ev ks x=some v) (hl:Sl V enc s v l) (hy:ev ks y=some (.int k j)) (h0:0≤j) (h1:j<l.length) (hn:d<n)
  (next:∀ (p:Addr) (e:α),l[j.toNat]? = some e→Cells V p (enc e)→AtT cx n ((d,.pointer (some p))::ks) O V P ops Qn t):AtT cx n ks O V P ops Qn (.q i t):=by
 obtain⟨a,cap,rfl,h2,h3,h4,h5⟩:=hl
 have hlt:j.toNat<l.length:=by omega
 cases a with
 | none=>exact absurd (h4 (by intro e; rw[e]at hlt; cases hlt)) (by simp)
 | some b=>
  have he:l[j.toNat]? = some (l[j.toNat]):=List.getElem?_eq_getElem hlt
  refine .q ho hg rfl hn (fun a w hk hm=>?_) (next (b.add (j.toNat*s)) _ he (h5 b rfl _ _ he))
  simp only[execOp,hk.ev hx,hk.ev hy]
  simp[Instr.indexAt,asIntOf,run_underlying hX,run_sizeOf hE,h0,h1]
theorem AtT.idxA {X E:TypeId} {len s:Nat} {k:IntKind} {j:Int} {b off:Nat} {ag:Bool} (ho:ops[i]? = some ⟨some d,.indexAddr X x y,T,pos,after,gd⟩) (hg:Gd ks ops gd) (hX:P.underlying X=some (.array len E)) (hE:tkB P E=some (ag,s))
  (hx:ev ks x=some (.pointer (some ⟨b,off,none⟩))) (hy:ev ks y=some (.int k j)) (h0:0≤j) (h1:j<len) (hn:d<n)
  (next:AtT cx n ((d,.pointer (some ⟨b,off+j.toNat*s,none⟩))::ks) O V P ops Qn t):AtT cx n ks O V P ops Qn (.q i t):=
 .q ho hg rfl hn (fun a w hk hm=>by
  simp only[execOp,hk.ev hx,hk.ev hy]
  simp[Instr.indexAt,asIntOf,run_underlying hX,run_sizeOf hE,h0,h1,Instr.sureAddr,Addr.add_lit]) next
theorem AtT.idxO {X E:TypeId} {len cap s:Nat} {k:IntKind} {j:Int} {b off:Nat} {ag:Bool} (ho:ops[i]? = some ⟨some d,.indexAddr X x y,T,pos,after,gd⟩) (hg:Gd ks ops gd) (hX:P.underlying X=some (.slice E)) (hE:tkB P E=some (ag,s))
  (hx:ev ks x=some (.slice (some ⟨b,off,none⟩) len cap)) (hy:ev ks y=some (.int k j)) (h0:0≤j) (h1:j<len) (hn:d<n)
  (next:AtT cx n ((d,.pointer (some ⟨b,off+j.toNat*s,none⟩))::ks) O V P ops Qn t):AtT cx n ks O V P ops Qn (.q i t):=
 .q ho hg rfl hn (fun a w hk hm=>by
  simp only[execOp,hk.ev hx,hk.ev hy]
  simp[Instr.indexAt,asIntOf,run_underlying hX,run_sizeOf hE,h0,h1,Addr.add_lit]) next
/-! #### Lengths -/
theorem AtT.lenS {α:Type} {X E:TypeId} {enc:α→List Value} {s:Nat} {l:List α} (ho:ops[i]? = some ⟨some d,.call ⟨.builtin .len,#[x],#[X]⟩,T,pos,after,gd⟩) (hg:Gd ks ops gd) (hX:P.underlying X=some (.slice E))
  (hx:ev ks x=some v) (hl:Sl V enc s v l) (hn:d<n)
  (next:AtT cx n ((d,.int .i64 l.length)::ks) O V P ops Qn t):AtT cx n ks O V P ops Qn (.q i t):=by
 obtain⟨a,cap,rfl,h2,h3,h4,h5⟩:=hl
 refine .q ho hg rfl hn (fun b w hk hm=>?_) next
 simp[execOp,resolve,invoke,builtin,hk.ev hx,run_len_slice (P:=P) w X T a l.length cap (by simp[Program.elem,hX]),goInt]
theorem AtT.lenR {X E:TypeId} {a:Option Addr} {m cap:Nat} (ho:ops[i]? = some ⟨some d,.call ⟨.builtin .len,#[x],#[X]⟩,T,pos,after,gd⟩) (hg:Gd ks ops gd) (hX:P.underlying X=some (.slice E))
  (hx:ev ks x=some (.slice a m cap)) (hn:d<n)
  (next:AtT cx n ((d,.int .i64 m)::ks) O V P ops Qn t):AtT cx n ks O V P ops Qn (.q i t):=by
 refine .q ho hg rfl hn (fun b w hk hm=>?_) next
 simp[execOp,resolve,invoke,builtin,hk.ev hx,run_len_slice (P:=P) w X T a m cap (by simp[Program.elem,hX]),goInt]
/-! #### New memory -/
theorem AtT.alloc {E:TypeId} {z:Value} {cs:List Value} (ho:ops[i]? = some ⟨some d,.alloc E,T,pos,after,gd⟩) (hg:Gd ks ops gd) (hz:zx P E=some z) (hc:z.cells=cs.toArray) (hn:d<n)
  (next:∀ b,AtT cx n ((d,.pointer (some ⟨b,0,none⟩))::ks) (.blk b (LC cs E)::O) V P ops Qn t):AtT cx n ks O V P ops Qn (.n wr i t):=
 .x ho hg fun a w hk hm=>by
  simp only[opW,execOp,Instr.alloc,newVar,newRow,Sem.run_bind,run_zero hz,Result.andThen_ok,run_newObj,Sem.run_pure]
  rw[hc]
  exact⟨_,.blk w.heap.size (LC cs E)::O,V,hk.put hn _,hm.alloc (LC cs E),fun _ u hu=>hu.drop,next _⟩
theorem AtT.box {E:TypeId} {cs:List Value} (ho:ops[i]? = some ⟨some d,.box E x,T,pos,after,gd⟩) (hg:Gd ks ops gd) (hx:ev ks x=some v) (hc:v.cells=cs.toArray) (hn:d<n)
  (next:∀ b,AtT cx n ((d,.pointer (some ⟨b,0,none⟩))::ks) (.blk b (LC cs E)::O) V P ops Qn t):AtT cx n ks O V P ops Qn (.n wr i t):=
 .x ho hg fun a w hk hm=>by
  simp only[opW,execOp,Instr.box,newVar,newRow,Sem.run_bind,hk.ev hx,Result.andThen_ok,run_newObj,Sem.run_pure]
  rw[hc]
  exact⟨_,.blk w.heap.size (LC cs E)::O,V,hk.put hn _,hm.alloc (LC cs E),fun _ u hu=>hu.drop,next _⟩
def evs (ks:List (Nat×Value)):List Operand→Option (List Value)
 | []=>some []
 | o::l=>match ev ks o,evs ks l with
  | some v,some vs=>some (v::vs)
  | _,_=>none
theorem xB {a:Act} (hk:Kn cx n ks a):∀ (l:List Operand) (vs:List Value),evs ks l=some vs→l.map a.eval=vs
 | [],vs,h=>by simp only[evs,Option.some.injEq]at h; subst h; rfl
 | o::l,vs,h=>by
  simp only[evs]at h
  cases ho:ev ks o with
  | none=>rw[ho]at h; cases h
  | some v=>
   cases hl:evs ks l with
   | none=>rw[ho,hl]at h; cases h
   | some us=>
    rw[ho,hl]at h
    simp only[Option.some.injEq]at h
    subst h
    simp only[List.map_cons,hk.ev ho,xB hk l us hl]
def evp (ks:List (Nat×Value)):List (Nat×Operand)→Option (List (Nat×Value))
 | []=>some []
 | (j,o)::l=>match ev ks o,evp ks l with
  | some v,some vs=>some ((j,v)::vs)
  | _,_=>none
theorem evp_map {a:Act} (hk:Kn cx n ks a):∀ (l:List (Nat×Operand)) (vs:List (Nat×Value)),evp ks l=some vs→l.map (fun(j,o)=>(j,a.eval o))=vs
 | [],vs,h=>by simp only[evp,Option.some.injEq]at h; subst h; rfl
 | (j,o)::l,vs,h=>by
  simp only[evp]at h
  cases ho:ev ks o with
  | none=>rw[ho]at h; cases h
  | some v=>
   cases hl:evp ks l with
   | none=>rw[ho,hl]at h; cases h
   | some us=>
    rw[ho,hl]at h
    simp only[Option.some.injEq]at h
    subst h
    simp only[List.map_cons,hk.ev ho,evp_map hk l us hl]
theorem AtT.build {X:TypeId} {ps:List (Nat×Operand)} {vs:List (Nat×Value)} (ho:ops[i]? = some ⟨some d,.build X ps.toArray,T,pos,after,gd⟩) (hg:Gd ks ops gd) (hp:evp ks ps=some vs)
  (hr:∀ w,(Instr.build X vs.toArray).run P w=.ok v w) (hn:d<n)
  (next:AtT cx n ((d,v)::ks) O V P ops Qn t):AtT cx n ks O V P ops Qn (.q i t):=
 .q ho hg rfl hn (fun a w hk hm=>by
  have e:(ps.toArray.map fun(j,o)=>(j,a.eval o))=vs.toArray:=by rw[←evp_map hk ps vs hp]; simp
  simp only[execOp,e,Sem.run_bind,hr,Result.andThen_ok,Sem.run_pure]) next
theorem AtT.bslice {X E:TypeId} {m:Nat} {cs:List Value} {ps:List (Nat×Operand)} {vs:List (Nat×Value)} (ho:ops[i]? = some ⟨some d,.buildSlice X m ps.toArray,T,pos,after,gd⟩) (hg:Gd ks ops gd) (hp:evp ks ps=some vs)
  (hr:∀ w,(Instr.buildSlice X m vs.toArray).run P w=.ok (.slice (some ⟨w.heap.size,0,none⟩) m m) (w.alloc (LC cs E))) (hn:d<n)
  (next:∀ b,AtT cx n ((d,.slice (some ⟨b,0,none⟩) m m)::ks) (.blk b (LC cs E)::O) V P ops Qn t):AtT cx n ks O V P ops Qn (.n wr i t):=
 .x ho hg fun a w hk hm=>by
  have e:(ps.toArray.map fun(j,o)=>(j,a.eval o))=vs.toArray:=by rw[←evp_map hk ps vs hp]; simp
  simp only[opW,execOp,e,Sem.run_bind,hr,Result.andThen_ok,Sem.run_pure]
  exact⟨_,.blk w.heap.size (LC cs E)::O,V,hk.put hn _,hm.alloc (LC cs E),fun _ u hu=>hu.drop,next _⟩
theorem AtT.fn {f:Fn} {fs cs:List Operand} {us vs:List Value} (ho:ops[i]? = some ⟨some d,.makeFunc f fs.toArray cs.toArray,T,pos,after,gd⟩) (hg:Gd ks ops gd) (hf:evs ks fs=some us) (hc:evs ks cs=some vs) (hn:d<n)
  (next:AtT cx n ((d,.func f us.toArray vs.toArray)::ks) O V P ops Qn t):AtT cx n ks O V P ops Qn (.q i t):=
 .q ho hg rfl hn (fun a w hk _=>by
  have e1:fs.toArray.map a.eval=us.toArray:=by rw[←xB hk fs us hf]; simp
  have e2:cs.toArray.map a.eval=vs.toArray:=by rw[←xB hk cs vs hc]; simp
  simp[execOp,Instr.makeFunc,e1,e2]) next
/-! #### Writing -/
theorem AtT.store {X E:TypeId} {b off:Nat} {cs cs' us:List Value} {ag:Bool} {m:Nat} (ho:ops[i]? = some ⟨none,.store X x y,T,pos,after,gd⟩) (hg:Gd ks ops gd) (hx:ev ks x=some (.pointer (some ⟨b,off,none⟩))) (hy:ev ks y=some v)
  (hT:tkB P X=some (ag,m)) (hv:v.cells=us.toArray) (hm':us.length=m) (hl:off+us.length≤cs.length) (h1:us.all Value.oneCell'=true) (hc:cs.take off++us++cs.drop (off+us.length)=cs') (hp:Upd (.blk b (LC cs E)) (.blk b (LC cs' E)) O O')
  (next:AtT cx n ks O' V P ops Qn t):AtT cx n ks O V P ops Qn (.n true i t):=
 .x ho hg fun a w hk hm=>by
  obtain⟨R,p1,p2⟩:=hp.perm
  have hm1:=hm.perm p1
  subst hm'
  obtain⟨w',hr,hg,hh⟩:=run_storeAt_blk (P:=P) hT hv hm1.blk hl (by simpa [List.all_eq_true]using h1)
  simp only[opW,execOp,hk.ev hx,hk.ev hy,Sem.run_bind,hr,Result.andThen_ok,Sem.run_pure]
  exact⟨ks,O',V,hk,(hm1.set hg (hc▸hh)).perm p2.symm,fun h=>(by cases h),next⟩
theorem AtT.store1 {X E:TypeId} {b off:Nat} {cs cs':List Value} (ho:ops[i]? = some ⟨none,.store X x y,T,pos,after,gd⟩) (hg:Gd ks ops gd) (hx:ev ks x=some (.pointer (some ⟨b,off,none⟩))) (hy:ev ks y=some v)
  (hT:tkB P X=some (false,1)) (hv:v.cells=[v].toArray) (h1:v.oneCell'=true) (hp:Upd (.blk b (LC cs E)) (.blk b (LC cs' E)) O O') (hs:SetAt cs off v cs')
  (next:AtT cx n ks O' V P ops Qn t):AtT cx n ks O V P ops Qn (.n true i t):=by
 obtain⟨hlt,rfl⟩:=hs.eq
 refine .store ho hg hx hy hT hv rfl (by simp; omega) (by simpa using h1) ?_ hp next
 rw[List.set_eq_take_append_cons_drop,if_pos hlt]
 simp
theorem AtT.storeA {X E:TypeId} {b:Nat} {cs us:List Value} {m:Nat} (ho:ops[i]? = some ⟨none,.store X x y,T,pos,after,gd⟩) (hg:Gd ks ops gd) (hx:ev ks x=some (.pointer (some ⟨b,0,none⟩))) (hy:ev ks y=some (.agg us.toArray))
  (hT:tkB P X=some (true,m)) (hm':us.length=m) (hl:cs.length=m) (h1:us.all Value.oneCell'=true) (hp:Upd (.blk b (LC cs E)) (.blk b (LC us E)) O O')
  (next:AtT cx n ks O' V P ops Qn t):AtT cx n ks O V P ops Qn (.n true i t):=
 .store ho hg hx hy hT rfl hm' (by omega) h1 (by simp[hm',←hl]) hp next
/-! #### Calls -/
theorem AtT.call {f:FuncId} {args:List Operand} {ts:Array TypeId} {vs:List Value} {R:Value→View→Prop} (ho:ops[i]? = some ⟨some d,.call ⟨.value (.func f),args.toArray,ts⟩,T,pos,after,gd⟩) (hg:Gd ks ops gd) (ha:evs ks args=some vs) (hf:zy P f) (hn:d<n)
  (hc:Fnc P f vs V R) (next:∀ v V',Le V V'→R v V'→AtT cx n ((d,v)::ks) O V' P ops Qn t):AtT cx n ks O V P ops Qn (.n wr i t):=
 .x ho hg fun a w hk hm=>by
  have e:args.toArray.map a.eval=vs.toArray:=by rw[←xB hk args vs ha]; simp
  have e2:a.eval (.func f)=.func (.func f) #[] #[]:=rfl
  simp only[opW,execOp,resolve,e,e2,Deferred.ofValue,Sem.run_bind,Sem.run_pure,Result.andThen_ok,invoke,Array.empty_append,Array.append_empty]
  rw[hf vs.toArray w]
  refine(hc w hm.view).mono fun e w' ⟨v,V',h1,h2,h3,h4,h5,h6⟩=>?_
  subst h1
  exact⟨_,O,V',hk.put hn v,hm.more h2 h3 h4 h5,fun _ u hu=>hu.less hm.le0 h3,next v V' h3 h6⟩
theorem AtT.callP {f:FuncId} {args:List Operand} {ts:Array TypeId} {vs:List Value} {R:Value→Prop} (ho:ops[i]? = some ⟨some d,.call ⟨.value (.func f),args.toArray,ts⟩,T,pos,after,gd⟩) (hg:Gd ks ops gd) (ha:evs ks args=some vs) (hf:zy P f) (hn:d<n)
  (hc:Fnc P f vs V (fun v _=>R v)) (next:∀ v,R v→AtT cx n ((d,v)::ks) O V P ops Qn t):AtT cx n ks O V P ops Qn (.n wr i t):=
 .x ho hg fun a w hk hm=>by
  have e:args.toArray.map a.eval=vs.toArray:=by rw[←xB hk args vs ha]; simp
  have e2:a.eval (.func f)=.func (.func f) #[] #[]:=rfl
  simp only[opW,execOp,resolve,e,e2,Deferred.ofValue,Sem.run_bind,Sem.run_pure,Result.andThen_ok,invoke,Array.empty_append,Array.append_empty]
  rw[hf vs.toArray w]
  refine(hc w hm.view).mono fun e w' ⟨v,V',h1,h2,h3,h4,h5,h6⟩=>?_
  subst h1
  exact⟨_,O,V,hk.put hn v,hm.ext h2,fun _ u hu=>hu,next v h6⟩
theorem AtT.callV {c:Operand} {f:FuncId} {args:List Operand} {fs cs:List Value} {ts:Array TypeId} {vs:List Value} {R:Value→Prop} (ho:ops[i]? = some ⟨some d,.call ⟨.value c,args.toArray,ts⟩,T,pos,after,gd⟩) (hg:Gd ks ops gd) (hcv:ev ks c=some (.func (.func f) fs.toArray cs.toArray)) (ha:evs ks args=some vs) (hf:zy P f) (hn:d<n)
  (hc:Fnc P f (fs++vs++cs) V (fun v _=>R v)) (next:∀ v,R v→AtT cx n ((d,v)::ks) O V P ops Qn t):AtT cx n ks O V P ops Qn (.n wr i t):=
 .x ho hg fun a w hk hm=>by
  have e:args.toArray.map a.eval=vs.toArray:=by rw[←xB hk args vs ha]; simp
  have e3:(fs.toArray++vs.toArray++cs.toArray)=(fs++vs++cs).toArray:=by simp
  simp only[opW,execOp,resolve,e,hk.ev hcv,Deferred.ofValue,Sem.run_bind,Sem.run_pure,Result.andThen_ok,invoke,e3]
  rw[hf]
  refine(hc w hm.view).mono fun e w' ⟨v,V',h1,h2,h3,h4,h5,h6⟩=>?_
  subst h1
  exact⟨_,O,V,hk.put hn v,hm.ext h2,fun _ u hu=>hu,next v h6⟩
def ovl (V:View):List Own→View
 | []=>V
 | .blk b o::l=>fun k=>if k=b then some o else ovl V l k
 | .row ..::l=>ovl V l
theorem ovl_hp {w:World} : ∀ {O:List Own} {fp:List Nat},Le V (hp w)→OwnsL cx.w0.heap.size w O fp→Le (ovl V O) (hp w)
 | [],_,hv,_=>hv
 | .blk b o::l,_,hv,⟨f,g,_,⟨_,_,hb⟩,hl⟩=>fun k o' hk=>by
  simp only[ovl]at hk
  by_cases e:k=b
  ·subst e; simp at hk; subst hk; exact hb
  ·simp[e]at hk; exact ovl_hp hv hl k o' hk
 | .row ..::l,_,hv,⟨f,g,_,_,hl⟩=>fun k o' hk=>ovl_hp hv hl k o' hk
theorem AtT.callO {f:FuncId} {args:List Operand} {ts:Array TypeId} {vs:List Value} {R:Value→Prop} (ho:ops[i]? = some ⟨some d,.call ⟨.value (.func f),args.toArray,ts⟩,T,pos,after,gd⟩) (hg:Gd ks ops gd) (ha:evs ks args=some vs) (hf:zy P f) (hn:d<n)
  (hc:Fnc P f vs (ovl V O) (fun v _=>R v)) (next:∀ v,R v→AtT cx n ((d,v)::ks) O V P ops Qn t):AtT cx n ks O V P ops Qn (.n wr i t):=
 .x ho hg fun a w hk hm=>by
  have e:args.toArray.map a.eval=vs.toArray:=by rw[←xB hk args vs ha]; simp
  have e2:a.eval (.func f)=.func (.func f) #[] #[]:=rfl
  obtain⟨fp,hown,_,_⟩:=hm.own
  simp only[opW,execOp,resolve,e,e2,Deferred.ofValue,Sem.run_bind,Sem.run_pure,Result.andThen_ok,invoke,Array.empty_append,Array.append_empty]
  rw[hf vs.toArray w]
  refine(hc w (ovl_hp hm.view hown)).mono fun e w' ⟨v,V',h1,h2,h3,h4,h5,h6⟩=>?_
  subst h1
  exact⟨_,O,V,hk.put hn v,hm.ext h2,fun _ u hu=>hu,next v h6⟩
theorem AtT.extract {us:List Value} {j:Nat} (ho:ops[i]? = some ⟨some d,.extract x j,T,pos,after,gd⟩) (hg:Gd ks ops gd) (hx:ev ks x=some (.tuple us.toArray)) (hu:us[j]? = some v) (hn:d<n)
  (next:AtT cx n ((d,v)::ks) O V P ops Qn t):AtT cx n ks O V P ops Qn (.q i t):=
 .q ho hg rfl hn (fun a w hk hm=>by simp[execOp,hk.ev hx,Instr.extract,hu]) next
end
/-! ### Several blocks that are laid in whatever order -/
structure AlS where
 i:Nat
 d:Nat
 E:TypeId
 cs:List Value
def Tr.al:Nat→List Nat→Tr→Tr
 | 0,_,t=>t
 | k+1,is,t=>.br is (fun i=>Tr.al k (is.erase i) t)
def AlOk (P:Program) (ops:Array Oper) (n:Nat):List AlS→Prop
 | []=>True
 | a::l=>(∃ T pos after z,ops[a.i]? = some ⟨some a.d,.alloc a.E,T,pos,after,none⟩∧zx P a.E=some z∧z.cells=a.cs.toArray∧a.d<n)∧AlOk P ops n l
theorem AlOk.at {P:Program} {ops:Array Oper} {n:Nat} : ∀ {l:List AlS} {a:AlS},AlOk P ops n l→a∈l→∃ T pos after z,ops[a.i]? = some ⟨some a.d,.alloc a.E,T,pos,after,none⟩∧zx P a.E=some z∧z.cells=a.cs.toArray∧a.d<n
 | b::l,a,h,ha=>by
  rcases List.mem_cons.1 ha with rfl | ha
  ·exact h.1
  ·exact AlOk.at h.2 ha
theorem AlOk.sub {P:Program} {ops:Array Oper} {n:Nat} : ∀ {l l':List AlS},AlOk P ops n l→(∀ a∈l',a∈l)→AlOk P ops n l'
 | l,[],_,_=>trivial
 | l,a::l',h,hs=>⟨h.at (hs a (by simp)),AlOk.sub h fun b hb=>hs b (List.mem_cons_of_mem _ hb)⟩
section
variable {cx:Cx} {n:Nat} {ks:List (Nat×Value)} {O:List Own} {V:View} {P:Program} {ops:Array Oper} {Qn:Act→World→Prop} {t:Tr}
theorem AtT.br {is:List Nat} {f:Nat→Tr} (h:∀ i∈is,AtT cx n ks O V P ops Qn (.n false i (f i))):AtT cx n ks O V P ops Qn (.br is f):=fun a w hk hm i hi=>by
 obtain⟨o,ho,hs⟩:=h i hi a w hk hm
 exact⟨o,ho,qI (fun a' w' ⟨S',h1,h2,h3⟩=>⟨S',h1 rfl,h2,h3⟩) hs⟩
end
section
variable {cx:Cx} {n:Nat} {ks:List (Nat×Value)} {O R:List Own} {V:View} {P:Program} {fn:Func}
inductive Res (P:Program) (ks:List (Nat×Value)) (O:List Own) (V:View):ResultVar→Value→Prop
 | tmp {t:Tmp} {v:Value} (h:look ks t=some v):Res P ks O V (.tmp t) v
 | cell {p:Tmp} {T:TypeId} {b:Nat} {cs:List Value} {E:TypeId} {fr:Nat×Nat} {R:List Own} {s:Nat} {v:Value} (h:look ks p=some (.pointer (some ⟨b,0,none⟩))) (hT:tkB P T=some (false,s)) (hp:zM (.blk b (LC cs E fr)) O R) (hc:cs[0]? = some v):Res P ks O V (.cell p T) v
 | agg {p:Tmp} {T:TypeId} {b:Nat} {cs:List Value} {E:TypeId} {fr:Nat×Nat} {R:List Own} {m:Nat} (h:look ks p=some (.pointer (some ⟨b,0,none⟩))) (hT:tkB P T=some (true,m)) (hp:zM (.blk b (LC cs E fr)) O R) (hl:cs.length=m):Res P ks O V (.cell p T) (.agg cs.toArray)
theorem Res.spec {r:ResultVar} {v:Value} {a:Act} {w:World} (h:Res P ks O V r v) (hk:Kn cx n ks a) (hm:Mem cx O V w) :
  (∃ t,r=.tmp t∧a.tmps[t]? = some v)∨(∃ p T q,r=.cell p T∧a.tmps[p]? = some (.pointer (some q))∧(loadVar T q).run P w=.ok v w):=by
 cases h with
 | tmp h=>exact .inl ⟨_,rfl,hk.known _ _ h⟩
 | cell h hT hp hc=>
  have:=run_load_cell (P:=P) hT ((kH (hm.pick hp).blk).trans hc)
  simp only[Instr.loadAt,Instr.sureAddr,Sem.run_bind,Sem.run_pure,Result.andThen_ok]at this
  exact .inr ⟨_,_,_,rfl,hk.known _ _ h,this⟩
 | agg h hT hp hl=>
  have hb:=(hm.pick hp).blk
  have:=xh (P:=P) (w:=w) hT hl (p:=⟨_,0,none⟩) (fun j u hj=>by rw[Addr.add_lit,kH hb,Nat.zero_add]; exact hj)
  simp only[Instr.loadAt,Instr.sureAddr,Sem.run_bind,Sem.run_pure,Result.andThen_ok]at this
  exact .inr ⟨_,_,_,rfl,hk.known _ _ h,this⟩
abbrev Post (cx:Cx) (R:Value→View→Prop):Ending→World→Prop:=fun e w'=>∃ v V',e=.returned v∧Below cx.w0.heap.size cx.w0 w'∧Le cx.V0 V'∧Le V' (hp w')∧(∀ k o,V' k=some o→cx.V0 k=some o∨cx.w0.heap.size≤k)∧R v V'
theorem At.end0 {R:Value→View→Prop} (hr:fn.results=#[]) (h:R (.tuple #[]) V) (hd:cx.ds=[]:=by rfl):At cx n ks O V (bodyPost P fn (Post cx R) .normal):=fun a w hk hm=>
 ⟨hk.defers.trans hd,_,results_none hr _ _ _,_,V,rfl,hm.below,hm.le0,hm.view,hm.fresh,h⟩
theorem At.qf {R:Value→View→Prop} {r:ResultVar} {v:Value} (hr:fn.results=#[r]) (h1:Res P ks O V r v) (h:R v V) (hd:cx.ds=[]:=by rfl):At cx n ks O V (bodyPost P fn (Post cx R) .ret):=fun a w hk hm=>
 ⟨hk.defers.trans hd,v,by
  rcases h1.spec hk hm with ⟨t,rfl,e⟩ | ⟨p,T,q,rfl,e,l⟩<;>simp[results,hr,asAddr, *],_,V,rfl,hm.below,hm.le0,hm.view,hm.fresh,h⟩
theorem At.ret2 {R:Value→View→Prop} {r s:ResultVar} {v u:Value} (hr:fn.results=#[r,s]) (h1:Res P ks O V r v) (h2:Res P ks O V s u) (h:R (.tuple #[v,u]) V) (hd:cx.ds=[]:=by rfl):At cx n ks O V (bodyPost P fn (Post cx R) .ret):=fun a w hk hm=>
 ⟨hk.defers.trans hd,.tuple #[v,u],by
  rcases h1.spec hk hm with ⟨t,rfl,e⟩ | ⟨p,T,q,rfl,e,l⟩<;>rcases h2.spec hk hm with ⟨t2,rfl,e2⟩ | ⟨p2,T2,q2,rfl,e2,l2⟩<;>simp[results,hr,asAddr, *],_,V,rfl,hm.below,hm.le0,hm.view,hm.fresh,h⟩
end
end Go.Lw
end
section
set_option linter.unusedVariables false
set_option linter.unusedSimpArgs false
namespace Go.Lw
open Go.RowKit
theorem qp {V:View} {b:Nat} {cs:List Value} {E:TypeId} {fr:Nat×Nat} (h:V b=some (LC cs E fr)):Cells V ⟨b,0,none⟩ cs:=fun j u hj=>by
 rw[Addr.add_lit]; simp[jd,h,LC]; exact hj
theorem Cells.at {V:View} {p:Addr} {us vs:List Value} {k:Nat} (h:Cells V p us) (hv:∀ j u,vs[j]? = some u→us[k+j]? = some u):Cells V (p.add k) vs:=fun j u hj=>by
 rw[addr_add_add]; exact h _ _ (hv j u hj)
def flat {α:Type} (enc:α→List Value) (l:List α):List Value:=l.flatMap enc
theorem zJ {α:Type} {enc:α→List Value} {s:Nat} (he:∀ x,(enc x).length=s):∀ l:List α,(flat enc l).length=l.length*s
 | []=>by simp[flat]
 | x::l=>by
  have:=zJ he l
  simp only[flat,List.flatMap_cons,List.length_append,he,List.length_cons,Nat.add_mul,Nat.one_mul]at this⊢
  omega
theorem flat_at {α:Type} {enc:α→List Value} {s:Nat} (he:∀ x,(enc x).length=s):∀ (l:List α) (i:Nat) (x:α),l[i]? = some x→∀ j u,(enc x)[j]? = some u→(flat enc l)[i*s+j]? = some u
 | [],i,x,h,_,_,_=>by simp at h
 | y::l,0,x,h,j,u,hu=>by
  simp at h; subst h
  have hj:=(List.getElem?_eq_some_iff.1 hu).1
  simp only[flat,List.flatMap_cons,Nat.zero_mul,Nat.zero_add]
  rw[List.getElem?_append_left hj]; exact hu
 | y::l,i+1,x,h,j,u,hu=>by
  simp only[List.getElem?_cons_succ]at h
  have:=flat_at he l i x h j u hu
  simp only[flat,List.flatMap_cons]
  rw[List.getElem?_append_right (by rw[he,Nat.add_mul]; omega),he]
  have e:(i+1)*s+j-s=i*s+j:=by rw[Nat.add_mul]; omega
  rw[e]; exact this
theorem Sl.of_cells {α:Type} {V:View} {enc:α→List Value} {s:Nat} {l:List α} {q:Addr} {cap:Nat} (he:∀ x,(enc x).length=s) (h:Cells V q (flat enc l)) (h1:l.length≤cap) (h2:cap≤maxLen):Sl V enc s (.slice (some q) l.length cap) l:=
 ⟨some q,cap,rfl,h1,h2,fun _=>rfl,fun p hp i x hi=>by
  cases hp
  exact h.at fun j u hj=>flat_at he l i x hi j u hj⟩
theorem Sl.cells {α:Type} {V:View} {enc:α→List Value} {s:Nat} {l:List α} {q:Addr} {n cap:Nat} (he:∀ x,(enc x).length=s) (h:Sl V enc s (.slice (some q) n cap) l):Cells V q (flat enc l):=by
 obtain⟨a,c,h1,h2,h3,h4,h5⟩:=h
 cases h1
 intro j u hj
 have hs:s≠0:=fun e=>by
  have:=(List.getElem?_eq_some_iff.1 hj).1
  rw[zJ he,e,Nat.mul_zero]at this; omega
 have hlt:j / s<l.length:=by
  have:=(List.getElem?_eq_some_iff.1 hj).1
  rw[zJ he]at this
  exact(Nat.div_lt_iff_lt_mul (by omega)).2 this
 have hx:l[j / s]? = some (l[j / s]):=List.getElem?_eq_getElem hlt
 have hm:j % s<(enc l[j / s]).length:=by rw[he]; exact Nat.mod_lt _ (by omega)
 have hu:(enc l[j / s])[j % s]? = some ((enc l[j / s])[j % s]):=List.getElem?_eq_getElem hm
 have e1:=flat_at he l _ _ hx _ _ hu
 have e2:j / s*s+j % s=j:=by rw[Nat.mul_comm]; exact Nat.div_add_mod j s
 rw[e2,hj]at e1
 cases e1
 have:=h5 q rfl _ _ hx _ _ hu
 rw[addr_add_add,e2]at this
 exact this
def rowB (P:Program) (E:TypeId):Option (Value×Nat×Nat):=(P.info? E).bind fun i=>i.zero.map fun z=>(z,i.size,i.bytes)
theorem rowB_info {P:Program} {E:TypeId} {z:Value} {s by_:Nat} (h:rowB P E=some (z,s,by_)):∃ i,P.info? E=some i∧i.zero=some z∧i.size=s∧i.bytes=by_:=by
 unfold rowB at h
 cases hi:P.info? E with
 | none=>rw[hi]at h; cases h
 | some i=>
  rw[hi]at h
  simp only[Option.bind_some]at h
  cases hz:i.zero with
  | none=>rw[hz]at h; cases h
  | some z'=>
   rw[hz]at h
   simp only[Option.map_some,Option.some.injEq,Prod.mk.injEq]at h
   exact⟨i,rfl,by rw[hz,h.1],h.2.1,h.2.2⟩
theorem run_append_mine {P:Program} {w:World} {base:Nat} (t ty e:TypeId) (i:TypeInfo) (z:Value) (size bytes:Nat) (ht:P.underlying t=some (.slice e)) (hi:P.info? e=some i) (hz:i.zero=some z)
  (hsize:i.size=size) (hby:i.bytes=bytes) (hzs:z.cells.size=size) (hsz:0<size)
  (v:Value) (n:Nat) (xs:List Value) (hown:w.ownsRow base e size v n xs)
  (a:Addr) (m c:Nat) (news:List Value) (hl:news.length=m*size) (hnews:∀ j u,news[j]? = some u→w.cell? (a.add j)=some u) (h1:∀ u∈news,u.oneCell'=true)
  (h63:n+m≤maxLen) (hbytes:(n+m)*bytes≤140737488355328) (hbase:base≤w.heap.size) :
  ∃ b cap w',(Builtin.append_ #[t,t] ty #[v,.slice (some a) m c]).run P w=.ok (.slice b (n+m) cap) w'∧w'.ownsRow base e size (.slice b (n+m) cap) (n+m) (xs++news)∧w.grownBy w' v.ownBlock∧
   (Value.ownBlock (.slice b (n+m) cap)=v.ownBlock∨(w.heap.size≤((Value.ownBlock (.slice b (n+m) cap)).getD w.heap.size)∧v.ownBlock≠none→True) )∧
   (∀ g,Value.ownBlock (.slice b (n+m) cap)=some g→v.ownBlock=some g∨w.heap.size≤g):=by
 -- the law of the kit, at the greatest base that serves
 rcases hown.2 with ⟨rfl,rfl⟩ | ⟨g,cp,cur,rfl,hbg,hg,hnc,hcm,hcs,htake⟩
 ·have hown':w.ownsRow w.heap.size e size (.slice none 0 0) 0 xs:=⟨hown.1,.inl ⟨rfl,rfl⟩⟩
  obtain⟨v',w',hr,ho,hgr,_⟩:=run_append_own (P:=P) w w.heap.size t ty e i z size bytes ht hi hz hsize hby hzs hsz _ 0 xs hown' a m c news hl hnews h1 h63 hbytes (Nat.le_refl _)
  rcases ho.2 with ⟨rfl,hn0⟩ | ⟨g',cap',cur',rfl,hbg',rest⟩
  ·refine⟨none,0,w',by rw[hr,hn0],⟨ho.1,.inl ⟨by rw[hn0],hn0⟩⟩,hgr,.inl (by rfl),fun g h=>by cases h⟩
  ·refine⟨some ⟨g',0,none⟩,cap',w',hr,⟨ho.1,.inr ⟨g',cap',cur',rfl,Nat.le_trans hbase hbg',rest⟩⟩,hgr,.inr (fun _=>trivial),fun g h=>?_⟩
   simp only[Value.ownBlock,Option.some.injEq]at h
   subst h; exact .inr hbg'
 ·by_cases hroom:n+m≤cp
  ·have hfit:n*i.size+news.length≤cur.size:=by rw[hl,hcs,hsize,←Nat.add_mul]; exact Nat.mul_le_mul_right _ hroom
   have hr:=run_append_room (P:=P) w t ty e i ht hi g n cp cur hg a m c news (by rw[hsize]; exact hl) hnews h1 hroom hfit
   refine⟨some ⟨g,0,none⟩,cp,_,hr,⟨by rw[List.length_append,hown.1,hl,Nat.add_mul],.inr ⟨g,cp,_,rfl,hbg,setRow_heap w g cur _ e _ hg,hroom,hcm,?_,?_⟩⟩,⟨rfl,rfl,rfl,by simp,fun k _ hk=>setRow_other w g k _ (fun e=>hk (by simp[Value.ownBlock,e]))⟩,.inl rfl,fun g' h=>.inl h⟩
   ·simp only[List.size_toArray,List.length_append,List.length_take,List.length_drop,Array.length_toList]
    omega
   ·have hlen:(xs++news).length=(n+m)*size:=by rw[List.length_append,hown.1,hl,Nat.add_mul]
    rw[hsize,htake,←hlen]
    exact List.take_left
  ·have holds:∀ j u,xs[j]? = some u→w.cell? ((⟨g,0,none⟩:Addr).add j)=some u:=hown.cells (g:=g) rfl
   have hr:=run_append_grow (P:=P) w t ty e i z ht hi hz ⟨g,0,none⟩ n cp xs (by rw[hsize]; exact hown.1) holds a m c news (by rw[hsize]; exact hl) hnews (by omega) (by simp only[maxLen]at h63; omega) (growslice_fits (by omega) (by rw[hby]; exact hbytes))
   refine⟨some ⟨w.heap.size,0,none⟩,grownCap w (n+m) cp e,_,hr,⟨by rw[List.length_append,hown.1,hl,Nat.add_mul],.inr ⟨w.heap.size,_,_,rfl,hbase,heap_alloc_new w.drew _,grownCap_ge w (n+m) cp e,grownCap_le_maxLen w (n+m) cp e h63,?_,?_⟩⟩,
    ⟨rfl,rfl,rfl,by simp,fun k hk _=>heap_alloc_old w.drew _ hk⟩,.inr (fun _=>trivial),fun g' h=>?_⟩
   ·have hge:=grownCap_ge w (n+m) cp e
    simp only[Array.size_append,List.size_toArray,size_zeroCells,hzs,hown.1,hl,←Nat.add_mul]
    congr 1
    omega
   ·have hlen:(xs++news).length=(n+m)*size:=by rw[List.length_append,hown.1,hl,Nat.add_mul]
    simp only[Array.toList_append,List.append_assoc]
    rw[←List.append_assoc,←hlen]
    exact List.take_left
   ·simp only[Value.ownBlock,Option.some.injEq]at h
    subst h; exact .inr (Nat.le_refl _)
section
variable {cx:Cx} {O R:List Own} {V:View} {w w':World}
theorem Mem.rowSet {v v':Value} {e:TypeId} {s n n':Nat} {xs xs':List Value} (h:Mem cx (.row v e s n xs::O) V w) (hg:w.grownBy w' v.ownBlock) (ho:w'.ownsRow cx.w0.heap.size e s v' n' xs')
  (hf:∀ g,v'.ownBlock=some g→v.ownBlock=some g∨w.heap.size≤g):Mem cx (.row v' e s n' xs'::O) V w':=by
 obtain⟨fp,⟨f,g,rfl,⟨rfl,hr⟩,hl⟩,h2,h3⟩:=h.own
 obtain⟨n1,n2,n3⟩:=List.nodup_append.1 h2
 have hv:∀ k,v.ownBlock=some k→k∈v.ownBlock.toList:=fun k hk=>by simp[hk]
 have hne:∀ k∈g,some k≠v.ownBlock:=fun k hk e=>n3 k (hv k e.symm) k hk rfl
 refine⟨⟨hg.os.trans h.below.os,hg.tape.trans h.below.tape,hg.output.trans h.below.output,Nat.le_trans h.below.size hg.size,fun k hk=>?_⟩,h.le0,h.fresh,fun k o2 hk=>?_,v'.ownBlock.toList++g,⟨_,g,rfl,⟨rfl,ho⟩,hl.kept fun k hk=>hg.block k (hl.lt k hk).2 (hne k hk)⟩,List.nodup_append.2 ⟨?_,n2,fun a ha b hb=>?_⟩,fun b hb=>?_⟩
 ·rw[hg.block k (Nat.lt_of_lt_of_le hk h.below.size) (fun e=>by have:=(hr.lt k e.symm).1; omega)]
  exact h.below.block k hk
 ·show w'.heap[k]? = some o2
  have hk':w.heap[k]? = some o2:=h.view k o2 hk
  rw[hg.block k (h.view.lt hk) (fun e=>by rw[h3 k (List.mem_append_left _ (hv k e.symm))]at hk; cases hk)]
  exact hk'
 ·cases v'.ownBlock<;>simp
 ·intro e
  subst e
  have ha':v'.ownBlock=some a:=by cases hv':v'.ownBlock<;>simp[hv']at ha⊢; exact ha.symm
  rcases hf a ha' with h4 | h4
  ·exact n3 a (hv a h4) a hb rfl
  ·have:=(hl.lt a hb).2; omega
 ·rcases List.mem_append.1 hb with hb | hb
  ·have hb':v'.ownBlock=some b:=by cases hv':v'.ownBlock<;>simp[hv']at hb⊢; exact hb.symm
   rcases hf b hb' with h4 | h4
   ·exact h3 b (List.mem_append_left _ (hv b h4))
   ·cases hV:V b with
    | none=>rfl
    | some o=>have:=h.view.lt hV; omega
  ·exact h3 b (List.mem_append_right _ hb)
theorem Mem.rowNew (h:Mem cx O V w) (e:TypeId) (s:Nat):Mem cx (.row (.slice none 0 0) e s 0 []::O) V w:=by
 obtain⟨fp,h1,h2,h3⟩:=h.own
 exact⟨h.below,h.le0,h.fresh,h.view,fp,⟨[],fp,rfl,⟨rfl,World.ownsRow_nil _ _ _ _⟩,h1⟩,h2,h3⟩
theorem Mem.giveRow {v:Value} {e:TypeId} {s n:Nat} {xs:List Value} (h:Mem cx (.row v e s n xs::O) V w) :
  ∃ V' a cap,Le V V'∧Mem cx O V' w∧v=.slice a n cap∧n≤cap∧cap≤maxLen∧xs.length=n*s∧(n≠0→a.isSome=true)∧∀ p,a=some p→Cells V' p xs:=by
 obtain⟨fp,⟨f,g,rfl,⟨rfl,hr⟩,hl⟩,h2,h3⟩:=h.own
 rcases hr.2 with ⟨rfl,hn0⟩ | ⟨b,cap,cur,rfl,hb,hh,hnc,hcm,hcs,htake⟩
 ·refine⟨V,none,0,Le.refl _,h.drop,by rw[hn0],by omega,Nat.zero_le _,hr.1,fun h=>absurd hn0 h,fun p hp=>by cases hp⟩
 ·have h':Mem cx (.blk b (.cells cur e (0,0))::O) V w:=⟨h.below,h.le0,h.fresh,h.view,[b]++g,⟨[b],g,rfl,⟨rfl,hb,hh⟩,hl⟩,by simpa [Value.ownBlock]using h2,by simpa [Value.ownBlock]using h3⟩
  obtain⟨V',k1,k2,k3⟩:=h'.give
  refine⟨V',some ⟨b,0,none⟩,cap,k1,k3,rfl,hnc,hcm,hr.1,fun _=>rfl,fun p hp j u hj=>?_⟩
  cases hp
  rw[Addr.add_lit,Nat.zero_add]
  simp only[jd,k2]
  rw[←htake,List.getElem?_take]at hj
  split at hj
  ·simpa using hj
  ·cases hj
end
section
variable {cx:Cx} {n:Nat} {ks:List (Nat×Value)} {O O' R:List Own} {V:View} {P:Program} {ops:Array Oper} {Qn:Act→World→Prop} {t:Tr} {i d:Nat} {T:TypeId} {pos:String} {after:Array Edge} {gd:Option (Nat×Bool)} {x y:Operand} {u v:Value} {wr:Bool} {K:Act→World→Prop}
theorem At.newRow (e:TypeId) (s:Nat) (h:At cx n ks (.row (.slice none 0 0) e s 0 []::O) V K):At cx n ks O V K:=fun a w hk hm=>h a w hk (hm.rowNew e s)
theorem At.giveB {b:Nat} {o:Obj} (hp:zM (.blk b o) O R) (h:∀ V',Le V V'→V' b=some o→At cx n ks R V' K):At cx n ks O V K:=At.perm hp.perm (At.give h)
theorem At.giveRow {v:Value} {e:TypeId} {s m:Nat} {xs:List Value} (hp:zM (.row v e s m xs) O R)
  (h:∀ V',Le V V'→(∃ a cap,v=.slice a m cap∧m≤cap∧cap≤maxLen∧xs.length=m*s∧(m≠0→a.isSome=true)∧∀ p,a=some p→Cells V' p xs)→At cx n ks R V' K):At cx n ks O V K:=fun a w hk hm=>by
 obtain⟨V',a',cap,h1,h2,h3⟩:=(hm.pick hp).giveRow
 exact h V' h1 ⟨a',cap,h3⟩ a w hk h2
theorem At.giveSl {α:Type} {enc:α→List Value} {v:Value} {e:TypeId} {s m:Nat} {xs:List Value} {l:List α} (he:∀ x,(enc x).length=s) (hx:xs=flat enc l) (hm:m=l.length) (hp:zM (.row v e s m xs) O R)
  (h:∀ V',Le V V'→Sl V' enc s v l→At cx n ks R V' K):At cx n ks O V K:=At.giveRow hp fun V' hV ⟨a,cap,h1,h2,h3,h4,h5,h6⟩=>by
 subst hx; subst hm; subst h1
 cases a with
 | none=>
  have hl:l=[]:=by cases l with | nil=>rfl | cons _ _=>exact absurd (h5 (by simp)) (by simp)
  subst hl
  exact h V' hV ⟨none,cap,rfl,h2,h3,fun h=>absurd rfl h,fun _ h=>by cases h⟩
 | some q=>exact h V' hV (Sl.of_cells he (h6 q rfl) h2 h3)
/-! New memory that is handed over at once. -/
theorem Mem.allocV {w:World} (hm:Mem cx O V w) (o:Obj):∃ V',Le V V'∧V' w.heap.size=some o∧Mem cx O V' (w.alloc o):=(hm.alloc o).give
theorem AtT.bsliceG {X E:TypeId} {m:Nat} {cs:List Value} {ps:List (Nat×Operand)} {vs:List (Nat×Value)} (ho:ops[i]? = some ⟨some d,.buildSlice X m ps.toArray,T,pos,after,gd⟩) (hg:Gd ks ops gd) (hp:evp ks ps=some vs)
  (hr:∀ w,(Instr.buildSlice X m vs.toArray).run P w=.ok (.slice (some ⟨w.heap.size,0,none⟩) m m) (w.alloc (LC cs E))) (hn:d<n)
  (next:∀ q V',Le V V'→Cells V' q cs→AtT cx n ((d,.slice (some q) m m)::ks) O V' P ops Qn t):AtT cx n ks O V P ops Qn (.n wr i t):=
 .x ho hg fun a w hk hm=>by
  have e:(ps.toArray.map fun(j,o)=>(j,a.eval o))=vs.toArray:=by rw[←evp_map hk ps vs hp]; simp
  simp only[opW,execOp,e,Sem.run_bind,hr,Result.andThen_ok,Sem.run_pure]
  obtain⟨V',h1,h2,h3⟩:=hm.allocV (LC cs E)
  exact⟨_,O,V',hk.put hn _,h3,fun _ u hu=>hu.less hm.le0 h1,next _ V' h1 (qp h2)⟩
theorem AtT.append {X E:TypeId} {z:Value} {s by_ m k c:Nat} {xs news:List Value} {q:Addr} (ho:ops[i]? = some ⟨some d,.call ⟨.builtin .append,#[x,y],#[X,X]⟩,T,pos,after,gd⟩) (hg:Gd ks ops gd) (hX:P.underlying X=some (.slice E)) (hE:rowB P E=some (z,s,by_)) (hzs:z.cells.size=s) (hs:0<s)
  (hx:ev ks x=some v) (hy:ev ks y=some (.slice (some q) k c)) (hp:zM (.row v E s m xs) O R) (hc:Cells V q news) (hl:news.length=k*s) (h1:news.all Value.oneCell'=true) (hb:m+k≤maxLen) (hby:(m+k)*by_≤140737488355328) (hn:d<n)
  (next:∀ a cap,AtT cx n ((d,.slice a (m+k) cap)::ks) (.row (.slice a (m+k) cap) E s (m+k) (xs++news)::R) V P ops Qn t):AtT cx n ks O V P ops Qn (.n true i t):=
 .x ho hg fun a w hk hm=>by
  have hm1:=hm.pick hp
  obtain⟨fp,⟨f,g,_,⟨_,hrow⟩,_⟩,_,_⟩:=hm1.own
  obtain⟨ti,hi,hz,hsz,hbz⟩:=rowB_info hE
  obtain⟨b,cap,w',hr,ho',hg,_,hfr⟩:=run_append_mine (P:=P) X T E ti z s by_ hX hi hz hsz hbz hzs hs v m xs hrow q k c news hl (hc.run hm.view) (by simpa [List.all_eq_true]using h1) hb hby hm.below.size
  simp only[opW,execOp,resolve,invoke,builtin,Sem.run_bind,Sem.run_pure,Result.andThen_ok,List.map_toArray,List.map_cons,List.map_nil,hk.ev hx,hk.ev hy,hr]
  exact⟨_,_,V,hk.put hn _,hm1.rowSet hg ho' hfr,fun h=>(by cases h),next b cap⟩
theorem AtT.clip {α:Type} {enc:α→List Value} {l:List α} {X E:TypeId} {s:Nat} {ag:Bool} {h:Int} {h' m':Operand} {k k2:IntKind} (ho:ops[i]? = some ⟨some d,.slice X x none (some h') (some m'),T,pos,after,gd⟩) (hg:Gd ks ops gd) (hX:P.underlying X=some (.slice E)) (hE:tkB P E=some (ag,s))
  (hx:ev ks x=some v) (hv:Sl V enc s v l) (hh:ev ks h'=some (.int k h)) (hm':ev ks m'=some (.int k2 h)) (h0:0≤h) (h1:h≤l.length) (hn:d<n)
  (next:∀ a,Sl V enc s (.slice a (l.take h.toNat).length (l.take h.toNat).length) (l.take h.toNat)→AtT cx n ((d,.slice a (l.take h.toNat).length (l.take h.toNat).length)::ks) O V P ops Qn t):AtT cx n ks O V P ops Qn (.q i t):=by
 obtain⟨a,cap,rfl,h2,h3,h4,h5⟩:=hv
 have hlen:(l.take h.toNat).length=h.toNat:=by rw[List.length_take]; omega
 refine .q (v:=.slice a (l.take h.toNat).length (l.take h.toNat).length) ho hg rfl hn (fun b w hk hm=>?_) (next a ⟨a,_,rfl,Nat.le_refl _,by rw[hlen]; omega,fun hne=>h4 (fun e=>hne (by simp[e])),fun p hp i x hi=>h5 p hp i x ?_⟩)
 ·have hX':P.underlying X=some (.slice (P.elem X)):=by simp[Program.elem,hX]
  have hEl:P.elem X=E:=by simp[Program.elem,hX]
  simp only[execOp,hk.ev hx,hk.ev hh,hk.ev hm',Option.map_none,Option.map_some,Sem.run_bind,run_sliceAt_slice w X _ _ _ _ hX']
  rw[run_slice_hm w X a l.length cap hX' k k2 h h h0 (Int.le_refl _) (by omega),hEl,run_sizeOf hE]
  simp only[Result.andThen_ok,Sem.run_pure,sliced,hlen,Nat.zero_mul,Nat.sub_zero]
  congr 3
  split
  ·rfl
  ·cases a<;>simp[Addr.add]
 ·rw[List.getElem?_take]at hi
  split at hi
  ·exact hi
  ·cases hi
theorem AtT.clipAll {α:Type} {enc:α→List Value} {l:List α} {X E:TypeId} {s:Nat} {ag:Bool} {h' m':Operand} {k k2:IntKind} (ho:ops[i]? = some ⟨some d,.slice X x none (some h') (some m'),T,pos,after,gd⟩) (hg:Gd ks ops gd) (hX:P.underlying X=some (.slice E)) (hE:tkB P E=some (ag,s))
  (hx:ev ks x=some v) (hv:Sl V enc s v l) (hh:ev ks h'=some (.int k (l.length:Int))) (hm':ev ks m'=some (.int k2 (l.length:Int))) (hn:d<n)
  (next:∀ a,Sl V enc s (.slice a l.length l.length) l→AtT cx n ((d,.slice a l.length l.length)::ks) O V P ops Qn t):AtT cx n ks O V P ops Qn (.q i t):=
 .clip ho hg hX hE hx hv hh hm' (Int.natCast_nonneg _) (Int.le_refl _) hn fun a ha=>by
  have e:l.take ((l.length:Int)).toNat=l:=by simp
  rw[e]at ha⊢
  exact next a ha
theorem AtT.tail {α:Type} {enc:α→List Value} {l:List α} {X E:TypeId} {s:Nat} {ag:Bool} {lo:Int} {lo':Operand} {k:IntKind} (ho:ops[i]? = some ⟨some d,.slice X x (some lo') none none,T,pos,after,gd⟩) (hg:Gd ks ops gd) (hX:P.underlying X=some (.slice E)) (hE:tkB P E=some (ag,s))
  (hx:ev ks x=some v) (hv:Sl V enc s v l) (hh:ev ks lo'=some (.int k lo)) (h0:0≤lo) (h1:lo≤l.length) (hn:d<n)
  (next:∀ a cap,Sl V enc s (.slice a (l.drop lo.toNat).length cap) (l.drop lo.toNat)→AtT cx n ((d,.slice a (l.drop lo.toNat).length cap)::ks) O V P ops Qn t):AtT cx n ks O V P ops Qn (.q i t):=by
 obtain⟨a,cap,rfl,h2,h3,h4,h5⟩:=hv
 have hlen:(l.drop lo.toNat).length=l.length-lo.toNat:=by rw[List.length_drop]
 refine .q (v:=.slice (if cap=lo.toNat then a else a.map (·.add (lo.toNat*s))) (l.drop lo.toNat).length (cap-lo.toNat)) ho hg rfl hn (fun b w hk hm=>?_)
  (next _ _ ⟨_,_,rfl,by rw[hlen]; omega,by omega,fun hne=>?_,fun p hp i x hi=>?_⟩)
 ·have hX':P.underlying X=some (.slice (P.elem X)):=by simp[Program.elem,hX]
  have hEl:P.elem X=E:=by simp[Program.elem,hX]
  simp only[execOp,hk.ev hx,hk.ev hh,Option.map_none,Option.map_some,Sem.run_bind,run_sliceAt_slice w X _ _ _ _ hX']
  rw[run_slice_l w X a l.length cap hX' k lo h0 (by omega),hEl,run_sizeOf hE]
  simp only[Result.andThen_ok,Sem.run_pure,sliced,hlen]
 ·have:=h4 (fun e=>hne (by simp[e]))
  split
  ·exact this
  ·cases a with | none=>simp at this | some p=>simp
 ·rw[List.getElem?_drop]at hi
  have hlt:=(List.getElem?_eq_some_iff.1 hi).1
  rw[if_neg (by omega)]at hp
  cases a with
  | none=>simp at hp
  | some q=>
   simp at hp
   subst hp
   have:=h5 q rfl _ _ hi
   rw[addr_add_add,←Nat.add_mul]; exact this
end
end Go.Lw
end
section
set_option linter.unusedVariables false
set_option linter.unusedSimpArgs false
namespace Go.Lw
open Go.RowKit
section
variable {cx:Cx} {n:Nat} {ks:List (Nat×Value)} {O O' R:List Own} {V:View} {P:Program} {ro:Option Nat} {Q:Exit→Act→World→Prop} {K:Act→World→Prop}
theorem At.lp {ι:Type} {c:Code} (KS:ι→List (Nat×Value)) (OS:ι→List Own) (VS:ι→View→Prop) (μ:ι→Nat) (i0:ι)
  (hs:Sub (KS i0) ks) (hp:Pt (OS i0) O) (hv:VS i0 V)
  (hbody:∀ i V' ks' O',VS i V'→ks'=KS i→O'=OS i→Le cx.V0 V'→At cx n ks' O' V' (c.wpIn (FW ro) 0 P (Exit.then (fun a w=>∃ i' V'',μ i'<μ i∧VS i' V''∧Kn cx n (KS i') a∧Mem cx (OS i') V'' w) Q))) :
  At cx n ks O V ((Code.loop c).wpIn (FW ro) 0 P Q):=At.loop KS OS VS μ i0 hs hp.part hv (fun i V' hV hl=>hbody i V' _ _ hV rfl rfl hl)
theorem At.round {ι:Type} {KS:ι→List (Nat×Value)} {OS:ι→List Own} {VS:ι→View→Prop} {μ:ι→Nat} {i:ι} (i':ι) (hμ:μ i'<μ i) (hv:VS i' V) (hs:Sub (KS i') ks) (hp:Pt (OS i') O) :
  At cx n ks O V (fun a w=>∃ i' V'',μ i'<μ i∧VS i' V''∧Kn cx n (KS i') a∧Mem cx (OS i') V'' w):=fun a w hk hm=>⟨i',V,hμ,hv,hk.sub hs,hm.part hp.part⟩
theorem At.pt {O':List Own} (hp:Pt O' O) (h:At cx n ks O' V K):At cx n ks O V K:=At.part hp.part h
theorem At.cutG {ι:Type} {c:Code} (KS:ι→List (Nat×Value)) (OS:ι→List Own) (VS:ι→View→Prop)
  (h1:At cx n ks O V (c.wpIn (FW ro) 0 P (Exit.then (fun a w=>∃ i V',VS i V'∧Kn cx n (KS i) a∧Mem cx (OS i) V' w) Q)))
  (h2:∀ i V' ks' O',VS i V'→ks'=KS i→O'=OS i→Le cx.V0 V'→At cx n ks' O' V' (Q .normal)):At cx n ks O V (c.wpIn (FW ro) 0 P Q):=fun a w hk hm=>
 wpIn_mono (h1 a w hk hm) (fun e a' w' hq=>by
  cases e with
  | normal=>obtain⟨i,V',hV,hk',hm'⟩:=hq; exact h2 i V' _ _ hV rfl rfl hm'.le0 a' w' hk' hm'
  | exit id=>exact hq
  | goto l=>exact hq
  | ret=>exact hq
  | panic ch=>exact hq
  | outgrown=>exact hq)
theorem At.meetG {ι:Type} {KS:ι→List (Nat×Value)} {OS:ι→List Own} {VS:ι→View→Prop} (i:ι) (hv:VS i V) (hs:Sub (KS i) ks) (hp:Pt (OS i) O):At cx n ks O V (fun a w=>∃ i V',VS i V'∧Kn cx n (KS i) a∧Mem cx (OS i) V' w):=fun a w hk hm=>⟨i,V,hv,hk.sub hs,hm.part hp.part⟩
theorem At.cut {c:Code} (ks':List (Nat×Value)) (O':List Own) (VS:View→Prop)
  (h1:At cx n ks O V (c.wpIn (FW ro) 0 P (Exit.then (fun a w=>∃ V',VS V'∧Kn cx n ks' a∧Mem cx O' V' w) Q)))
  (h2:∀ V',VS V'→At cx n ks' O' V' (Q .normal)):At cx n ks O V (c.wpIn (FW ro) 0 P Q):=fun a w hk hm=>
 wpIn_mono (h1 a w hk hm) (fun e a' w' hq=>by
  cases e with
  | normal=>obtain⟨V',hV,hk',hm'⟩:=hq; exact h2 V' hV a' w' hk' hm'
  | exit id=>exact hq
  | goto l=>exact hq
  | ret=>exact hq
  | panic ch=>exact hq
  | outgrown=>exact hq)
variable {ops:Array Oper} {Qn:Act→World→Prop} {t:Tr}
theorem AtT.zD {d:Nat} {b:Bool} (hd:look ks d=some (.bool b)) (ht:b=true→AtT cx n ((d,.bool true)::ks) O V P ops Qn t) (hf:b=false→AtT cx n ((d,.bool false)::ks) O V P ops Qn t):AtT cx n ks O V P ops Qn t:=fun a w hk hm=>by
 have:Kn cx n ((d,.bool b)::ks) a:=⟨hk.defers,hk.size,fun i v hv=>by
  simp only[look]at hv
  cases hb:Nat.beq d i with
  | true=>rw[hb]at hv; simp at hv; subst hv; have:=Nat.eq_of_beq_eq_true hb; subst this; exact hk.known _ _ hd
  | false=>rw[hb]at hv; simp at hv; exact hk.known _ _ hv⟩
 cases b
 ·exact hf rfl a w this hm
 ·exact ht rfl a w this hm
theorem AtT.zF {d:Nat} {p:Prop} [Decidable p] (hd:look ks d=some (.bool (decide p))) (ht:p→AtT cx n ((d,.bool true)::ks) O V P ops Qn t) (hf:¬ p→AtT cx n ((d,.bool false)::ks) O V P ops Qn t):AtT cx n ks O V P ops Qn t:=
 AtT.zD hd (fun h=>ht (of_decide_eq_true h)) (fun h=>hf (of_decide_eq_false h))
theorem AtT.join {t':Tr} (d:Nat) (b:Bool) (h2:AtT cx n ((d,.bool b)::ks) O V P ops Qn t') (h1:AtT cx n ((d,.bool b)::ks) O V P ops Qn t'→AtT cx n ks O V P ops Qn t):AtT cx n ks O V P ops Qn t:=h1 h2
end
theorem Sl.one {α:Type} {V:View} {enc:α→List Value} {s:Nat} {q:Addr} {x:α} (he:∀ x,(enc x).length=s) (h:Cells V q (enc x)):Sl V enc s (.slice (some q) 1 1) [x]:=
 Sl.of_cells (l:=[x]) he (by simpa [flat]using h) (Nat.le_refl _) (by unfold maxLen; decide)
theorem zZ (x:Int):(ei x).length=1:=rfl
theorem qw:∀ l:List Int,flat ei l=l.map (.int .i64)
 | []=>rfl
 | x::l=>by have:=qw l; simp only[flat]at this⊢; simp[ei,this]
theorem Sl.lit {V:View} {q:Addr} {l:List Int} {m:Nat} (h:Cells V q (l.map (.int .i64))) (hm:m=l.length) (hl:l.length≤1000000):SlI V (.slice (some q) m m) l:=by
 subst hm
 exact Sl.of_cells zZ (by rw[qw]; exact h) (Nat.le_refl _) (by unfold maxLen; omega)
end Go.Lw
end
section
set_option linter.unusedVariables false
set_option linter.unusedSimpArgs false
namespace Go.Lw
open Go.RowKit
def Rnd (P:Program) (l:Nat) (y:List Value) (J:Nat→World→Prop) (E:World→Prop) (j:Nat) (w:World):Prop:=
 ∃ f tmps assign body,(Instr.yield l y.toArray).run P w=.ok (.round l f tmps assign body) w∧
  RoundIn (FW none) 0 P l f tmps assign body w fun e w'=>(e=.returned (.bool true)∧J (j+1) w')∨(e=.returned (.bool false)∧E w')
structure Yd (P:Program) (l:Nat) (J:Nat→World→Prop) (E:World→Prop) (V:View) (ys:List (List Value)):Prop where
 stJ:∀ j w w',J j w→Below w.heap.size w w'→J j w'
 stE:∀ w w',E w→Below w.heap.size w w'→E w'
 view:∀ j w,J j w→Le V (hp w)
 rnd:∀ j y w,ys[j]? = some y→J j w→Rnd P l y J E j w
def It (P:Program) (f:FuncId) (caps:List Value) (V:View) (ys:List (List Value)):Prop:=
 ∀ (l:Nat) (J:Nat→World→Prop) (E:World→Prop) (w:World),Yd P l J E V ys→J 0 w→
  Calls P f (Value.func (.yield l) #[] #[]::caps).toArray w fun e w'=>∃ v,e=.returned v∧(J ys.length w'∨E w')
section
variable {cx:Cx} {n:Nat} {ks:List (Nat×Value)} {O O' R:List Own} {V V0:View} {P:Program} {ops:Array Oper} {Qn:Act→World→Prop} {t:Tr} {i d:Nat} {T:TypeId} {pos:String} {after:Array Edge} {gd:Option (Nat×Bool)} {x y:Operand} {u v:Value} {wr:Bool} {ro:Option Nat} {Q:Exit→Act→World→Prop} {K:Act→World→Prop}
 {l j:Nat} {J:Nat→World→Prop} {E:World→Prop} {ys:List (List Value)}
theorem AtT.xx {o:Oper} (ho:ops[i]? = some o) (hg:Gd ks ops o.guard)
  (h:∀ a w,Kn cx n ks a→Mem cx O V w→opW P o a w (fun a' w'=>∃ cx' ks' O' V',Kn cx' n ks' a'∧Mem cx' O' V' w'∧AtT cx' n ks' O' V' P ops Qn t)) :
  AtT cx n ks O V P ops Qn (.n true i t):=fun a w hk hm=>
 ⟨o,ho,by
  unfold stW
  rw[if_pos (hg.wanted hk)]
  exact opW_mono (fun a' w' ⟨cx',ks',O',V',hk',hm',hn⟩=>⟨Mem cx' O' V',fun h=>(by cases h),hm',hn a' w' hk' hm'⟩) (h a w hk hm)⟩
theorem Mem.start {w:World} (ds:List Deferred) (h:Le V (hp w)):Mem ⟨w,V,ds⟩ [] V w:=⟨Below.refl _ _,Le.refl _,fun k o hk=>.inl hk,h,[],rfl,List.nodup_nil,fun b hb=>by cases hb⟩
theorem Kn.kT {cx':Cx} {a:Act} (h:Kn cx n ks a) (e:cx'.ds=cx.ds):Kn cx' n ks a:=⟨h.defers.trans e.symm,h.size,h.known⟩
theorem Mem.kT {cx':Cx} {w:World} (h:Mem cx O V w) (e:cx'.w0=cx.w0) (e':cx'.V0=cx.V0):Mem cx' O V w:=by
 obtain⟨h1,h2,h3,h4,h5⟩:=h
 exact⟨by rw[e]; exact h1,by rw[e']; exact h2,by rw[e,e']; exact h3,h4,by rw[e]; exact h5⟩
theorem AtT.yield {c:Operand} {args:List Operand} {ts:Array TypeId} {y:List Value} (ho:ops[i]? = some ⟨some d,.call ⟨.value c,args.toArray,ts⟩,T,pos,after,gd⟩) (hg:Gd ks ops gd) (hc:ev ks c=some (.func (.yield l) #[] #[])) (ha:evs ks args=some y) (H:Yd P l J E V0 ys)
  (hy:ys[j]? = some y) (hJ:J j cx.w0) (hn:d<n)
  (next1:∀ w,J (j+1) w→AtT ⟨w,V0,cx.ds⟩ n ((d,.bool true)::ks) [] V0 P ops Qn t)
  (next2:∀ w,E w→AtT ⟨w,fun _=>none,cx.ds⟩ n ((d,.bool false)::ks) [] (fun _=>none) P ops Qn t):AtT cx n ks O V P ops Qn (.n true i t):=
 .xx ho hg fun a w hk hm=>by
  have e:args.toArray.map a.eval=y.toArray:=by rw[←xB hk args y ha]; simp
  obtain⟨f,tmps,assign,body,h1,h2⟩:=H.rnd j y w hy (H.stJ j _ _ hJ hm.below)
  simp only[opW,execOp,resolve,e,hk.ev hc,Deferred.ofValue,Sem.run_bind,Sem.run_pure,Result.andThen_ok,invoke,Array.empty_append,h1]
  refine h2.mono fun e w' hh=>?_
  rcases hh with ⟨rfl,h⟩ | ⟨rfl,h⟩
  ·exact⟨⟨w',V0,cx.ds⟩,_,[],V0,(hk.put hn _).kT rfl,Mem.start _ (H.view _ _ h),next1 w' h⟩
  ·exact⟨⟨w',fun _=>none,cx.ds⟩,_,[],fun _=>none,(hk.put hn _).kT rfl,Mem.start _ (fun k o hk=>by cases hk),next2 w' h⟩
theorem At.lpY (H:Yd P l J E V0 ys) {ι:Type} {c:Code} (I:ι→Prop) (KS:ι→List (Nat×Value)) (idx:ι→Nat) (μ:ι→Nat) (i0:ι) (hI:I i0) (hs:Sub (KS i0) ks) (hJ:J (idx i0) cx.w0)
  (hbody:∀ i w ks',I i→J (idx i) w→ks'=KS i→At ⟨w,V0,cx.ds⟩ n ks' [] V0 (c.wpIn (FW ro) 0 P (Exit.then (fun a' w'=>∃ i',μ i'<μ i∧I i'∧Kn cx n (KS i') a'∧J (idx i') w') Q))) :
  At cx n ks O V ((Code.loop c).wpIn (FW ro) 0 P Q):=fun a w hk hm=>
 wpIn_loop_ghost (fun(i:ι) a w=>I i∧Kn cx n (KS i) a∧J (idx i) w) μ
  (fun i a w ⟨hI,hk,hJ⟩=>wpIn_mono (hbody i w _ hI hJ rfl a w (hk.kT rfl) (Mem.start _ (H.view _ _ hJ))) (fun e a' w' hq=>by
   cases e with
   | normal=>
    obtain⟨i',hlt,hI',hk',hJ'⟩:=hq
    exact⟨i',⟨hI',hk',hJ'⟩,hlt⟩
   | exit id=>exact hq
   | goto l=>exact hq
   | ret=>exact hq
   | panic ch=>exact hq
   | outgrown=>exact hq)) i0 a w ⟨hI,hk.sub hs,H.stJ _ _ _ hJ hm.below⟩
theorem At.roundY (H:Yd P l J E V0 ys) {cx':Cx} {ι:Type} {I:ι→Prop} {KS:ι→List (Nat×Value)} {idx:ι→Nat} {μ:ι→Nat} {i:ι} (i':ι) (hμ:μ i'<μ i) (hI:I i') (hs:Sub (KS i') ks) (hJ:J (idx i') cx.w0) (hd:cx'.ds=cx.ds:=by rfl) :
  At cx n ks O V (fun a w=>∃ i',μ i'<μ i∧I i'∧Kn cx' n (KS i') a∧J (idx i') w):=fun a w hk hm=>⟨i',hμ,hI,(hk.sub hs).kT hd,H.stJ _ _ _ hJ hm.below⟩
theorem it_of {f:FuncId} {fn:Func} {c:Code} {caps:List Value} {n:Nat} (hf:P.funcs[f]? = some fn) (hb:fn.body=some c) (hn:fn.ntmps=n) (hl:caps.length+1≤n) (hr:fn.results=#[])
  (h:∀ l J E w,Yd P l J E V ys→J 0 w→At ⟨w,V,[]⟩ n (frame (Value.func (.yield l) #[] #[]::caps) 0) [] V (c.wpIn (FW none) 0 P (fun e a w'=>a.defers=[]∧(e=.normal∨e=.ret)∧(J ys.length w'∨E w')))):It P f caps V ys:=fun l J E w H hJ=>by
 refine(jB (ro:=none) (n:=0)).1 (callsIn_of_wp hf hb trivial (wpIn_mono (h l J E w H hJ _ w ⟨rfl,?_,fun i v hi=>?_⟩ (Mem.start _ (H.view _ _ hJ))) fun e a w' hq=>?_) rfl)
 ·simp[hn]; omega
 ·have:=(kZ (Value.func (.yield l) #[] #[]::caps) 0 i v hi).2
  simp only[Nat.sub_zero]at this
  have hlt:=(List.getElem?_eq_some_iff.1 this).1
  rw[Array.getElem?_append_left (by simpa using hlt)]
  simpa using this
 ·obtain⟨h1,h2 | h2,h3⟩:=hq<;>subst h2<;>exact⟨h1,_,results_none hr _ _ _,_,rfl,h3⟩
theorem At.itEnd (H:Yd P l J E V0 ys) {e:Exit} (he:e=.normal∨e=.ret) (hd:cx.ds=[]) (h:J ys.length cx.w0∨E cx.w0):At cx n ks O V (fun a w'=>a.defers=[]∧(e=.normal∨e=.ret)∧(J ys.length w'∨E w')):=fun a w hk hm=>
 ⟨hk.defers.trans hd,he,h.imp (fun h=>H.stJ _ _ _ h hm.below) (fun h=>H.stE _ _ h hm.below)⟩
/-! ### The loop over such a function -/
abbrev mkD (D:Nat):Deferred:={ target:=.collected D,args:=#[] }
def bindK:List Nat→List Value→List (Nat×Value)→List (Nat×Value)
 | p::ps,v::vs,ks=>bindK ps vs ((p,v)::ks)
 | _,_,ks=>ks
theorem Kn.bind:∀ (ps:List Nat) (y:List Value) (ks:List (Nat×Value)) (tmps:Array Value),ps.length=y.length→(∀ p∈ps,p<n)→Kn cx n ks { tmps:=tmps,defers:=cx.ds }→
  Kn cx n (bindK ps y ks) { tmps:=(ps.zip y).foldl (fun tmps (p:Nat×Value)=>tmps.setIfInBounds p.1 p.2) tmps,defers:=cx.ds }
 | [],[],ks,tmps,_,_,h=>h
 | p::ps,v::y,ks,tmps,hl,hp,h=>by
  have:=Kn.put h (hp p (by simp)) v
  exact Kn.bind ps y _ _ (by simpa using hl) (fun q hq=>hp q (List.mem_cons_of_mem _ hq)) this
 | [],_::_,_,_,hl,_,_=>by simp at hl
 | _::_,[],_,_,hl,_,_=>by simp at hl
def RJ {ι:Type} (cx:Cx) (l D:Nat) (r:Loop) (idx:ι→Nat) (OS:ι→List Own) (VS:ι→View→Prop) (j:Nat) (w:World):Prop:=
 ∃ g V',idx g=j∧VS g V'∧Mem cx (.blk l (.loop { r with state:=.ready,pending:=none })::.blk D (.deferred (some []))::OS g) V' w
def RE (cx:Cx) (l D:Nat) (r:Loop) (XS:Code→List Own→View→Prop) (w:World):Prop:=
 ∃ c O' V',XS c O' V'∧Mem cx (.blk l (.loop { r with state:=.done,pending:=some c })::.blk D (.deferred (some []))::O') V' w
abbrev RR {ι:Type} (cx:Cx) (l D:Nat) (r:Loop) (idx:ι→Nat) (OS:ι→List Own) (VS:ι→View→Prop) (XS:Code→List Own→View→Prop) (j:Nat):Ending→World→Prop:=fun e w'=>
 (e=.returned (.bool true)∧RJ cx l D r idx OS VS (j+1) w')∨(e=.returned (.bool false)∧RE cx l D r XS w')
theorem Mem.put {b:Nat} {o o':Obj} {w:World} (h:Mem cx (.blk b o::O) V w):Mem cx (.blk b o'::O) V (w.putObj b o'):=
 h.set ⟨rfl,rfl,rfl,by simp,fun k hk hne=>by rw[World.putObj_heap_other (fun e=>hne (by rw[e]))]⟩ (World.putObj_heap_same (Array.getElem?_eq_some_iff.1 h.blk).1)
section
variable {ι:Type} {l D:Nat} {r:Loop} {idx:ι→Nat} {OS:ι→List Own} {VS:ι→View→Prop} {XS:Code→List Own→View→Prop}
theorem RJ.ext {w w':World} (h:RJ cx l D r idx OS VS j w) (hb:Below w.heap.size w w'):RJ cx l D r idx OS VS j w':=by
 obtain⟨g,V',h0,h1,h2⟩:=h; exact⟨g,V',h0,h1,h2.ext hb⟩
theorem RE.ext {w w':World} (h:RE cx l D r XS w) (hb:Below w.heap.size w w'):RE cx l D r XS w':=by
 obtain⟨c,O',V',h1,h2⟩:=h; exact⟨c,O',V',h1,h2.ext hb⟩
theorem At.begin (hp:zM (.blk l (.loop { r with state:=.ready,pending:=none })) O R) (h:At cx n ks (.blk l (.loop { r with state:=.busy,pending:=none })::R) V K) :
  At cx n ks O V (fun a w=>∃ w',(Instr.beginRound l).run P w=.ok () w'∧K a w'):=fun a w hk hm=>
 ⟨_,run_beginRound (hm.pick hp).blk rfl,h a _ hk (hm.pick hp).put⟩
theorem At.roundN (g:ι) (hi:idx g=j+1) (hv:VS g V) (hp:zM (.blk l (.loop { r with state:=.busy,pending:=none })) O R) (hp':Pt (.blk D (.deferred (some []))::OS g) R) :
  At cx n ks O V (roundPost P l (RR cx l D r idx OS VS XS j) .normal):=fun a w hk hm=>
 ⟨_,_,run_endRound none (hm.pick hp).blk,.inl ⟨rfl,g,V,hi,hv,Mem.part (hm.pick hp).put (.take (.refl _) hp'.part)⟩⟩
theorem At.roundX {id:Nat} (hv:XS (.exit id) O' V) (hp:zM (.blk l (.loop { r with state:=.busy,pending:=none })) O R) (hp':Pt (.blk D (.deferred (some []))::O') R) :
  At cx n ks O V (roundPost P l (RR cx l D r idx OS VS XS j) (.exit id)):=fun a w hk hm=>
 ⟨_,_,run_endRound (some (.exit id)) (hm.pick hp).blk,.inr ⟨rfl,_,O',V,hv,Mem.part (hm.pick hp).put (.take (.refl _) hp'.part)⟩⟩
end
theorem foldl_zip (y:Array Value) (ps:Array Tmp) (tmps:Array Value):(ps.zip y).foldl (fun tmps (p:Tmp×Value)=>tmps.setIfInBounds p.1 p.2) tmps=(ps.toList.zip y.toList).foldl (fun tmps (p:Nat×Value)=>tmps.setIfInBounds p.1 p.2) tmps:=by
 rw[←Array.foldl_toList,Array.toList_zip]
theorem At.rangeFunc {g:Operand} {ps:Array Tmp} {assign body:Code} {f:FuncId} {caps:List Value} {Vi:View} {ι:Type} (idx:ι→Nat) (OS:ι→List Own) (VS:ι→View→Prop) (XS:Code→List Own→View→Prop)
  (hg:ev ks g=some (.func (.func f) #[] caps.toArray)) (hok:zy P f) (g0:ι) (hg0:idx g0=0) (hp:Pt (OS g0) O) (hv:VS g0 V) (hit:It P f caps Vi ys) (hVi:∀ g V',VS g V'→Le Vi V')
  (hps:∀ p∈ps.toList,p<n) (hlen:∀ y∈ys,y.length=ps.size) (hds:cx.ds=[])
  (hround:∀ i y l D r V' ks' O',ys[idx i]? = some y→VS i V'→Le cx.V0 V'→ks'=bindK ps.toList y ks→O'=OS i→At cx n ks' (.blk l (.loop { r with state:=.ready,pending:=none })::.blk D (.deferred (some []))::O') V'
   (assign.wpIn (FW (some l)) 0 P (Exit.then (fun a₁ w₁=>∃ w₂,(Instr.beginRound l).run P w₁=.ok () w₂∧body.wpIn (FW (some l)) 0 P (roundPost P l (RR cx l D r idx OS VS XS (idx i))) a₁ w₂) (fun _ _ _=>False))))
  (hend:∀ i D V' O',idx i=ys.length→VS i V'→Le cx.V0 V'→O'=OS i→At { cx with ds:=[mkD D] } n ks (.blk D (.deferred (some []))::O') V' (Q .normal))
  (hexit:∀ D c O' V',XS c O' V'→Le cx.V0 V'→At { cx with ds:=[mkD D] } n ks (.blk D (.deferred (some []))::O') V' (c.wpIn (FW none) 0 P Q)) :
  At cx n ks O V ((Code.rangeFunc g ps assign body).wpIn (FW none) 0 P Q):=fun a w hk hm=>by
 refine wpIn_rangeFunc fun fn _=>?_
 let D:=w.heap.size
 let r:Loop:={ state:=.ready,pending:=none,fn:=fn,tmps:=a.tmps,params:=ps,assign:=assign,body:=body,defers:=D }
 let w1:=(w.alloc (.deferred (some []))).alloc (.loop r)
 have hm1:Mem cx (.blk (D+1) (.loop r)::.blk D (.deferred (some []))::OS g0) V w1:=by
  have h1:=(hm.part hp.part).alloc (.deferred (some []))
  have h2:=h1.alloc (.loop r)
  rwa[World.size_alloc]at h2
 have H:Yd P (D+1) (RJ cx (D+1) D r idx OS VS) (RE cx (D+1) D r XS) Vi ys:=by
  refine⟨fun j w w' h hb=>h.ext hb,fun w w' h hb=>h.ext hb,fun j w h=>?_,fun j y w hy h=>?_⟩
  ·obtain⟨g',V',h0,h1,h2⟩:=h
   exact(hVi _ _ h1).trans h2.view
  ·obtain⟨g',V',rfl,h1,h2⟩:=h
   have hl:=hlen y (List.mem_of_getElem? hy)
   refine⟨_,_,_,_,run_yield h2.blk (by simpa using hl),?_⟩
   rw[foldl_zip]
   refine roundIn_of_wpIn trivial ?_
   refine hround g' y (D+1) D r V' _ _ hy h1 h2.le0 rfl rfl _ w ?_ h2
   have:Kn cx n ks { tmps:=a.tmps,defers:=cx.ds }:=⟨rfl,hk.size,hk.known⟩
   have:=Kn.bind ps.toList y ks a.tmps (by simpa using hl.symm) hps this
   rw[hds]at this
   exact⟨hds.symm▸this.defers,this.size,this.known⟩
 refine⟨D+1,[mkD D],w1,{ target:=.fn (.func f) caps.toArray,args:=#[.func (.yield (D+1)) #[] #[]] },w1,f,(Value.func (.yield (D+1)) #[] #[]::caps).toArray,w1,run_enterLoop_outer _ _ _ _ _,?_,fun _ _=>trivial,?_,FW_dep none,?_⟩
 ·have e1:a.eval (.const (.func (.yield (D+1)) #[] #[]))=.func (.yield (D+1)) #[] #[]:=rfl
  simp[resolve,hk.ev hg,Deferred.ofValue,e1]
 ·have e:(#[Value.func (.yield (D+1)) #[] #[]]++caps.toArray)=(Value.func (.yield (D+1)) #[] #[]::caps).toArray:=by simp
  simp only[invoke,e]
  exact hok _ _
 ·refine jB.2 ((hit (D+1) _ _ w1 H ⟨g0,V,hg0,hv,hm1⟩).mono fun e w' ⟨v,he,hh⟩=>?_)
  subst he
  have hk':Kn { cx with ds:=[mkD D] } n ks { a with defers:=[mkD D]++a.defers }:=⟨by show [mkD D]++a.defers=[mkD D]; rw[hk.defers,hds]; rfl,hk.size,hk.known⟩
  rcases hh with ⟨g',V',h0,h1,h2⟩ | ⟨c,O',V',h1,h2⟩
  ·exact⟨none,_,run_endLoop h2.blk (by simp),hend g' D V' _ h0 h1 h2.le0 rfl _ _ hk' (h2.put.drop.kT rfl rfl)⟩
  ·exact⟨some c,_,run_endLoop h2.blk (by simp),hexit D c O' V' h1 h2.le0 _ _ hk' (h2.put.drop.kT rfl rfl)⟩
/-! ### A function that holds such a loop -/
theorem fn_ofM {f:FuncId} {fn:Func} {c:Code} {args:List Value} {V:View} {R:Value→View→Prop} {n:Nat} (hf:P.funcs[f]? = some fn) (hb:fn.body=some c) (hn:fn.ntmps=n) (hl:args.length≤n)
  (h:∀ w,Le V (hp w)→At ⟨w,V,[]⟩ n (frame args 0) [] V (c.wpIn (FW none) 0 P (bodyPostM (FW none) 0 P fn fun e w'=>∃ v V',e=.returned v∧Below w.heap.size w w'∧Le V V'∧Le V' (hp w')∧(∀ k o,V' k=some o→V k=some o∨w.heap.size≤k)∧R v V'))) :
  Fnc P f args V R:=fun w hw=>by
 refine(jB (ro:=none) (n:=0)).1 (callsIn_of_wp_marks hf hb trivial (h w hw _ w ⟨rfl,?_,fun i v hi=>?_⟩ ⟨Below.refl _ _,Le.refl _,fun k o hk=>.inl hk,hw,[],rfl,List.nodup_nil,fun b hb=>by cases hb⟩) rfl)
 ·simp[hn]; omega
 ·have:=(kZ args 0 i v hi).2
  simp only[Nat.sub_zero]at this
  have hlt:=(List.getElem?_eq_some_iff.1 this).1
  rw[Array.getElem?_append_left (by simpa using hlt)]
  simpa using this
theorem At.plain {fn:Func} {R':Ending→World→Prop} {e:Exit} (he:e=.ret∨e=.normal) (hd:cx.ds=[]) (h:At cx n ks O V (bodyPost P fn R' e)):At cx n ks O V (bodyPostM (FW none) 0 P fn R' e):=fun a w hk hm=>by
 have:=h a w hk hm
 rcases he with rfl | rfl
 all_goals
  obtain⟨h1,h2⟩:=this
  show LeavesInM _ _ _ _ _ _ a.defers _ _
  rw[h1]
  exact h2
end
end Go.Lw
end
section
set_option linter.unusedVariables false
set_option linter.unusedSimpArgs false
set_option linter.unusedSectionVars false
namespace Go.Lw
open Go.RowKit
def EqS (P:Program) (t:TypeId) (xs ys:List Value) (b:Bool):Prop:=P.eqGuardType P.depth t=false∧∀ w,(Op.equalIn 10000 t (.agg xs.toArray) (.agg ys.toArray)).run P w=.ok b w
structure KeyL {α:Type} [DecidableEq α] (P:Program) (kt:TypeId) (ek:α→Value):Prop where
 eq:∀ a b w,(Op.equal kt (ek a) (ek b)).run P w=.ok (decide (a=b)) w
 ck:∀ e a w,(Instr.checkKey e 10000 kt (ek a)).run P w=.ok () w
 sb:∀ a,Instr.sameBits 10000 (ek a) (ek a)=true
 now:∃ kd,P.underlying kt=some kd∧((∀ a b,Instr.sameNow kd (ek a) (ek b)=none)∨(∀ a b,Instr.sameNow kd (ek a) (ek b)=some (decide (a=b))))
section
variable {α β:Type} [DecidableEq α] {P:Program} {kt:TypeId} {ek:α→Value} {ev':β→Value}
abbrev MM (α β:Type):=List (α×β×Nat)
def mE (ek:α→Value) (ev':β→Value) (e:α×β×Nat):MapEntry:={ key:=ek e.1,val:=ev' e.2.1,born:=e.2.2 }
def jC (ek:α→Value) (ev':β→Value) (M:MM α β) (c:Nat):Obj:=.map (M.map (mE ek ev')).toArray c
def fk (a:α):MM α β→Nat→Option (Nat×β)
 | [],_=>none
 | e::M,i=>if a=e.1 then some (i,e.2.1)else fk a M (i+1)
def mhas (a:α):MM α β→Bool
 | []=>false
 | e::M=>if a=e.1 then true else mhas a M
def mdel (a:α):MM α β→MM α β
 | []=>[]
 | e::M=>if a=e.1 then M else e::mdel a M
def mmod (a:α) (v:β):MM α β→MM α β
 | []=>[]
 | e::M=>if a=e.1 then (a,v,e.2.2)::M else e::mmod a v M
theorem KeyL.now_find (h:∀ kd,P.underlying kt=some kd→∀ a b,Instr.sameNow kd (ek a) (ek b)=some (decide (a=b))) {kd:TypeDesc} (hk:P.underlying kt=some kd) (a:α):∀ (M:MM α β) (i:Nat),
  Instr.findNow kd (ek a) (M.map (mE ek ev')) i=some ((fk a M i).map fun p=>(p.1,ev' p.2))
 | [],i=>rfl
 | e::M,i=>by
  have:=h kd hk a e.1
  simp only[List.map_cons,Instr.findNow,mE,this,fk]
  by_cases c:a=e.1
  ·simp[c]
  ·simp only[c,decide_false,if_false]
   exact KeyL.now_find h hk a M (i+1)
theorem KeyL.ask (K:KeyL P kt ek) (a:α):∀ (M:MM α β) (i:Nat) (w:World),(Instr.findAsking kt (ek a) (M.map (mE ek ev')) i).run P w=.ok ((fk a M i).map fun p=>(p.1,ev' p.2)) w
 | [],i,w=>rfl
 | e::M,i,w=>by
  simp only[List.map_cons,Instr.findAsking,mE,Sem.run_bind,K.eq,Result.andThen_ok,fk]
  by_cases c:a=e.1
  ·simp[c,Sem.run_pure]
  ·simp only[c,decide_false,if_false,Bool.false_eq_true]
   exact KeyL.ask K a M (i+1) w
theorem KeyL.find (K:KeyL P kt ek) (a:α) (M:MM α β) (w:World):(Instr.findKey kt (ek a) (M.map (mE ek ev'))).run P w=.ok ((fk a M 0).map fun p=>(p.1,ev' p.2)) w:=by
 obtain⟨kd,hk,h | h⟩:=K.now
 ·simp only[Instr.findKey,Sem.run_bind,run_underlying hk,Result.andThen_ok]
  cases M with
  | nil=>simp[Instr.findNow,fk,Sem.run_pure]
  | cons e M=>
   have:Instr.findNow kd (ek a) ((e::M).map (mE ek ev')) 0=none:=by simp[Instr.findNow,mE,h]
   rw[this]
   exact K.ask a (e::M) 0 w
 ·simp only[Instr.findKey,Sem.run_bind,run_underlying hk,Result.andThen_ok]
  rw[KeyL.now_find (fun kd' hk'=>by rw[hk]at hk'; cases hk'; exact h) hk]
  rfl
theorem fk_idx (a:α):∀ (M:MM α β) (i:Nat) (j:Nat) (v:β),fk a M i=some (j,v)→i≤j∧mdel a M=M.eraseIdx (j-i)∧∀ u,mmod a u M=M.modify (j-i) (fun e=>(a,u,e.2.2))
 | [],_,_,_,h=>by cases h
 | e::M,i,j,v,h=>by
  simp only[fk]at h
  by_cases c:a=e.1
  ·simp[c]at h
   obtain⟨rfl,rfl⟩:=h
   simp[mdel,mmod,c]
  ·simp only[c,if_false]at h
   obtain⟨h1,h2,h3⟩:=fk_idx a M (i+1) j v h
   have e1:j-i=(j-(i+1))+1:=by omega
   refine⟨by omega,?_,fun u=>?_⟩
   ·simp only[mdel,c,if_false,h2,e1,List.eraseIdx_cons_succ]
   ·simp only[mmod,c,if_false,h3 u,e1,List.modify_succ_cons]
theorem fk_none (a:α):∀ (M:MM α β) (i:Nat),fk a M i=none→mhas a M=false∧mdel a M=M
 | [],_,_=>⟨rfl,rfl⟩
 | e::M,i,h=>by
  simp only[fk]at h
  by_cases c:a=e.1
  ·simp[c]at h
  ·simp only[c,if_false]at h
   have:=fk_none a M (i+1) h
   simp[mhas,mdel,c,this]
end
section
variable {cx:Cx} {n:Nat} {ks:List (Nat×Value)} {O O' R R':List Own} {V:View} {P:Program} {ops:Array Oper} {Qn:Act→World→Prop} {t:Tr} {i d:Nat} {T:TypeId} {pos:String} {after:Array Edge} {gd:Option (Nat×Bool)} {x y z:Operand} {u v:Value} {wr:Bool}
theorem AtT.passU {o:Oper} {g:Nat} {want:Bool} {od:Oper} {gd:Nat} (ho:ops[i]? = some o) (hg:o.guard=some (g,want)) (hog:ops[g]? = some od) (hgd:od.dst=some gd) (hgv:look ks gd=some undef) (hd:o.dst=some d) (hn:d<n)
  (next:AtT cx n ((d,undef)::ks) O V P ops Qn t):AtT cx n ks O V P ops Qn (.q i t):=fun a w hk hm=>
 ⟨o,undef,ho,.inr ⟨by
  have:=hk.known gd _ hgv
  simp[Region.wanted,hg,yielded,hog,hgd,this,undef],rfl⟩,by rw[hd]; exact next _ w (hk.put hn undef) hm⟩
theorem AtT.passNU {o:Oper} {g:Nat} {want:Bool} {od:Oper} {gd:Nat} {wr:Bool} (ho:ops[i]? = some o) (hg:o.guard=some (g,want)) (hog:ops[g]? = some od) (hgd:od.dst=some gd) (hgv:look ks gd=some undef) (hd:o.dst=some d) (hn:d<n)
  (next:AtT cx n ((d,undef)::ks) O V P ops Qn t):AtT cx n ks O V P ops Qn (.n wr i t):=fun a w hk hm=>
 ⟨o,ho,by
  have:=hk.known gd _ hgv
  unfold stW
  rw[if_neg (by simp[Region.wanted,hg,yielded,hog,hgd,this,undef]),hd]
  exact⟨Mem cx O V,fun _ _ h=>h,hm,next _ w (hk.put hn undef) hm⟩⟩
theorem stepR_scope {P:Program} {b:Frame} {a:Act} {k:List Item} {cs:List Frame} {w:World} {c:Code} : step P (lone (b.atR a (.code (.scope c)::k)) cs w)=.next (lone (b.atR a (.code c::.inScope c::k)) cs w):=
 step_lone_go (by simp[stepG,stepG.exec,Frame.atR])
theorem stepR_inScope {P:Program} {b:Frame} {a:Act} {k:List Item} {cs:List Frame} {w:World} {c:Code} : step P (lone (b.atR a (.inScope c::k)) cs w)=.next (lone (b.atR a k) cs w):=
 step_lone_go (by simp[stepG,stepG.exec,Frame.atR])
def noGo (Q:Exit→Act→World→Prop):Exit→Act→World→Prop
 | .goto _,_,_=>False
 | .normal,a,w=>Q .normal a w
 | .ret,a,w=>Q .ret a w
 | .exit id,a,w=>Q (.exit id) a w
 | .panic c,a,w=>Q (.panic c) a w
 | .outgrown,a,w=>Q .outgrown a w
theorem wpIn_scope {F:Fence} {n:Nat} {P:Program} {Q:Exit→Act→World→Prop} {a:Act} {w:World} {c:Code} (h:c.wpIn F n P (noGo Q) a w):(Code.scope c).wpIn F n P Q a w:=by
 intro b k cs hro hb hr
 obtain⟨e,a₁,w₁,hq,harr⟩:=h b (.inScope c::k) cs hro hb hr
 have s0:StepsIn (Machine.fenced P F) P (lone (b.atR a (.code (.scope c)::k)) cs w) (lone (b.atR a (.code c::.inScope c::k)) cs w):=.one (fenced_calm hb hr rfl) stepR_scope
 cases e with
 | normal=>exact⟨.normal,a₁,w₁,hq,.of_steps s0 (StepsIn.trans harr (.one (fenced_calm hb hr rfl) stepR_inScope))⟩
 | exit id=>
  have ex:exitTo id (.inScope c::k)=exitTo id k:=by simp[exitTo]
  exact⟨_,a₁,w₁,hq,.of_steps s0 ⟨fun k' hk=>harr.1 k' (by rw[ex]; exact hk),fun hr hk=>harr.2 hr (by rw[ex]; exact hk)⟩⟩
 | goto l=>exact hq.elim
 | ret=>exact⟨_,a₁,w₁,hq,.of_steps s0 harr⟩
 | panic ch=>exact⟨_,a₁,w₁,hq,.of_steps s0 harr⟩
 | outgrown=>exact⟨_,a₁,w₁,hq,.of_steps s0 harr⟩
variable {ro:Option Nat} {Q:Exit→Act→World→Prop}
theorem At.scope {c:Code} (h:At cx n ks O V (c.wpIn (FW ro) 0 P (noGo Q))):At cx n ks O V ((Code.scope c).wpIn (FW ro) 0 P Q):=fun a w hk hm=>wpIn_scope (h a w hk hm)
theorem At.noN (h:At cx n ks O V (Q .normal)):At cx n ks O V (noGo Q .normal):=h
theorem At.noX {id:Nat} (h:At cx n ks O V (Q (.exit id))):At cx n ks O V (noGo Q (.exit id)):=h
theorem At.noR (h:At cx n ks O V (Q .ret)):At cx n ks O V (noGo Q .ret):=h
theorem At.nrm {K K':Act→World→Prop} (h:At cx n ks O V K') (f:At cx n ks O V K'→At cx n ks O V K:=by intro h; (repeat(first | with_reducible refine At.seq ?_ | with_reducible refine At.then ?_ | with_reducible refine At.block ?_ | with_reducible refine At.skip ?_ | with_reducible refine At.inN ?_ | with_reducible refine At.exit ?_ | with_reducible refine At.inX ?_ | with_reducible refine At.inY rfl ?_ | with_reducible refine At.thenX ?_ | with_reducible refine At.ret ?_ | with_reducible refine At.thenR ?_ | with_reducible refine At.inR ?_ | with_reducible refine At.label ?_ | with_reducible refine At.scope ?_ | with_reducible refine At.noN ?_ | with_reducible refine At.noX ?_ | with_reducible refine At.noR ?_)); exact h):At cx n ks O V K:=f h
theorem At.nrmB {K K':Act→World→Prop} (h:At cx n ks O V K') (f:At cx n ks O V K'→At cx n ks O V K:=by intro h; (repeat(first | with_reducible refine At.seq ?_ | with_reducible refine At.then ?_ | with_reducible refine At.skip ?_ | with_reducible refine At.inN ?_ | with_reducible refine At.exit ?_ | with_reducible refine At.inX ?_ | with_reducible refine At.inY rfl ?_ | with_reducible refine At.thenX ?_ | with_reducible refine At.ret ?_ | with_reducible refine At.thenR ?_ | with_reducible refine At.inR ?_ | with_reducible refine At.label ?_ | with_reducible refine At.scope ?_ | with_reducible refine At.noN ?_ | with_reducible refine At.noX ?_ | with_reducible refine At.noR ?_)); exact h):At cx n ks O V K:=f h
end
def AtC (cx:Cx) (n:Nat) (ks:List (Nat×Value)) (O:List Own) (V:View) (O1:List Own) (V1:View) (P:Program) (ops:Array Oper) (Qn:Act→World→Prop) (t:Tr):Prop:=
 Le cx.V0 V1→∀ a w,Kn cx n ks a→Mem cx O V w→wpT P ops Qn t (Mem cx O1 V1) a w
section
variable {cx:Cx} {n:Nat} {ks:List (Nat×Value)} {O O' R R' O1:List Own} {V V1:View} {P:Program} {ops:Array Oper} {Qn:Act→World→Prop} {t:Tr} {i d:Nat} {T:TypeId} {pos:String} {after:Array Edge} {gd:Option (Nat×Bool)} {x y z:Operand} {u v:Value} {wr:Bool}
theorem At.knows:AtT cx n ks O V P ops (fun a' _=>Kn cx n ks a') .done:=fun a w hk hm=>hk
theorem AtC.start (h:AtC cx n ks O V O V P ops Qn t):AtT cx n ks O V P ops Qn t:=fun a w hk hm=>h hm.le0 a w hk hm
theorem AtC.q (h:AtT cx n ks O1 V1 P ops (fun a' _=>Kn cx n ((d,v)::ks) a') (.q i .done)) (hne:∀ w,Mem cx O V w→Mem cx O1 V1 w) (next:AtC cx n ((d,v)::ks) O V O1 V1 P ops Qn t):AtC cx n ks O V O1 V1 P ops Qn (.q i t):=fun h0 a w hk hm=>by
 obtain⟨o,v',ho,hy,hk'⟩:=h a w hk (hne w hm)
 exact⟨o,v',ho,hy,next h0 _ w hk' hm⟩
theorem AtC.nz (h:AtT cx n ks O V P ops (fun a' w'=>Le cx.V0 V1→Mem cx O1 V1 w'∧wpT P ops Qn t (Mem cx O1 V1) a' w') (.n true i .done)):AtC cx n ks O V O1 V1 P ops Qn (.n false i t):=fun h0 a w hk hm=>by
 obtain⟨o,ho,hs⟩:=h a w hk hm
 exact⟨o,ho,qI (fun a' w' ⟨S',_,_,h3⟩=>⟨Mem cx O1 V1,fun _ _ h=>h,(h3 h0).1,(h3 h0).2⟩) hs⟩
theorem AtC.go {V':View} (hp:Pt O1 O') (hl:Le V1 V') (next:AtC cx n ks O' V' O1 V1 P ops Qn t):AtT cx n ks O' V' P ops (fun a' w'=>Le cx.V0 V1→Mem cx O1 V1 w'∧wpT P ops Qn t (Mem cx O1 V1) a' w') .done:=
 fun a w hk hm h0=>⟨(hm.part hp.part).less h0 hl,next h0 a w hk hm⟩
theorem AtC.sub1 {V':View} (hp:Pt O1 O') (hl:Le V1 V') (h0:Le cx.V0 V1):∀ w,Mem cx O' V' w→Mem cx O1 V1 w:=fun w hm=>(hm.part hp.part).less h0 hl
theorem idx_ex {α:Type} {X E:TypeId} {enc:α→List Value} {s:Nat} {l:List α} {k:IntKind} {j:Int} {ag:Bool} (ho:ops[i]? = some ⟨some d,.indexAddr X x y,T,pos,after,gd⟩) (hg:Gd ks ops gd) (hX:P.underlying X=some (.slice E)) (hE:tkB P E=some (ag,s))
  (hx:ev ks x=some v) (hl:Sl V enc s v l) (hy:ev ks y=some (.int k j)) (h0:0≤j) (h1:j<l.length) (hn:d<n) :
  ∃ (p:Addr) (e:α),l[j.toNat]? = some e∧Cells V p (enc e)∧∀ Qn t,AtT cx n ((d,.pointer (some p))::ks) O V P ops Qn t→AtT cx n ks O V P ops Qn (.q i t):=by
 obtain⟨a,cap,rfl,h2,h3,h4,h5⟩:=hl
 have hlt:j.toNat<l.length:=by omega
 cases a with
 | none=>exact absurd (h4 (by intro e; rw[e]at hlt; cases hlt)) (by simp)
 | some b=>
  have he:l[j.toNat]? = some (l[j.toNat]):=List.getElem?_eq_getElem hlt
  refine⟨b.add (j.toNat*s),_,he,h5 b rfl _ _ he,fun Qn t next=>?_⟩
  refine .q ho hg rfl hn (fun a w hk hm=>?_) next
  simp only[execOp,hk.ev hx,hk.ev hy]
  simp[Instr.indexAt,asIntOf,run_underlying hX,run_sizeOf hE,h0,h1]
theorem AtC.idx {α:Type} {X E:TypeId} {enc:α→List Value} {s:Nat} {l:List α} {k:IntKind} {j:Int} {ag:Bool} (ho:ops[i]? = some ⟨some d,.indexAddr X x y,T,pos,after,gd⟩) (hg:Gd ks ops gd) (hX:P.underlying X=some (.slice E)) (hE:tkB P E=some (ag,s))
  (hx:ev ks x=some v) (hl:Sl V1 enc s v l) (hy:ev ks y=some (.int k j)) (h0:0≤j) (h1:j<l.length) (hn:d<n) (hne:∀ w,Mem cx O V w→Mem cx O1 V1 w)
  (next:∀ (p:Addr) (e:α),l[j.toNat]? = some e→Cells V1 p (enc e)→AtC cx n ((d,.pointer (some p))::ks) O V O1 V1 P ops Qn t):AtC cx n ks O V O1 V1 P ops Qn (.q i t):=by
 obtain⟨p,e,g1,g2,g3⟩:=idx_ex (cx:=cx) (n:=n) (O:=O1) (P:=P) (ops:=ops) (i:=i) (d:=d) (T:=T) (pos:=pos) (after:=after) (gd:=gd) (y:=y) ho hg hX hE hx hl hy h0 h1 hn
 exact AtC.q (g3 _ _ At.knows) hne (next p e g1 g2)
theorem AtC.done (h:At cx n ks O V Qn):AtC cx n ks O V O1 V1 P ops Qn .done:=fun _ a w hk hm=>h a w hk hm
theorem AtC.pre (h:Le cx.V0 V1→AtC cx n ks O V O1 V1 P ops Qn t):AtC cx n ks O V O1 V1 P ops Qn t:=fun h0=>h h0 h0
theorem AtC.br {is:List Nat} {f:Nat→Tr} (h:∀ i∈is,AtC cx n ks O V O1 V1 P ops Qn (.n false i (f i))):AtC cx n ks O V O1 V1 P ops Qn (.br is f):=fun h0 a w hk hm i hi=>by
 obtain⟨o,ho,hs⟩:=h i hi h0 a w hk hm
 exact⟨o,ho,qI (fun a' w' ⟨S',h1,h2,h3⟩=>⟨S',h1 rfl,h2,h3⟩) hs⟩
theorem AtT.two {i j:Nat} {t u:Tr} (h1:AtT cx n ks O V P ops Qn (.n false i t)) (h2:AtT cx n ks O V P ops Qn (.n false j u)):AtT cx n ks O V P ops Qn (.two i t j u):=fun a w hk hm=>by
 obtain⟨o,ho,hs⟩:=h1 a w hk hm
 obtain⟨o',ho',hs'⟩:=h2 a w hk hm
 exact⟨⟨o,ho,qI (fun a' w' ⟨S',h1,h2,h3⟩=>⟨S',h1 rfl,h2,h3⟩) hs⟩,o',ho',qI (fun a' w' ⟨S',h1,h2,h3⟩=>⟨S',h1 rfl,h2,h3⟩) hs'⟩
theorem AtC.two {i j:Nat} {t u:Tr} (h1:AtC cx n ks O V O1 V1 P ops Qn (.n false i t)) (h2:AtC cx n ks O V O1 V1 P ops Qn (.n false j u)):AtC cx n ks O V O1 V1 P ops Qn (.two i t j u):=fun h0 a w hk hm=>by
 obtain⟨o,ho,hs⟩:=h1 h0 a w hk hm
 obtain⟨o',ho',hs'⟩:=h2 h0 a w hk hm
 exact⟨⟨o,ho,qI (fun a' w' ⟨S',h1,h2,h3⟩=>⟨S',h1 rfl,h2,h3⟩) hs⟩,o',ho',qI (fun a' w' ⟨S',h1,h2,h3⟩=>⟨S',h1 rfl,h2,h3⟩) hs'⟩
theorem At.drawC {ro:Option Nat} {Q:Exit→Act→World→Prop} {id:Nat} {ops:Array Oper} (O1:List Own) (t:Tr) (hm:P.follows .mixedOrders=true) (hc:t.okDraw ops=true) (hp1:Pt O1 O) (h:AtC cx n ks O V O1 V P ops (Q .normal) t) :
  At cx n ks O V ((Code.region id ops true).wpIn (FW ro) 0 P Q):=fun a w hk hw=>
 have hd:Mem cx O V w.drew:=hw.ext (Below.refl _ w).drew
 wp_region_drawn t hm hc (Mem cx O1 V) (hd.part hp1.part) (h hw.le0 a w.drew hk hd)
theorem AtT.callL {f:FuncId} {args:List Operand} {ts:Array TypeId} {vs:List Value} {R:Value→Prop} (ho:ops[i]? = some ⟨some d,.call ⟨.value (.func f),args.toArray,ts⟩,T,pos,after,gd⟩) (hg:Gd ks ops gd) (ha:evs ks args=some vs) (hf:zy P f) (hn:d<n)
  (hc:∀ V',Le V V'→(∀ b o,Own.blk b o∈O→V' b=some o)→Fnc P f vs V' (fun v _=>R v)) (next:∀ v,R v→AtT cx n ((d,v)::ks) O V P ops Qn t):AtT cx n ks O V P ops Qn (.n wr i t):=
 .x ho hg fun a w hk hm=>by
  have e:args.toArray.map a.eval=vs.toArray:=by rw[←xB hk args vs ha]; simp
  have e2:a.eval (.func f)=.func (.func f) #[] #[]:=rfl
  simp only[opW,execOp,resolve,e,e2,Deferred.ofValue,Sem.run_bind,Sem.run_pure,Result.andThen_ok,invoke,Array.empty_append,Array.append_empty]
  rw[hf vs.toArray w]
  have hO:∀ b o,Own.blk b o∈O→hp w b=some o:=fun b o hb=>by
   obtain⟨l1,l2,rfl⟩:=List.append_of_mem hb
   exact(hm.perm List.perm_middle).blk
  refine(hc (hp w) hm.view hO w (Le.refl _)).mono fun e w' ⟨v,V',h1,h2,h3,h4,h5,h6⟩=>?_
  subst h1
  exact⟨_,O,V,hk.put hn v,hm.ext h2,fun _ u hu=>hu,next v h6⟩
theorem AtT.eqS {X Y:TypeId} {xs ys:List Value} {b:Bool} (ho:ops[i]? = some ⟨some d,.binOp .eql X x y Y,T,pos,after,gd⟩) (hg:Gd ks ops gd) (hx:ev ks x=some (.agg xs.toArray)) (hy:ev ks y=some (.agg ys.toArray)) (h:EqS P X xs ys b) (hn:d<n)
  (next:AtT cx n ((d,.bool b)::ks) O V P ops Qn t):AtT cx n ks O V P ops Qn (.q i t):=
 .q ho hg rfl hn (fun a w hk hm=>by simp only[execOp,hk.ev hx,hk.ev hy,Sem.run_bind,run_eqGuard_agg _ _ _ _ _ _ _ h.1,run_eql_struct,h.2,Result.andThen_ok,Sem.run_pure]) next
theorem AtT.ixV {X:TypeId} {us:List Value} {u v:Value} (ho:ops[i]? = some ⟨some d,.index X x y,T,pos,after,gd⟩) (hg:Gd ks ops gd) (hx:ev ks x=some (.agg us.toArray)) (hy:ev ks y=some u) (hr:∀ w,(Instr.index X (.agg us.toArray) u).run P w=.ok v w) (hn:d<n)
  (next:AtT cx n ((d,v)::ks) O V P ops Qn t):AtT cx n ks O V P ops Qn (.q i t):=
 .q ho hg rfl hn (fun a w hk hm=>by simp only[execOp,hk.ev hx,hk.ev hy,Sem.run_bind,hr,Result.andThen_ok,Sem.run_pure]) next
variable {α β:Type} [DecidableEq α] {kt et:TypeId} {ek:α→Value} {ev':β→Value} {M:MM α β} {c b:Nat}
theorem AtT.makeMap {X:TypeId} (ho:ops[i]? = some ⟨some d,.makeMap X none,T,pos,after,gd⟩) (hg:Gd ks ops gd) (ek:α→Value) (ev':β→Value) (hn:d<n)
  (next:∀ b,AtT cx n ((d,.map (some b))::ks) (.blk b (jC ek ev' [] 0)::O) V P ops Qn t):AtT cx n ks O V P ops Qn (.n wr i t):=
 .x ho hg fun a w hk hm=>by
  simp only[opW,execOp,Instr.makeMap,Option.map_none,Sem.run_bind,Sem.run_pure,Result.andThen_ok,run_newObj]
  exact⟨_,.blk w.heap.size (.map #[] 0)::O,V,hk.put hn _,hm.alloc _,fun _ u hu=>hu.drop,next _⟩
theorem qN {w:World} {b:Nat} {es:Array MapEntry} {c:Nat} (h:w.heap[b]? = some (.map es c)):(getObj b).run P w=.ok (.map es c) w:=by simp[getObj,Sem.run,h]
theorem run_setMap {w:World} {b:Nat} {es:Array MapEntry} {c:Nat} (o':Obj) (h:w.heap[b]? = some (.map es c)):(setObj b o').run P w=.ok () (w.putObj b o'):=by simp[setObj,Sem.run,h,World.putObj]
theorem AtT.mapNew {X:TypeId} (ho:ops[i]? = some ⟨none,.mapUpdate X x y z,T,pos,after,gd⟩) (hg:Gd ks ops gd) (K:KeyL P kt ek) (a:α) (vb:β) (hX:P.underlying X=some (.map kt et)) (hx:ev ks x=some (.map (some b))) (hy:ev ks y=some (ek a)) (hz:ev ks z=some (ev' vb)) (hnew:fk a M 0=none) (hp:Upd (.blk b (jC ek ev' M c)) (.blk b (jC ek ev' (M++[(a,vb,c)]) (c+1))) O O')
  (next:AtT cx n ks O' V P ops Qn t):AtT cx n ks O V P ops Qn (.n true i t):=
 .x ho hg fun a' w hk hm=>by
  obtain⟨R,p1,p2⟩:=hp.perm
  have hm1:=hm.perm p1
  simp only[opW,execOp,hk.ev hx,hk.ev hy,hk.ev hz,Instr.mapUpdate,Sem.run_bind,run_underlying hX,Result.andThen_ok,qN hm1.blk,jC,K.ck,K.find a M,List.toList_toArray,hnew,Option.map_none,run_setMap _ hm1.blk,Sem.run_pure]
  refine⟨ks,O',V,hk,Mem.perm (O:=.blk b (jC ek ev' (M++[(a,vb,c)]) (c+1))::R) ?_ p2.symm,fun h=>(by cases h),next⟩
  have e:(Obj.map ((M.map (mE ek ev')).toArray.push { key:=ek a,val:=ev' vb,born:=c }) (c+1))=jC ek ev' (M++[(a,vb,c)]) (c+1):=by simp[jC,mE]
  rw[e]
  exact hm1.put
theorem AtT.mapOld {X:TypeId} {j:Nat} {v0:β} (ho:ops[i]? = some ⟨none,.mapUpdate X x y z,T,pos,after,gd⟩) (hg:Gd ks ops gd) (K:KeyL P kt ek) (a:α) (vb:β) (hX:P.underlying X=some (.map kt et)) (hx:ev ks x=some (.map (some b))) (hy:ev ks y=some (ek a)) (hz:ev ks z=some (ev' vb)) (hold:fk a M 0=some (j,v0)) (hk0:∀ e,M[j]? = some e→e.1=a) (hp:Upd (.blk b (jC ek ev' M c)) (.blk b (jC ek ev' (mmod a vb M) c)) O O')
  (next:AtT cx n ks O' V P ops Qn t):AtT cx n ks O V P ops Qn (.n true i t):=
 .x ho hg fun a' w hk hm=>by
  obtain⟨R,p1,p2⟩:=hp.perm
  have hm1:=hm.perm p1
  have hkey:((((M.map (mE ek ev')).toArray)[j]?).map (·.key)).getD (ek a)=ek a:=by
   simp only[List.getElem?_toArray,List.getElem?_map]
   cases hj:M[j]? with
   | none=>rfl
   | some e=>simp[mE,hk0 e hj]
  have hst:(Instr.keyThatStays (ek a) (ek a)).run P w=.ok (ek a) w:=by simp[Instr.keyThatStays,K.sb,Sem.run_pure]
  simp only[opW,execOp,hk.ev hx,hk.ev hy,hk.ev hz,Instr.mapUpdate,Sem.run_bind,run_underlying hX,Result.andThen_ok,qN hm1.blk,jC,K.ck,K.find a M,List.toList_toArray,hold,Option.map_some,hkey,hst,run_setMap _ hm1.blk,Sem.run_pure]
  refine⟨ks,O',V,hk,Mem.perm (O:=.blk b (jC ek ev' (mmod a vb M) c)::R) ?_ p2.symm,fun h=>(by cases h),next⟩
  have h3:=(fk_idx a M 0 j v0 hold).2.2 vb
  have e:(Obj.map ((M.map (mE ek ev')).toArray.modify j fun e=>{ e with key:=ek a,val:=ev' vb }) c)=jC ek ev' (mmod a vb M) c:=by
   simp only[jC,h3,Nat.sub_zero]
   congr 1
   apply Array.ext'
   simp only[Array.toList_modify]
   apply List.ext_getElem?
   intro q
   simp only[List.getElem?_map,List.getElem?_modify]
   cases M[q]? with
   | none=>rfl
   | some e=>by_cases hq:j=q<;>simp[hq,mE]
  rw[e]
  exact hm1.put
theorem eraseIdx_map' {α β:Type} (f:α→β):∀ (l:List α) (k:Nat),(l.map f).eraseIdx k=(l.eraseIdx k).map f
 | [],_=>rfl
 | _::_,0=>rfl
 | _::l,k+1=>by simp[eraseIdx_map' f l k]
theorem AtT.mapDel {X:TypeId} {ts:Array TypeId} (ho:ops[i]? = some ⟨none,.call ⟨.builtin .delete,#[x,y],ts⟩,T,pos,after,gd⟩) (hg:Gd ks ops gd) (K:KeyL P kt ek) (a:α) (ev':β→Value) (hts:ts[0]? = some X) (hX:P.underlying X=some (.map kt et)) (hx:ev ks x=some (.map (some b))) (hy:ev ks y=some (ek a)) (hp:Upd (.blk b (jC ek ev' M c)) (.blk b (jC ek ev' (mdel a M) c)) O O')
  (next:AtT cx n ks O' V P ops Qn t):AtT cx n ks O V P ops Qn (.n true i t):=
 .x ho hg fun a' w hk hm=>by
  obtain⟨R,p1,p2⟩:=hp.perm
  have hm1:=hm.perm p1
  have e0:(#[x,y]:Array Operand).map a'.eval=#[.map (some b),ek a]:=by simp[hk.ev hx,hk.ev hy]
  have e1:(#[Value.map (some b),ek a]:Array Value)[0]? = some (.map (some b)):=rfl
  have e2:(#[Value.map (some b),ek a]:Array Value)[1]? = some (ek a):=rfl
  have goal:∀ w',w'=w.putObj b (jC ek ev' (mdel a M) c)→∃ ks' O'' V',Kn cx n ks' (a'.put none (.tuple #[]))∧Mem cx O'' V' w'∧(true=false→∀ (u:World),Mem cx O'' V' u→Mem cx O V u)∧AtT cx n ks' O'' V' P ops Qn t:=fun w' e=>by
   subst e
   exact⟨ks,O',V,hk,hm1.put.perm p2.symm,fun h=>(by cases h),next⟩
  simp only[opW,execOp,resolve,e0,Sem.run_bind,Sem.run_pure,Result.andThen_ok,invoke,builtin,Builtin.delete_,hts,e1,e2,run_underlying hX,qN hm1.blk,jC,K.ck,K.find a M,List.toList_toArray]
  cases hf:fk a M 0 with
  | none=>
   simp only[Option.map_none,Sem.run_bind,run_setMap _ hm1.blk,Result.andThen_ok,Sem.run_pure]
   refine goal _ ?_
   rw[(fk_none a M 0 hf).2]; rfl
  | some p=>
   simp only[Option.map_some,Sem.run_bind,run_setMap _ hm1.blk,Result.andThen_ok,Sem.run_pure]
   refine goal _ ?_
   congr 1
   have:=(fk_idx a M 0 p.1 p.2 hf).2.1
   simp only[jC,this,Nat.sub_zero]
   congr 1
   apply Array.ext'
   simp only[Array.toList_eraseIdxIfInBounds,List.toList_toArray]
   exact eraseIdx_map' _ _ _
theorem AtT.range {X:TypeId} (ho:ops[i]? = some ⟨some d,.range X x,T,pos,after,gd⟩) (hg:Gd ks ops gd) (hX:P.underlying X=some (.map kt et)) (hx:ev ks x=some (.map (some b))) (hp:zM (.blk b (jC ek ev' M c)) O R) (hn:d<n)
  (next:∀ r,AtT cx n ((d,.pointer (some ⟨r,0,none⟩))::ks) (.blk r (.mapIter (some b) c #[] c)::O) V P ops Qn t):AtT cx n ks O V P ops Qn (.n wr i t):=
 .x ho hg fun a w hk hm=>by
  have hb:w.heap[b]? = some (.map (M.map (mE ek ev')).toArray c):=(hm.pick hp).blk
  simp only[opW,execOp,hk.ev hx,Instr.range,Sem.run_bind,run_underlying hX,Result.andThen_ok,qN hb,Sem.run_pure,run_newObj]
  exact⟨_,.blk w.heap.size (.mapIter (some b) c #[] c)::O,V,hk.put hn _,hm.alloc _,fun _ u hu=>hu.drop,next _⟩
theorem AtT.next {r since c0:Nat} {seen:Array Nat} (ho:ops[i]? = some ⟨some d,.next x false,T,pos,after,gd⟩) (hg:Gd ks ops gd) (hx:ev ks x=some (.pointer (some ⟨r,0,none⟩))) (hr:zM (.blk r (.mapIter (some b) since seen c0)) O R) (hb:zM (.blk b (jC ek ev' M c)) R R') (hold:∀ e∈M,e.2.2<since) (hsc:since≤c0) (hn:d<n)
  (next1:(∀ e∈M,e.2.2∈seen)→AtT cx n ((d,.tuple #[.bool false])::ks) O V P ops Qn t)
  (next2:∀ e∈M,e.2.2∉seen→AtT cx n ((d,.tuple #[.bool true,ek e.1,ev' e.2.1])::ks) (.blk r (.mapIter (some b) since (seen.push e.2.2) c)::R) V P ops Qn t):AtT cx n ks O V P ops Qn (.n true i t):=
 .x ho hg fun a w hk hm=>by
  have hm1:=hm.pick hr
  have hm2:w.heap[b]? = some (.map (M.map (mE ek ev')).toArray c):=(hm1.perm (((hb.perm).cons _).trans (.swap _ _ _))).blk
  have h:=run_next_at (P:=P) w T r b since c0 seen _ c hm1.blk hm2 (fun x hx=>by
   simp only[List.toList_toArray,List.mem_map]at hx
   obtain⟨e,he,rfl⟩:=hx
   exact hold e he) hsc
  rcases h with ⟨h0,h1⟩ | ⟨e,he,w1,hw1,h1⟩
  ·simp only[opW,execOp,hk.ev hx,Sem.run_bind,h1,Result.andThen_ok,Sem.run_pure]
   refine⟨_,O,V,hk.put hn _,hm,fun h=>(by cases h),next1 fun e he=>?_⟩
   have h0':=Array.eq_empty_of_size_eq_zero h0
   unfold leftOf at h0'
   rw[Array.filter_eq_empty_iff]at h0'
   have:=h0' (mE ek ev' e) (by rw[List.mem_toArray]; exact List.mem_map_of_mem he)
   simpa [mE]using this
  ·simp only[opW,execOp,hk.ev hx,Sem.run_bind,h1,Result.andThen_ok,Sem.run_pure]
   unfold leftOf at he
   simp only[Array.toList_filter,List.mem_filter,List.toList_toArray,List.mem_map]at he
   obtain⟨⟨q,hq,rfl⟩,hs⟩:=he
   have hmw:Mem cx (.blk r (.mapIter (some b) since seen c0)::R) V w1:=by
    rcases hw1 with rfl | rfl
    ·exact hm1
    ·exact hm1.ext (Below.refl _ w).drew
   exact⟨_,.blk r (.mapIter (some b) since (seen.push q.2.2) c)::R,V,hk.put hn _,hmw.put,fun h=>(by cases h),next2 q hq (by simpa [mE]using hs)⟩
theorem AtT.entry {r since:Nat} {seen:Array Nat} {e:α×β×Nat} (ho:ops[i]? = some ⟨some d,.entry x,T,pos,after,gd⟩) (hg:Gd ks ops gd) (hx:ev ks x=some (.pointer (some ⟨r,0,none⟩))) (hr:zM (.blk r (.mapIter (some b) since (seen.push e.2.2) c)) O R) (hb:zM (.blk b (jC ek ev' M c)) R R') (he:e∈M) (hnd:(M.map (·.2.2)).Nodup) (hn:d<n)
  (next:AtT cx n ((d,.tuple #[ek e.1,ev' e.2.1])::ks) O V P ops Qn t):AtT cx n ks O V P ops Qn (.n wr i t):=
 .x ho hg fun a w hk hm=>by
  have hm1:=hm.pick hr
  have hm2:w.heap[b]? = some (.map (M.map (mE ek ev')).toArray c):=(hm1.perm (((hb.perm).cons _).trans (.swap _ _ _))).blk
  have h:=run_entry_at (P:=P) w r b since seen _ c (mE ek ev' e) hm1.blk hm2 (by rw[List.toList_toArray]; exact List.mem_map_of_mem he) (by simpa [Function.comp_def,mE]using hnd)
  simp only[opW,execOp,hk.ev hx,Sem.run_bind,h,Result.andThen_ok,Sem.run_pure]
  exact⟨_,O,V,hk.put hn _,hm,fun _ u hu=>hu,next⟩
end
end Go.Lw
end
section
set_option linter.unusedVariables false
set_option linter.unusedSimpArgs false
set_option linter.unusedSectionVars false
namespace Go.Lw
open Go.RowKit
theorem made_flat {α:Type} {enc:α→List Value} {z:α} {c:Array Value} (hz:enc z=c.toList) (hs:0<c.size):∀ n:Nat,(madeCells c (n*c.size)).toList=flat enc (List.replicate n z)
 | 0=>by simp[madeCells,flat]
 | n+1=>by
  have ih:=made_flat hz hs n
  simp only[madeCells,Array.toList_map,Array.toList_range]at ih⊢
  have e:(n+1)*c.size=n*c.size+c.size:=by rw[Nat.add_mul,Nat.one_mul]
  rw[e,List.range_add,List.map_append,ih,List.replicate_succ',show flat enc (List.replicate n z++[z])=flat enc (List.replicate n z)++enc z from by simp[flat],hz]
  congr 1
  rw[List.map_map]
  apply List.ext_getElem
  ·simp
  ·intro i h1 h2
   simp at h1
   simp[Nat.mod_eq_of_lt h1,h1]
section
variable {cx:Cx} {n:Nat} {ks:List (Nat×Value)} {O O' R R':List Own} {V:View} {P:Program} {ops:Array Oper} {Qn:Act→World→Prop} {t:Tr} {i d:Nat} {T:TypeId} {pos:String} {after:Array Edge} {gd:Option (Nat×Bool)} {x y z:Operand} {u v:Value} {wr:Bool}
theorem AtT.makeSl {α:Type} {enc:α→List Value} {za:α} {X E:TypeId} {zv:Value} {s by_ m:Nat} {k1 k2:IntKind} (ho:ops[i]? = some ⟨some d,.makeSlice X x y,T,pos,after,gd⟩) (hg:Gd ks ops gd) (enc':α→List Value) (he:enc'=enc) (hX:P.underlying X=some (.slice E)) (hE:rowB P E=some (zv,s,by_)) (hz:enc za=zv.cells.toList) (hs:zv.cells.size=s) (h0:0<s)
  (hx:ev ks x=some (.int k1 m)) (hy:ev ks y=some (.int k2 m)) (hby:by_*m≤281474976710656) (hm:m≤9223372036854775807) (hn:d<n)
  (next:∀ b,AtT cx n ((d,.slice (some ⟨b,0,none⟩) m m)::ks) (.blk b (LC (flat enc (List.replicate m za)) E)::O) V P ops Qn t):AtT cx n ks O V P ops Qn (.n wr i t):=
 .x ho hg fun a w hk hmm=>by
  obtain⟨ti,hi,hzz,hsz,hbz⟩:=rowB_info hE
  have hb':(ti.bytes:Int)*(m:Int)≤281474976710656:=by
   rw[hbz]
   have h:((by_*m:Nat):Int)≤281474976710656:=by omega
   rwa[Int.natCast_mul]at h
  have hr':=run_make (P:=P) w X E ti zv hX hi hzz k1 k2 m m (by omega) (Int.le_refl _) hb' (by omega)
  simp only[Int.toNat_natCast]at hr'
  have e:(Obj.cells (madeCells zv.cells (m*ti.size)) E)=LC (flat enc (List.replicate m za)) E:=by
   rw[hsz,←hs]
   show Obj.cells _ E (0,0)=Obj.cells _ E (0,0)
   congr 1
   rw[←made_flat hz (by omega) m]
  simp only[opW,execOp,hk.ev hx,hk.ev hy,Sem.run_bind,hr',Result.andThen_ok,Sem.run_pure,e]
  exact⟨_,.blk w.heap.size _::O,V,hk.put hn _,hmm.alloc _,fun _ u hu=>hu.drop,next _⟩
theorem AtT.copyO {α:Type} {enc:α→List Value} {X Y E:TypeId} {s b c:Nat} {ag:Bool} {m:List α} {cs:List Value} (ho:ops[i]? = some ⟨some d,.call ⟨.builtin .copy,#[x,y],#[X,Y]⟩,T,pos,after,gd⟩) (hg:Gd ks ops gd) (hX:P.underlying X=some (.slice E)) (hE:tkB P E=some (ag,s))
  (hx:ev ks x=some (.slice (some ⟨b,0,none⟩) m.length c)) (hy:ev ks y=some v) (hv:Sl V enc s v m) (he:∀ x,(enc x).length=s) (h1:∀ x,(enc x).all Value.oneCell'=true) (hl:cs.length=m.length*s) (hup:Upd (.blk b (LC cs E)) (.blk b (LC (flat enc m) E)) O O') (hn:d<n)
  (next:AtT cx n ((d,goInt m.length)::ks) O' V P ops Qn t):AtT cx n ks O V P ops Qn (.n true i t):=
 .x ho hg fun a w hk hm=>by
  obtain⟨R,p1,p2⟩:=hup.perm
  have hm1:=hm.perm p1
  have e0:(#[x,y]:Array Operand).map a.eval=#[.slice (some ⟨b,0,none⟩) m.length c,v]:=by simp[hk.ev hx,hk.ev hy]
  have hfl:(flat enc m).length=m.length*s:=zJ he m
  have hall:∀ u∈flat enc m,u.oneCell'=true:=by
   intro u hu
   simp only[flat,List.mem_flatMap]at hu
   obtain⟨q,_,hq⟩:=hu
   exact List.all_eq_true.1 (h1 q) u hq
  obtain⟨w',hr,hgr,hh⟩:=qi (P:=P) (flat enc m) 0 0 cs w hm1.blk (by omega) hall
  have hcs:cs.take (0+0)++flat enc m++cs.drop (0+0+(flat enc m).length)=flat enc m:=by
   rw[hfl,←hl]; simp
  rw[hcs]at hh
  have hload:∀ (w:World),Le V (hp w)→(Builtin.firstCells s m.length v).run P w=.ok (flat enc m).toArray w:=fun w hw=>by
   obtain⟨a0,cap,rfl,h2,h3,h4,h5⟩:=hv
   cases a0 with
   | none=>
    have:m=[]:=by cases m with | nil=>rfl | cons _ _=>exact absurd (h4 (by simp)) (by simp)
    subst this
    simp[Builtin.firstCells,flat,Sem.run_pure]
   | some p=>
    have hc:Cells V p (flat enc m):=Sl.cells he ⟨some p,cap,rfl,h2,h3,h4,h5⟩
    have:=run_loadCells_list (P:=P) w p (flat enc m) (Cells.run hc hw)
    rw[hfl]at this
    simpa [Builtin.firstCells]using this
  obtain⟨a0,cap,hva,_⟩:=id hv
  have hlen:∀ w,(Builtin.lenOf v).run P w=.ok m.length w:=fun w=>by rw[hva]; rfl
  simp only[opW,execOp,resolve,e0,Sem.run_bind,Sem.run_pure,Result.andThen_ok,invoke,builtin,Builtin.copy_]
  have e1:(#[X,Y]:Array TypeId)[0]? = some X:=rfl
  have e2:(#[Value.slice (some ⟨b,0,none⟩) m.length c,v]:Array Value)[0]? = some (Value.slice (some ⟨b,0,none⟩) m.length c):=rfl
  have e3:(#[Value.slice (some ⟨b,0,none⟩) m.length c,v]:Array Value)[1]? = some v:=rfl
  have e4:Nat.min m.length m.length=m.length:=Nat.min_self _
  simp only[e1,e2,e3,Sem.run_bind,run_underlying hX,Result.andThen_ok,hlen,run_sizeOf hE,e4,hload w hm.view,Sem.run_pure,hr]
  exact⟨_,O',V,hk.put hn _,(hm1.set hgr hh).perm p2.symm,fun h=>(by cases h),next⟩
theorem AtT.slV {X:TypeId} {u:Value} (ho:ops[i]? = some ⟨some d,.slice X x none none none,T,pos,after,gd⟩) (hg:Gd ks ops gd) (hx:ev ks x=some v) (hr:∀ w,(Instr.sliceAt X v none none none).run P w=.ok u w) (hn:d<n)
  (next:AtT cx n ((d,u)::ks) O V P ops Qn t):AtT cx n ks O V P ops Qn (.q i t):=
 .q ho hg rfl hn (fun a w hk hm=>by simp only[execOp,hk.ev hx,Option.map_none,Sem.run_bind,hr,Result.andThen_ok,Sem.run_pure]) next
end
theorem flat_set {α:Type} {enc:α→List Value} {s:Nat} (he:∀ x,(enc x).length=s):∀ (l:List α) (i:Nat) (r:α),i<l.length→(flat enc l).take (i*s)++enc r++(flat enc l).drop (i*s+s)=flat enc (l.set i r)
 | x::l,0,r,_=>by
  simp only[Nat.zero_mul,List.take_zero,List.nil_append,Nat.zero_add,List.set_cons_zero,flat,List.flatMap_cons]
  rw[List.drop_append,he x,Nat.sub_self,List.drop_eq_nil_of_le (by rw[he x]; exact Nat.le_refl _)]; simp
 | x::l,i+1,r,h=>by
  have ih:=flat_set he l i r (by simpa using h)
  simp only[flat,List.flatMap_cons,List.set_cons_succ]at ih⊢
  rw[←ih]
  have e1:(i+1)*s=s+i*s:=by rw[Nat.add_mul,Nat.one_mul,Nat.add_comm]
  have e2:s+i*s+s=s+(i*s+s):=by omega
  rw[e1,e2]
  rw[List.take_append,List.drop_append,he x]
  rw[List.take_of_length_le (by rw[he x]; omega),List.drop_eq_nil_of_le (by rw[he x]; omega)]
  simp[Nat.add_sub_cancel_left,List.append_assoc]
theorem setAt_of {l l':List Value} {n:Nat} {v:Value} (hl:n<l.length) (h:l.set n v=l'):SetAt l n v l':=by
 subst h
 induction l generalizing n with
 | nil=>simp at hl
 | cons x l ih=>
  cases n with
  | zero=>exact .here
  | succ n=>exact .there (ih (by simpa using hl))
end Go.Lw
end
section
set_option linter.unusedVariables false
namespace Go.Lw
open Go.RowKit
def SubF:List Nat→List (Nat×Value)→List (Nat×Value)→Prop
 | _,[],_=>True
 | seen,(i,v)::l,ks=>(bif seen.contains i then True else look ks i=some v)∧SubF (i::seen) l ks
theorem SubF.look:∀ {ks':List (Nat×Value)} {seen:List Nat} {ks:List (Nat×Value)},SubF seen ks' ks→∀ i v,seen.contains i=false→look ks' i=some v→Go.Lw.look ks i=some v
 | [],_,_,_,i,v,_,hv=>by cases hv
 | (j,u)::l,seen,ks,h,i,v,hs,hv=>by
  simp only[Go.Lw.look]at hv
  cases hb:Nat.beq j i with
  | true=>
   rw[hb]at hv; simp at hv; subst hv
   have:=Nat.eq_of_beq_eq_true hb; subst this
   have h1:=h.1
   rw[hs]at h1; exact h1
  | false=>
   rw[hb]at hv; simp at hv
   refine SubF.look h.2 i v ?_ hv
   have hne:i≠j:=fun e=>by subst e; rw[Nat.beq_refl]at hb; cases hb
   simp only[List.contains_cons,hs,Bool.or_false,beq_eq_false_iff_ne]
   exact hne
section
variable {cx:Cx} {n:Nat} {ks:List (Nat×Value)} {O:List Own} {V:View} {P:Program} {ops:Array Oper} {Q:Exit→Act→World→Prop} {ro:Option Nat} {id:Nat}
variable {Qn:Act→World→Prop} {t:Tr} {O1:List Own} {V1:View}
theorem Kn.set {cx:Cx} {n:Nat} {ks:List (Nat×Value)} {a:Act} {d:Nat} {v v':Value} (hk:Kn cx n ks a) (hd:look ks d=some v) (e:v=v'):Kn cx n ((d,v')::ks) a:=by
 subst e
 exact⟨hk.defers,hk.size,fun i u hv=>by
  simp only[look]at hv
  cases hb:Nat.beq d i with
  | true=>rw[hb]at hv; simp at hv; subst hv; have:=Nat.eq_of_beq_eq_true hb; subst this; exact hk.known _ _ hd
  | false=>rw[hb]at hv; simp at hv; exact hk.known _ _ hv⟩
theorem AtT.qx {d:Nat} {p:Prop} [Decidable p] (hd:look ks d=some (.bool (decide p))) (hp:¬ p) (h:AtT cx n ((d,.bool false)::ks) O V P ops Qn t):AtT cx n ks O V P ops Qn t:=fun a w hk hm=>h a w (hk.set hd (by rw[decide_eq_false hp])) hm
theorem AtT.kR {d:Nat} {p:Prop} [Decidable p] (hd:look ks d=some (.bool (decide p))) (hp:p) (h:AtT cx n ((d,.bool true)::ks) O V P ops Qn t):AtT cx n ks O V P ops Qn t:=fun a w hk hm=>h a w (hk.set hd (by rw[decide_eq_true hp])) hm
theorem AtT.setB {d:Nat} {b c:Bool} (hd:look ks d=some (.bool b)) (hp:b=c) (h:AtT cx n ((d,.bool c)::ks) O V P ops Qn t):AtT cx n ks O V P ops Qn t:=fun a w hk hm=>h a w (hk.set hd (by rw[hp])) hm
theorem AtC.qx {d:Nat} {p:Prop} [Decidable p] (hd:look ks d=some (.bool (decide p))) (hp:¬ p) (h:AtC cx n ((d,.bool false)::ks) O V O1 V1 P ops Qn t):AtC cx n ks O V O1 V1 P ops Qn t:=fun h0 a w hk hm=>h h0 a w (hk.set hd (by rw[decide_eq_false hp])) hm
theorem AtC.kR {d:Nat} {p:Prop} [Decidable p] (hd:look ks d=some (.bool (decide p))) (hp:p) (h:AtC cx n ((d,.bool true)::ks) O V O1 V1 P ops Qn t):AtC cx n ks O V O1 V1 P ops Qn t:=fun h0 a w hk hm=>h h0 a w (hk.set hd (by rw[decide_eq_true hp])) hm
theorem AtC.setB {d:Nat} {b c:Bool} (hd:look ks d=some (.bool b)) (hp:b=c) (h:AtC cx n ((d,.bool c)::ks) O V O1 V1 P ops Qn t):AtC cx n ks O V O1 V1 P ops Qn t:=fun h0 a w hk hm=>h h0 a w (hk.set hd (by rw[hp])) hm
theorem AtC.zD {d:Nat} {b:Bool} (hd:look ks d=some (.bool b)) (ht:b=true→AtC cx n ((d,.bool true)::ks) O V O1 V1 P ops Qn t) (hf:b=false→AtC cx n ((d,.bool false)::ks) O V O1 V1 P ops Qn t):AtC cx n ks O V O1 V1 P ops Qn t:=by
 cases hb:b
 ·exact AtC.setB hd hb (hf hb)
 ·exact AtC.setB hd hb (ht hb)
theorem AtC.zF {d:Nat} {p:Prop} [Decidable p] (hd:look ks d=some (.bool (decide p))) (ht:p→AtC cx n ((d,.bool true)::ks) O V O1 V1 P ops Qn t) (hf:¬ p→AtC cx n ((d,.bool false)::ks) O V O1 V1 P ops Qn t):AtC cx n ks O V O1 V1 P ops Qn t:=by
 by_cases hp:p
 ·exact AtC.kR hd hp (ht hp)
 ·exact AtC.qx hd hp (hf hp)
end
end Go.Lw
end
section
set_option linter.unusedVariables false
namespace Go.Lw
open Go.RowKit
section
variable {cx:Cx} {n:Nat} {ks:List (Nat×Value)} {O O' R R' O1:List Own} {V V1:View} {P:Program} {ops:Array Oper} {Qn:Act→World→Prop} {t:Tr} {i d:Nat} {T:TypeId} {pos:String} {after:Array Edge} {gd:Option (Nat×Bool)} {x y z:Operand} {u v:Value} {wr:Bool} {k:IntKind} {p q:Int} {X Y:TypeId} {K:Act→World→Prop} {Q:Exit→Act→World→Prop} {ro:Option Nat} {id:Nat}
theorem AtT.zf {x:Operand} {v:Value} (next:AtT cx n ((d,v)::ks) O V P ops Qn t) (ho:ops[i]? = some ⟨some d,.move x,T,pos,after,gd⟩:=by rfl) (hg:Gd ks ops gd:=by first | exact trivial | exact⟨_,_,rfl,rfl,rfl⟩) (hx:ev ks x=some v:=by rfl) (hn:d<n:=by decide):AtT cx n ks O V P ops Qn (.q i t):=AtT.move ho hg hx hn next
theorem AtT.zg {x:Operand} {v:Value} (next:AtT cx n ((d,v)::ks) O V P ops Qn t) (ho:ops[i]? = some ⟨some d,.assign x,T,pos,after,gd⟩:=by rfl) (hg:Gd ks ops gd:=by first | exact trivial | exact⟨_,_,rfl,rfl,rfl⟩) (hx:ev ks x=some v:=by rfl) (hn:d<n:=by decide):AtT cx n ks O V P ops Qn (.q i t):=AtT.assign ho hg hx hn next
theorem AtT.zH {c x y:Operand} {b:Bool} {u v:Value} (next:AtT cx n ((d,bif b then u else v)::ks) O V P ops Qn t) (ho:ops[i]? = some ⟨some d,.pick c x y,T,pos,after,gd⟩:=by rfl) (hg:Gd ks ops gd:=by first | exact trivial | exact⟨_,_,rfl,rfl,rfl⟩) (hc:ev ks c=some (.bool b):=by rfl) (hx:ev ks x=some u:=by rfl) (hy:ev ks y=some v:=by rfl) (hn:d<n:=by decide):AtT cx n ks O V P ops Qn (.q i t):=AtT.pick ho hg hc hx hy hn next
theorem AtT.zP  (next:AtT cx n ((d,.int k (k.wrap (p+q)))::ks) O V P ops Qn t) (ho:ops[i]? = some ⟨some d,.binOp .add X x y Y,T,pos,after,gd⟩:=by rfl) (hg:Gd ks ops gd:=by first | exact trivial | exact⟨_,_,rfl,rfl,rfl⟩) (hx:ev ks x=some (.int k p):=by rfl) (hy:ev ks y=some (.int k q):=by rfl) (hn:d<n:=by decide):AtT cx n ks O V P ops Qn (.q i t):=AtT.addW ho hg hx hy hn next
theorem AtT.jE  (next:AtT cx n ((d,.int k (k.wrap (p-q)))::ks) O V P ops Qn t) (ho:ops[i]? = some ⟨some d,.binOp .sub X x y Y,T,pos,after,gd⟩:=by rfl) (hg:Gd ks ops gd:=by first | exact trivial | exact⟨_,_,rfl,rfl,rfl⟩) (hx:ev ks x=some (.int k p):=by rfl) (hy:ev ks y=some (.int k q):=by rfl) (hn:d<n:=by decide):AtT cx n ks O V P ops Qn (.q i t):=AtT.subW ho hg hx hy hn next
theorem AtT.kmulW  (next:AtT cx n ((d,.int k (k.wrap (p*q)))::ks) O V P ops Qn t) (ho:ops[i]? = some ⟨some d,.binOp .mul X x y Y,T,pos,after,gd⟩:=by rfl) (hg:Gd ks ops gd:=by first | exact trivial | exact⟨_,_,rfl,rfl,rfl⟩) (hx:ev ks x=some (.int k p):=by rfl) (hy:ev ks y=some (.int k q):=by rfl) (hn:d<n:=by decide):AtT cx n ks O V P ops Qn (.q i t):=AtT.mulW ho hg hx hy hn next
theorem AtT.ql  (next:AtT cx n ((d,.int .i64 (p+q))::ks) O V P ops Qn t) (ho:ops[i]? = some ⟨some d,.binOp .add X x y Y,T,pos,after,gd⟩:=by rfl) (hg:Gd ks ops gd:=by first | exact trivial | exact⟨_,_,rfl,rfl,rfl⟩) (hx:ev ks x=some (.int .i64 p):=by rfl) (hy:ev ks y=some (.int .i64 q):=by rfl) (hf:Fit (p+q):=by first | assumption | exact Fit.of (by omega) (by omega)) (hn:d<n:=by decide):AtT cx n ks O V P ops Qn (.q i t):=AtT.add ho hg hx hy hn hf next
theorem AtT.jD  (next:AtT cx n ((d,.int .i64 (p-q))::ks) O V P ops Qn t) (ho:ops[i]? = some ⟨some d,.binOp .sub X x y Y,T,pos,after,gd⟩:=by rfl) (hg:Gd ks ops gd:=by first | exact trivial | exact⟨_,_,rfl,rfl,rfl⟩) (hx:ev ks x=some (.int .i64 p):=by rfl) (hy:ev ks y=some (.int .i64 q):=by rfl) (hf:Fit (p-q):=by first | assumption | exact Fit.of (by omega) (by omega)) (hn:d<n:=by decide):AtT cx n ks O V P ops Qn (.q i t):=AtT.subt ho hg hx hy hn hf next
theorem AtT.kmul  (next:AtT cx n ((d,.int .i64 (p*q))::ks) O V P ops Qn t) (ho:ops[i]? = some ⟨some d,.binOp .mul X x y Y,T,pos,after,gd⟩:=by rfl) (hg:Gd ks ops gd:=by first | exact trivial | exact⟨_,_,rfl,rfl,rfl⟩) (hx:ev ks x=some (.int .i64 p):=by rfl) (hy:ev ks y=some (.int .i64 q):=by rfl) (hf:Fit (p*q):=by first | assumption | exact Fit.of (by omega) (by omega)) (hn:d<n:=by decide):AtT cx n ks O V P ops Qn (.q i t):=AtT.mul ho hg hx hy hn hf next
theorem AtT.kquo  (next:AtT cx n ((d,.int .i64 (p.tdiv q))::ks) O V P ops Qn t) (ho:ops[i]? = some ⟨some d,.binOp .quo X x y Y,T,pos,after,gd⟩:=by rfl) (hg:Gd ks ops gd:=by first | exact trivial | exact⟨_,_,rfl,rfl,rfl⟩) (hx:ev ks x=some (.int .i64 p):=by rfl) (hy:ev ks y=some (.int .i64 q):=by rfl) (hq:q≠0:=by omega) (hf:Fit (p.tdiv q):=by first | assumption | exact Fit.of (by omega) (by omega)) (hn:d<n:=by decide):AtT cx n ks O V P ops Qn (.q i t):=AtT.quo ho hg hx hy hn hq hf next
theorem AtT.keqI  (next:AtT cx n ((d,.bool (decide (p=q)))::ks) O V P ops Qn t) (ho:ops[i]? = some ⟨some d,.binOp .eql X x y Y,T,pos,after,gd⟩:=by rfl) (hg:Gd ks ops gd:=by first | exact trivial | exact⟨_,_,rfl,rfl,rfl⟩) (hx:ev ks x=some (.int k p):=by rfl) (hy:ev ks y=some (.int k q):=by rfl) (hn:d<n:=by decide):AtT cx n ks O V P ops Qn (.q i t):=AtT.eqI ho hg hx hy hn next
theorem AtT.jT  (next:AtT cx n ((d,.bool (decide (p≠q)))::ks) O V P ops Qn t) (ho:ops[i]? = some ⟨some d,.binOp .neq X x y Y,T,pos,after,gd⟩:=by rfl) (hg:Gd ks ops gd:=by first | exact trivial | exact⟨_,_,rfl,rfl,rfl⟩) (hx:ev ks x=some (.int k p):=by rfl) (hy:ev ks y=some (.int k q):=by rfl) (hn:d<n:=by decide):AtT cx n ks O V P ops Qn (.q i t):=AtT.neI ho hg hx hy hn next
theorem AtT.qd  (next:AtT cx n ((d,.bool (decide (p<q)))::ks) O V P ops Qn t) (ho:ops[i]? = some ⟨some d,.binOp .lss X x y Y,T,pos,after,gd⟩:=by rfl) (hg:Gd ks ops gd:=by first | exact trivial | exact⟨_,_,rfl,rfl,rfl⟩) (hx:ev ks x=some (.int k p):=by rfl) (hy:ev ks y=some (.int k q):=by rfl) (hn:d<n:=by decide):AtT cx n ks O V P ops Qn (.q i t):=AtT.lss ho hg hx hy hn next
theorem AtT.kleq  (next:AtT cx n ((d,.bool (decide (p≤q)))::ks) O V P ops Qn t) (ho:ops[i]? = some ⟨some d,.binOp .leq X x y Y,T,pos,after,gd⟩:=by rfl) (hg:Gd ks ops gd:=by first | exact trivial | exact⟨_,_,rfl,rfl,rfl⟩) (hx:ev ks x=some (.int k p):=by rfl) (hy:ev ks y=some (.int k q):=by rfl) (hn:d<n:=by decide):AtT cx n ks O V P ops Qn (.q i t):=AtT.leq ho hg hx hy hn next
theorem AtT.qA  (next:AtT cx n ((d,.bool (decide (q<p)))::ks) O V P ops Qn t) (ho:ops[i]? = some ⟨some d,.binOp .gtr X x y Y,T,pos,after,gd⟩:=by rfl) (hg:Gd ks ops gd:=by first | exact trivial | exact⟨_,_,rfl,rfl,rfl⟩) (hx:ev ks x=some (.int k p):=by rfl) (hy:ev ks y=some (.int k q):=by rfl) (hn:d<n:=by decide):AtT cx n ks O V P ops Qn (.q i t):=AtT.gtr ho hg hx hy hn next
theorem AtT.kgeq  (next:AtT cx n ((d,.bool (decide (q≤p)))::ks) O V P ops Qn t) (ho:ops[i]? = some ⟨some d,.binOp .geq X x y Y,T,pos,after,gd⟩:=by rfl) (hg:Gd ks ops gd:=by first | exact trivial | exact⟨_,_,rfl,rfl,rfl⟩) (hx:ev ks x=some (.int k p):=by rfl) (hy:ev ks y=some (.int k q):=by rfl) (hn:d<n:=by decide):AtT cx n ks O V P ops Qn (.q i t):=AtT.geq ho hg hx hy hn next
theorem AtT.knegW  (next:AtT cx n ((d,.int k (k.wrap (-p)))::ks) O V P ops Qn t) (ho:ops[i]? = some ⟨some d,.unOp .neg X x,T,pos,after,gd⟩:=by rfl) (hg:Gd ks ops gd:=by first | exact trivial | exact⟨_,_,rfl,rfl,rfl⟩) (hx:ev ks x=some (.int k p):=by rfl) (hn:d<n:=by decide):AtT cx n ks O V P ops Qn (.q i t):=AtT.negW ho hg hx hn next
theorem AtT.kneg  (next:AtT cx n ((d,.int .i64 (-p))::ks) O V P ops Qn t) (ho:ops[i]? = some ⟨some d,.unOp .neg X x,T,pos,after,gd⟩:=by rfl) (hg:Gd ks ops gd:=by first | exact trivial | exact⟨_,_,rfl,rfl,rfl⟩) (hx:ev ks x=some (.int .i64 p):=by rfl) (hf:Fit (-p):=by first | assumption | exact Fit.of (by omega) (by omega)) (hn:d<n:=by decide):AtT cx n ks O V P ops Qn (.q i t):=AtT.neg ho hg hx hn hf next
theorem AtT.knot {b:Bool} (next:AtT cx n ((d,.bool (!b))::ks) O V P ops Qn t) (ho:ops[i]? = some ⟨some d,.unOp .not X x,T,pos,after,gd⟩:=by rfl) (hg:Gd ks ops gd:=by first | exact trivial | exact⟨_,_,rfl,rfl,rfl⟩) (hx:ev ks x=some (.bool b):=by rfl) (hn:d<n:=by decide):AtT cx n ks O V P ops Qn (.q i t):=AtT.not ho hg hx hn next
theorem AtT.kmin2  (next:AtT cx n ((d,.int k (min p q))::ks) O V P ops Qn t) (ho:ops[i]? = some ⟨some d,.call ⟨.builtin .min,#[x,y],#[X,Y]⟩,T,pos,after,gd⟩:=by rfl) (hg:Gd ks ops gd:=by first | exact trivial | exact⟨_,_,rfl,rfl,rfl⟩) (hx:ev ks x=some (.int k p):=by rfl) (hy:ev ks y=some (.int k q):=by rfl) (hn:d<n:=by decide):AtT cx n ks O V P ops Qn (.q i t):=AtT.min2 ho hg hx hy hn next
theorem AtT.zq {X:TypeId} {p:Addr} {s:Nat} (hT:tkB P X=some (false,s)) (next:AtT cx n ((d,v)::ks) O V P ops Qn t) (ho:ops[i]? = some ⟨some d,.load X x,T,pos,after,gd⟩:=by rfl) (hg:Gd ks ops gd:=by first | exact trivial | exact⟨_,_,rfl,rfl,rfl⟩) (hx:ev ks x=some (.pointer (some p)):=by rfl) (hc:jd V p=some v:=by first | exact vcell_of (by assumption) (by rfl) | exact vcell_of0 (by assumption) (by rfl) | exact vcell_of (Cells.le (by assumption) (by assumption)) (by rfl) | exact vcell_of0 (Cells.le (by assumption) (by assumption)) (by rfl)) (hn:d<n:=by decide):AtT cx n ks O V P ops Qn (.q i t):=AtT.load ho hg hx hT hc hn next
theorem AtT.zS {X:TypeId} {p:Addr} {us:List Value} {m:Nat} (hT:tkB P X=some (true,m)) (next:AtT cx n ((d,.agg us.toArray)::ks) O V P ops Qn t) (ho:ops[i]? = some ⟨some d,.load X x,T,pos,after,gd⟩:=by rfl) (hg:Gd ks ops gd:=by first | exact trivial | exact⟨_,_,rfl,rfl,rfl⟩) (hx:ev ks x=some (.pointer (some p)):=by rfl) (hc:Cells V p us:=by first | assumption | exact Cells.le (by assumption) (by assumption)) (hl:us.length=m:=by rfl) (hn:d<n:=by decide):AtT cx n ks O V P ops Qn (.q i t):=AtT.loadA ho hg hx hT hc hl hn next
theorem AtT.zn {X:TypeId} {b off:Nat} {cs:List Value} {E:TypeId} {fr:Nat×Nat} {s:Nat} (hT:tkB P X=some (false,s)) (next:AtT cx n ((d,v)::ks) O V P ops Qn t) (ho:ops[i]? = some ⟨some d,.load X x,T,pos,after,gd⟩:=by rfl) (hg:Gd ks ops gd:=by first | exact trivial | exact⟨_,_,rfl,rfl,rfl⟩) (hx:ev ks x=some (.pointer (some ⟨b,off,none⟩)):=by rfl) (hp:zM (.blk b (LC cs E fr)) O R:=by repeat(first | exact zM.here | apply zM.there)) (hc:cs[off]? = some v:=by rfl) (hn:d<n:=by decide):AtT cx n ks O V P ops Qn (.q i t):=AtT.jK ho hg hx hT hp hc hn next
theorem AtT.zL {X:TypeId} {b:Nat} {cs:List Value} {E:TypeId} {fr:Nat×Nat} {m:Nat} (hT:tkB P X=some (true,m)) (next:AtT cx n ((d,.agg cs.toArray)::ks) O V P ops Qn t) (ho:ops[i]? = some ⟨some d,.load X x,T,pos,after,gd⟩:=by rfl) (hg:Gd ks ops gd:=by first | exact trivial | exact⟨_,_,rfl,rfl,rfl⟩) (hx:ev ks x=some (.pointer (some ⟨b,0,none⟩)):=by rfl) (hp:zM (.blk b (LC cs E fr)) O R:=by repeat(first | exact zM.here | apply zM.there)) (hl:cs.length=m:=by rfl) (hn:d<n:=by decide):AtT cx n ks O V P ops Qn (.q i t):=AtT.loadOA ho hg hx hT hp hl hn next
theorem AtT.zK {X:TypeId} {b off:Nat} {cs us:List Value} {E:TypeId} {fr:Nat×Nat} {m:Nat} (hT:tkB P X=some (true,m)) (next:AtT cx n ((d,.agg us.toArray)::ks) O V P ops Qn t) (ho:ops[i]? = some ⟨some d,.load X x,T,pos,after,gd⟩:=by rfl) (hg:Gd ks ops gd:=by first | exact trivial | exact⟨_,_,rfl,rfl,rfl⟩) (hx:ev ks x=some (.pointer (some ⟨b,off,none⟩)):=by rfl) (hp:zM (.blk b (LC cs E fr)) O R:=by repeat(first | exact zM.here | apply zM.there)) (hu:(cs.drop off).take m=us:=by rfl) (hl:us.length=m:=by rfl) (hn:d<n:=by decide):AtT cx n ks O V P ops Qn (.q i t):=AtT.loadOP ho hg hx hT hp hu hl hn next
theorem AtT.zo {S f:Nat} {p:Addr} {k:Nat} (hf:foB P S f=some k) (next:AtT cx n ((d,.pointer (some (p.add k)))::ks) O V P ops Qn t) (ho:ops[i]? = some ⟨some d,.fieldAddr S x f,T,pos,after,gd⟩:=by rfl) (hg:Gd ks ops gd:=by first | exact trivial | exact⟨_,_,rfl,rfl,rfl⟩) (hx:ev ks x=some (.pointer (some p)):=by rfl) (hn:d<n:=by decide):AtT cx n ks O V P ops Qn (.q i t):=AtT.field ho hg hx hf hn next
theorem AtT.zm {S f:Nat} {p:Addr} {j k:Nat} (hf:foB P S f=some k) (next:AtT cx n ((d,.pointer (some (p.add (j+k))))::ks) O V P ops Qn t) (ho:ops[i]? = some ⟨some d,.fieldAddr S x f,T,pos,after,gd⟩:=by rfl) (hg:Gd ks ops gd:=by first | exact trivial | exact⟨_,_,rfl,rfl,rfl⟩) (hx:ev ks x=some (.pointer (some (p.add j))):=by rfl) (hn:d<n:=by decide):AtT cx n ks O V P ops Qn (.q i t):=AtT.field2 ho hg hx hf hn next
theorem AtT.zk {S f:Nat} {b off:Nat} {k:Nat} (hf:foB P S f=some k) (next:AtT cx n ((d,.pointer (some ⟨b,off+k,none⟩))::ks) O V P ops Qn t) (ho:ops[i]? = some ⟨some d,.fieldAddr S x f,T,pos,after,gd⟩:=by rfl) (hg:Gd ks ops gd:=by first | exact trivial | exact⟨_,_,rfl,rfl,rfl⟩) (hx:ev ks x=some (.pointer (some ⟨b,off,none⟩)):=by rfl) (hn:d<n:=by decide):AtT cx n ks O V P ops Qn (.q i t):=AtT.fieldO ho hg hx hf hn next
theorem AtT.qZ {p:Addr} (next:AtT cx n ((d,.pointer (some p))::ks) O V P ops Qn t) (ho:ops[i]? = some ⟨some d,.nilCheck x,T,pos,after,gd⟩:=by rfl) (hg:Gd ks ops gd:=by first | exact trivial | exact⟨_,_,rfl,rfl,rfl⟩) (hx:ev ks x=some (.pointer (some p)):=by rfl) (hn:d<n:=by decide):AtT cx n ks O V P ops Qn (.q i t):=AtT.nil ho hg hx hn next
theorem AtT.qj {α:Type} {X E:TypeId} {enc:α→List Value} {s:Nat} {l:List α} {k:IntKind} {j:Int} {ag:Bool} (hX:P.underlying X=some (.slice E)) (hE:tkB P E=some (ag,s)) (next:∀ (p:Addr) (e:α),l[j.toNat]? = some e→Cells V p (enc e)→AtT cx n ((d,.pointer (some p))::ks) O V P ops Qn t) (ho:ops[i]? = some ⟨some d,.indexAddr X x y,T,pos,after,gd⟩:=by rfl) (hg:Gd ks ops gd:=by first | exact trivial | exact⟨_,_,rfl,rfl,rfl⟩) (hx:ev ks x=some v:=by rfl) (hy:ev ks y=some (.int k j):=by rfl) (hl:Sl V enc s v l:=by first | assumption | exact Sl.le (by assumption) (by assumption)) (h0:0≤j:=by omega) (h1:j<l.length:=by omega) (hn:d<n:=by decide):AtT cx n ks O V P ops Qn (.q i t):=AtT.idx ho hg hX hE hx hl hy h0 h1 hn next
theorem AtT.jh {X E:TypeId} {len s:Nat} {k:IntKind} {j:Int} {b off:Nat} {ag:Bool} (hX:P.underlying X=some (.array len E)) (hE:tkB P E=some (ag,s)) (next:AtT cx n ((d,.pointer (some ⟨b,off+j.toNat*s,none⟩))::ks) O V P ops Qn t) (ho:ops[i]? = some ⟨some d,.indexAddr X x y,T,pos,after,gd⟩:=by rfl) (hg:Gd ks ops gd:=by first | exact trivial | exact⟨_,_,rfl,rfl,rfl⟩) (hx:ev ks x=some (.pointer (some ⟨b,off,none⟩)):=by rfl) (hy:ev ks y=some (.int k j):=by rfl) (h0:0≤j:=by omega) (h1:j<len:=by omega) (hn:d<n:=by decide):AtT cx n ks O V P ops Qn (.q i t):=AtT.idxA ho hg hX hE hx hy h0 h1 hn next
theorem AtT.zW {α:Type} {X E:TypeId} {enc:α→List Value} {s:Nat} {l:List α} (hX:P.underlying X=some (.slice E)) (next:AtT cx n ((d,.int .i64 l.length)::ks) O V P ops Qn t) (ho:ops[i]? = some ⟨some d,.call ⟨.builtin .len,#[x],#[X]⟩,T,pos,after,gd⟩:=by rfl) (hg:Gd ks ops gd:=by first | exact trivial | exact⟨_,_,rfl,rfl,rfl⟩) (hx:ev ks x=some v:=by rfl) (hl:Sl V enc s v l:=by first | assumption | exact Sl.le (by assumption) (by assumption)) (hn:d<n:=by decide):AtT cx n ks O V P ops Qn (.q i t):=AtT.lenS ho hg hX hx hl hn next
theorem AtT.zX {X E:TypeId} {a:Option Addr} {m cap:Nat} (hX:P.underlying X=some (.slice E)) (next:AtT cx n ((d,.int .i64 m)::ks) O V P ops Qn t) (ho:ops[i]? = some ⟨some d,.call ⟨.builtin .len,#[x],#[X]⟩,T,pos,after,gd⟩:=by rfl) (hg:Gd ks ops gd:=by first | exact trivial | exact⟨_,_,rfl,rfl,rfl⟩) (hx:ev ks x=some (.slice a m cap):=by rfl) (hn:d<n:=by decide):AtT cx n ks O V P ops Qn (.q i t):=AtT.lenR ho hg hX hx hn next
theorem AtT.qE {E:TypeId} {z:Value} {cs:List Value} (hz:zx P E=some z) (next:∀ b,AtT cx n ((d,.pointer (some ⟨b,0,none⟩))::ks) (.blk b (LC cs E)::O) V P ops Qn t) (ho:ops[i]? = some ⟨some d,.alloc E,T,pos,after,gd⟩:=by rfl) (hg:Gd ks ops gd:=by first | exact trivial | exact⟨_,_,rfl,rfl,rfl⟩) (hc:z.cells=cs.toArray:=by rfl) (hn:d<n:=by decide):AtT cx n ks O V P ops Qn (.n wr i t):=AtT.alloc ho hg hz hc hn next
theorem AtT.jA {E:TypeId} {cs:List Value} (next:∀ b,AtT cx n ((d,.pointer (some ⟨b,0,none⟩))::ks) (.blk b (LC cs E)::O) V P ops Qn t) (ho:ops[i]? = some ⟨some d,.box E x,T,pos,after,gd⟩:=by rfl) (hg:Gd ks ops gd:=by first | exact trivial | exact⟨_,_,rfl,rfl,rfl⟩) (hx:ev ks x=some v:=by rfl) (hc:v.cells=cs.toArray:=by rfl) (hn:d<n:=by decide):AtT cx n ks O V P ops Qn (.n wr i t):=AtT.box ho hg hx hc hn next
theorem AtT.kbuild {X:TypeId} {ps:List (Nat×Operand)} {vs:List (Nat×Value)} (hr:∀ w,(Instr.build X vs.toArray).run P w=.ok v w) (next:AtT cx n ((d,v)::ks) O V P ops Qn t) (ho:ops[i]? = some ⟨some d,.build X ps.toArray,T,pos,after,gd⟩:=by rfl) (hg:Gd ks ops gd:=by first | exact trivial | exact⟨_,_,rfl,rfl,rfl⟩) (hp:evp ks ps=some vs:=by rfl) (hn:d<n:=by decide):AtT cx n ks O V P ops Qn (.q i t):=AtT.build ho hg hp hr hn next
theorem AtT.kbslice {X E:TypeId} {m:Nat} {cs:List Value} {ps:List (Nat×Operand)} {vs:List (Nat×Value)} (hr:∀ w,(Instr.buildSlice X m vs.toArray).run P w=.ok (.slice (some ⟨w.heap.size,0,none⟩) m m) (w.alloc (LC cs E))) (next:∀ b,AtT cx n ((d,.slice (some ⟨b,0,none⟩) m m)::ks) (.blk b (LC cs E)::O) V P ops Qn t) (ho:ops[i]? = some ⟨some d,.buildSlice X m ps.toArray,T,pos,after,gd⟩:=by rfl) (hg:Gd ks ops gd:=by first | exact trivial | exact⟨_,_,rfl,rfl,rfl⟩) (hp:evp ks ps=some vs:=by rfl) (hn:d<n:=by decide):AtT cx n ks O V P ops Qn (.n wr i t):=AtT.bslice ho hg hp hr hn next
theorem AtT.kfn {f:Fn} {fs cs:List Operand} {us vs:List Value} (next:AtT cx n ((d,.func f us.toArray vs.toArray)::ks) O V P ops Qn t) (ho:ops[i]? = some ⟨some d,.makeFunc f fs.toArray cs.toArray,T,pos,after,gd⟩:=by rfl) (hg:Gd ks ops gd:=by first | exact trivial | exact⟨_,_,rfl,rfl,rfl⟩) (hf:evs ks fs=some us:=by rfl) (hc:evs ks cs=some vs:=by rfl) (hn:d<n:=by decide):AtT cx n ks O V P ops Qn (.q i t):=AtT.fn ho hg hf hc hn next
theorem AtT.qX {X E:TypeId} {b off:Nat} {cs cs':List Value} (hT:tkB P X=some (false,1)) (next:AtT cx n ks O' V P ops Qn t) (ho:ops[i]? = some ⟨none,.store X x y,T,pos,after,gd⟩:=by rfl) (hg:Gd ks ops gd:=by first | exact trivial | exact⟨_,_,rfl,rfl,rfl⟩) (hx:ev ks x=some (.pointer (some ⟨b,off,none⟩)):=by rfl) (hy:ev ks y=some v:=by rfl) (hp:Upd (.blk b (LC cs E)) (.blk b (LC cs' E)) O O':=by repeat(first | exact Upd.here | apply Upd.there)) (hs:SetAt cs off v cs':=by repeat(first | exact SetAt.here | apply SetAt.there)) (hv:v.cells=[v].toArray:=by rfl) (h1:v.oneCell'=true:=by rfl):AtT cx n ks O V P ops Qn (.n true i t):=AtT.store1 ho hg hx hy hT hv h1 hp hs next
theorem AtT.zU {X E:TypeId} {b:Nat} {cs us:List Value} {m:Nat} (hT:tkB P X=some (true,m)) (next:AtT cx n ks O' V P ops Qn t) (ho:ops[i]? = some ⟨none,.store X x y,T,pos,after,gd⟩:=by rfl) (hg:Gd ks ops gd:=by first | exact trivial | exact⟨_,_,rfl,rfl,rfl⟩) (hx:ev ks x=some (.pointer (some ⟨b,0,none⟩)):=by rfl) (hy:ev ks y=some (.agg us.toArray):=by rfl) (hp:Upd (.blk b (LC cs E)) (.blk b (LC us E)) O O':=by repeat(first | exact Upd.here | apply Upd.there)) (hm':us.length=m:=by rfl) (hl:cs.length=m:=by rfl) (h1:us.all Value.oneCell'=true:=by rfl):AtT cx n ks O V P ops Qn (.n true i t):=AtT.storeA ho hg hx hy hT hm' hl h1 hp next
theorem AtT.jM {f:FuncId} {args:List Operand} {ts:Array TypeId} {vs:List Value} {R:Value→View→Prop} (ho:ops[i]? = some ⟨some d,.call ⟨.value (.func f),args.toArray,ts⟩,T,pos,after,gd⟩) (ha:evs ks args=some vs) (hf:zy P f) (hc:Fnc P f vs V R) (next:∀ v V',Le V V'→R v V'→AtT cx n ((d,v)::ks) O V' P ops Qn t) (hg:Gd ks ops gd:=by first | exact trivial | exact⟨_,_,rfl,rfl,rfl⟩) (hn:d<n:=by decide):AtT cx n ks O V P ops Qn (.n wr i t):=AtT.call ho hg ha hf hn hc next
theorem AtT.zR {f:FuncId} {args:List Operand} {ts:Array TypeId} {vs:List Value} {R:Value→Prop} (ho:ops[i]? = some ⟨some d,.call ⟨.value (.func f),args.toArray,ts⟩,T,pos,after,gd⟩) (ha:evs ks args=some vs) (hf:zy P f) (hc:Fnc P f vs V (fun v _=>R v)) (next:∀ v,R v→AtT cx n ((d,v)::ks) O V P ops Qn t) (hg:Gd ks ops gd:=by first | exact trivial | exact⟨_,_,rfl,rfl,rfl⟩) (hn:d<n:=by decide):AtT cx n ks O V P ops Qn (.n wr i t):=AtT.callP ho hg ha hf hn hc next
theorem AtT.kcallV {c:Operand} {f:FuncId} {args:List Operand} {fs cs:List Value} {ts:Array TypeId} {vs:List Value} {R:Value→Prop} (ho:ops[i]? = some ⟨some d,.call ⟨.value c,args.toArray,ts⟩,T,pos,after,gd⟩) (hcv:ev ks c=some (.func (.func f) fs.toArray cs.toArray)) (ha:evs ks args=some vs) (hf:zy P f) (hc:Fnc P f (fs++vs++cs) V (fun v _=>R v)) (next:∀ v,R v→AtT cx n ((d,v)::ks) O V P ops Qn t) (hg:Gd ks ops gd:=by first | exact trivial | exact⟨_,_,rfl,rfl,rfl⟩) (hn:d<n:=by decide):AtT cx n ks O V P ops Qn (.n wr i t):=AtT.callV ho hg hcv ha hf hn hc next
theorem AtT.zV {us:List Value} {j:Nat} (next:AtT cx n ((d,v)::ks) O V P ops Qn t) (ho:ops[i]? = some ⟨some d,.extract x j,T,pos,after,gd⟩:=by rfl) (hg:Gd ks ops gd:=by first | exact trivial | exact⟨_,_,rfl,rfl,rfl⟩) (hx:ev ks x=some (.tuple us.toArray):=by rfl) (hu:us[j]? = some v:=by rfl) (hn:d<n:=by decide):AtT cx n ks O V P ops Qn (.q i t):=AtT.extract ho hg hx hu hn next
theorem AtT.qz {X E:TypeId} {m:Nat} {cs:List Value} {ps:List (Nat×Operand)} {vs:List (Nat×Value)} (hr:∀ w,(Instr.buildSlice X m vs.toArray).run P w=.ok (.slice (some ⟨w.heap.size,0,none⟩) m m) (w.alloc (LC cs E))) (next:∀ q V',Le V V'→Cells V' q cs→AtT cx n ((d,.slice (some q) m m)::ks) O V' P ops Qn t) (ho:ops[i]? = some ⟨some d,.buildSlice X m ps.toArray,T,pos,after,gd⟩:=by rfl) (hg:Gd ks ops gd:=by first | exact trivial | exact⟨_,_,rfl,rfl,rfl⟩) (hp:evp ks ps=some vs:=by rfl) (hn:d<n:=by decide):AtT cx n ks O V P ops Qn (.n wr i t):=AtT.bsliceG ho hg hp hr hn next
theorem AtT.kappend {X E:TypeId} {z:Value} {s by_ m k c:Nat} {xs news:List Value} {q:Addr} (hX:P.underlying X=some (.slice E)) (hE:rowB P E=some (z,s,by_)) (next:∀ a cap,AtT cx n ((d,.slice a (m+k) cap)::ks) (.row (.slice a (m+k) cap) E s (m+k) (xs++news)::R) V P ops Qn t) (ho:ops[i]? = some ⟨some d,.call ⟨.builtin .append,#[x,y],#[X,X]⟩,T,pos,after,gd⟩:=by rfl) (hg:Gd ks ops gd:=by first | exact trivial | exact⟨_,_,rfl,rfl,rfl⟩) (hx:ev ks x=some v:=by rfl) (hy:ev ks y=some (.slice (some q) k c):=by rfl) (hp:zM (.row v E s m xs) O R:=by repeat(first | exact zM.here | apply zM.there)) (hc:Cells V q news:=by first | assumption | exact Cells.le (by assumption) (by assumption)) (hzs:z.cells.size=s:=by rfl) (hl:news.length=k*s:=by rfl) (h1:news.all Value.oneCell'=true:=by rfl) (hb:m+k≤maxLen:=by first | omega | (unfold maxLen; omega)) (hby:(m+k)*by_≤140737488355328:=by omega) (hs:0<s:=by decide) (hn:d<n:=by decide):AtT cx n ks O V P ops Qn (.n true i t):=AtT.append ho hg hX hE hzs hs hx hy hp hc hl h1 hb hby hn next
theorem AtT.kclip {α:Type} {enc:α→List Value} {l:List α} {X E:TypeId} {s:Nat} {ag:Bool} {h:Int} {h' m':Operand} {k k2:IntKind} (hX:P.underlying X=some (.slice E)) (hE:tkB P E=some (ag,s)) (next:∀ a,Sl V enc s (.slice a (l.take h.toNat).length (l.take h.toNat).length) (l.take h.toNat)→AtT cx n ((d,.slice a (l.take h.toNat).length (l.take h.toNat).length)::ks) O V P ops Qn t) (ho:ops[i]? = some ⟨some d,.slice X x none (some h') (some m'),T,pos,after,gd⟩:=by rfl) (hg:Gd ks ops gd:=by first | exact trivial | exact⟨_,_,rfl,rfl,rfl⟩) (hx:ev ks x=some v:=by rfl) (hh:ev ks h'=some (.int k h):=by rfl) (hm':ev ks m'=some (.int k2 h):=by rfl) (hv:Sl V enc s v l:=by first | assumption | exact Sl.le (by assumption) (by assumption)) (h0:0≤h:=by omega) (h1:h≤l.length:=by omega) (hn:d<n:=by decide):AtT cx n ks O V P ops Qn (.q i t):=AtT.clip ho hg hX hE hx hv hh hm' h0 h1 hn next
theorem AtT.kclipAll {α:Type} {enc:α→List Value} {l:List α} {X E:TypeId} {s:Nat} {ag:Bool} {h' m':Operand} {k k2:IntKind} (hX:P.underlying X=some (.slice E)) (hE:tkB P E=some (ag,s)) (next:∀ a,Sl V enc s (.slice a l.length l.length) l→AtT cx n ((d,.slice a l.length l.length)::ks) O V P ops Qn t) (ho:ops[i]? = some ⟨some d,.slice X x none (some h') (some m'),T,pos,after,gd⟩:=by rfl) (hg:Gd ks ops gd:=by first | exact trivial | exact⟨_,_,rfl,rfl,rfl⟩) (hx:ev ks x=some v:=by rfl) (hh:ev ks h'=some (.int k (l.length:Int)):=by rfl) (hm':ev ks m'=some (.int k2 (l.length:Int)):=by rfl) (hv:Sl V enc s v l:=by first | assumption | exact Sl.le (by assumption) (by assumption)) (hn:d<n:=by decide):AtT cx n ks O V P ops Qn (.q i t):=AtT.clipAll ho hg hX hE hx hv hh hm' hn next
theorem AtT.ktail {α:Type} {enc:α→List Value} {l:List α} {X E:TypeId} {s:Nat} {ag:Bool} {lo:Int} {lo':Operand} {k:IntKind} (hX:P.underlying X=some (.slice E)) (hE:tkB P E=some (ag,s)) (next:∀ a cap,Sl V enc s (.slice a (l.drop lo.toNat).length cap) (l.drop lo.toNat)→AtT cx n ((d,.slice a (l.drop lo.toNat).length cap)::ks) O V P ops Qn t) (ho:ops[i]? = some ⟨some d,.slice X x (some lo') none none,T,pos,after,gd⟩:=by rfl) (hg:Gd ks ops gd:=by first | exact trivial | exact⟨_,_,rfl,rfl,rfl⟩) (hx:ev ks x=some v:=by rfl) (hh:ev ks lo'=some (.int k lo):=by rfl) (hv:Sl V enc s v l:=by first | assumption | exact Sl.le (by assumption) (by assumption)) (h0:0≤lo:=by omega) (h1:lo≤l.length:=by omega) (hn:d<n:=by decide):AtT cx n ks O V P ops Qn (.q i t):=AtT.tail ho hg hX hE hx hv hh h0 h1 hn next
theorem AtT.keqS {X Y:TypeId} {xs ys:List Value} {b:Bool} (h:EqS P X xs ys b) (next:AtT cx n ((d,.bool b)::ks) O V P ops Qn t) (ho:ops[i]? = some ⟨some d,.binOp .eql X x y Y,T,pos,after,gd⟩:=by rfl) (hg:Gd ks ops gd:=by first | exact trivial | exact⟨_,_,rfl,rfl,rfl⟩) (hx:ev ks x=some (.agg xs.toArray):=by rfl) (hy:ev ks y=some (.agg ys.toArray):=by rfl) (hn:d<n:=by decide):AtT cx n ks O V P ops Qn (.q i t):=AtT.eqS ho hg hx hy h hn next
theorem AtT.kcallL {f:FuncId} {args:List Operand} {ts:Array TypeId} {vs:List Value} {R:Value→Prop} (ho:ops[i]? = some ⟨some d,.call ⟨.value (.func f),args.toArray,ts⟩,T,pos,after,gd⟩) (ha:evs ks args=some vs) (hf:zy P f) (hc:∀ V',Le V V'→(∀ b o,Own.blk b o∈O→V' b=some o)→Fnc P f vs V' (fun v _=>R v)) (next:∀ v,R v→AtT cx n ((d,v)::ks) O V P ops Qn t) (hg:Gd ks ops gd:=by first | exact trivial | exact⟨_,_,rfl,rfl,rfl⟩) (hn:d<n:=by decide):AtT cx n ks O V P ops Qn (.n wr i t):=AtT.callL ho hg ha hf hn hc next
theorem AtT.zi {o:Oper} {g:Nat} {want:Bool} {od:Oper} {gd:Nat} (next:AtT cx n ((d,undef)::ks) O V P ops Qn t) (ho:ops[i]? = some o:=by rfl) (hg:o.guard=some (g,want):=by rfl) (hog:ops[g]? = some od:=by rfl) (hgd:od.dst=some gd:=by rfl) (hgv:look ks gd=some (.bool (!want)):=by rfl) (hd:o.dst=some d:=by rfl) (hn:d<n:=by decide):AtT cx n ks O V P ops Qn (.q i t):=AtT.pass ho hg hog hgd hgv hd hn next
theorem AtT.jq {o:Oper} {g:Nat} {want:Bool} {od:Oper} {gd:Nat} {wr:Bool} (next:AtT cx n ((d,undef)::ks) O V P ops Qn t) (ho:ops[i]? = some o:=by rfl) (hg:o.guard=some (g,want):=by rfl) (hog:ops[g]? = some od:=by rfl) (hgd:od.dst=some gd:=by rfl) (hgv:look ks gd=some (.bool (!want)):=by rfl) (hd:o.dst=some d:=by rfl) (hn:d<n:=by decide):AtT cx n ks O V P ops Qn (.n wr i t):=AtT.passN ho hg hog hgd hgv hd hn next
theorem AtT.ze {o:Oper} {g:Nat} {want:Bool} {od:Oper} {gd:Nat} (next:AtT cx n ((d,undef)::ks) O V P ops Qn t) (ho:ops[i]? = some o:=by rfl) (hg:o.guard=some (g,want):=by rfl) (hog:ops[g]? = some od:=by rfl) (hgd:od.dst=some gd:=by rfl) (hgv:look ks gd=some undef:=by rfl) (hd:o.dst=some d:=by rfl) (hn:d<n:=by decide):AtT cx n ks O V P ops Qn (.q i t):=AtT.passU ho hg hog hgd hgv hd hn next
theorem AtT.qP {o:Oper} {g:Nat} {want:Bool} {od:Oper} {gd:Nat} {wr:Bool} (next:AtT cx n ((d,undef)::ks) O V P ops Qn t) (ho:ops[i]? = some o:=by rfl) (hg:o.guard=some (g,want):=by rfl) (hog:ops[g]? = some od:=by rfl) (hgd:od.dst=some gd:=by rfl) (hgv:look ks gd=some undef:=by rfl) (hd:o.dst=some d:=by rfl) (hn:d<n:=by decide):AtT cx n ks O V P ops Qn (.n wr i t):=AtT.passNU ho hg hog hgd hgv hd hn next
theorem AtT.kL (d:Nat) (h:AtT cx n ks O V P ops Qn t) (hd:look ks d=some (.bool true)∨look ks d=some (.bool false)∨look ks d=some undef:=by first | exact .inl rfl | exact .inr (.inl rfl) | exact .inr (.inr rfl)):AtT cx n ks O V P ops Qn t:=h
theorem AtC.kL (d:Nat) (h:AtC cx n ks O V O1 V1 P ops Qn t) (hd:look ks d=some (.bool true)∨look ks d=some (.bool false)∨look ks d=some undef:=by first | exact .inl rfl | exact .inr (.inl rfl) | exact .inr (.inr rfl)):AtC cx n ks O V O1 V1 P ops Qn t:=h
theorem AtC.kq (h:AtT cx n ks O1 V1 P ops (fun a' _=>Kn cx n ((d,v)::ks) a') (.q i .done)) (next:AtC cx n ((d,v)::ks) O V O1 V1 P ops Qn t) (hp:Pt O1 O:=by repeat(first | exact Pt.nil | refine Pt.cons (by repeat(first | exact zM.here | apply zM.there)) ?_)) (hl:Le V1 V:=by first | exact Le.refl _ | assumption | exact Le.trans (by assumption) (by assumption)) (h0:Le cx.V0 V1:=by assumption):AtC cx n ks O V O1 V1 P ops Qn (.q i t):=AtC.q h (AtC.sub1 hp hl h0) next
theorem AtC.kgo {V':View} (next:AtC cx n ks O' V' O1 V1 P ops Qn t) (hp:Pt O1 O':=by repeat(first | exact Pt.nil | refine Pt.cons (by repeat(first | exact zM.here | apply zM.there)) ?_)) (hl:Le V1 V':=by first | exact Le.refl _ | assumption | exact Le.trans (by assumption) (by assumption)):AtT cx n ks O' V' P ops (fun a' w'=>Le cx.V0 V1→Mem cx O1 V1 w'∧wpT P ops Qn t (Mem cx O1 V1) a' w') .done:=AtC.go hp hl next
theorem AtC.qj {α:Type} {X E:TypeId} {enc:α→List Value} {s:Nat} {l:List α} {k:IntKind} {j:Int} {ag:Bool} (hX:P.underlying X=some (.slice E)) (hE:tkB P E=some (ag,s))
  (next:∀ (p:Addr) (e:α),l[j.toNat]? = some e→Cells V1 p (enc e)→AtC cx n ((d,.pointer (some p))::ks) O V O1 V1 P ops Qn t) (ho:ops[i]? = some ⟨some d,.indexAddr X x y,T,pos,after,gd⟩:=by rfl) (hg:Gd ks ops gd:=by first | exact trivial | exact⟨_,_,rfl,rfl,rfl⟩)
  (hx:ev ks x=some v:=by rfl) (hl:Sl V1 enc s v l:=by first | assumption | exact Sl.le (by assumption) (by assumption)) (hy:ev ks y=some (.int k j):=by rfl) (h0:0≤j:=by omega) (h1:j<l.length:=by omega) (hn:d<n:=by decide) (hp:Pt O1 O:=by repeat(first | exact Pt.nil | refine Pt.cons (by repeat(first | exact zM.here | apply zM.there)) ?_)) (hv:Le V1 V:=by first | exact Le.refl _ | assumption | exact Le.trans (by assumption) (by assumption)) (hv0:Le cx.V0 V1:=by assumption):AtC cx n ks O V O1 V1 P ops Qn (.q i t):=AtC.idx ho hg hX hE hx hl hy h0 h1 hn (AtC.sub1 hp hv hv0) next
theorem At.zh {ops:Array Oper} (t:Tr) (h:AtT cx n ks O V P ops (Q .normal) t) (hc:t.okText ops=true:=by kernel_rfl):At cx n ks O V ((Code.region id ops false).wpIn (FW ro) 0 P Q):=At.text t hc h
theorem Pt.zC {l O:List Own} (h:Pt l O:=by repeat(first | exact Pt.nil | refine Pt.cons (by repeat(first | exact zM.here | apply zM.there)) ?_)):Pt l O:=h
theorem zM.zC {x:Own} {O R:List Own} (h:zM x O R:=by repeat(first | exact zM.here | apply zM.there)):zM x O R:=h
end
end Go.Lw
end
section
set_option linter.unusedVariables false
namespace Go.Lw
open Go.RowKit
section
variable {cx:Cx} {n:Nat} {ks:List (Nat×Value)} {O:List Own} {V:View} {P:Program} {ops:Array Oper} {Qn:Act→World→Prop} {t:Tr} {i d:Nat} {T X Y:TypeId} {pos:String} {after:Array Edge} {gd:Option (Nat×Bool)} {x y:Operand}
theorem AtC.toT {O1:List Own} {V1:View} (h:AtT cx n ks O V P ops Qn (.n true i t)):AtC cx n ks O V O1 V1 P ops Qn (.n true i t):=fun h0 a w hk hm=>by
 obtain⟨o,ho,hs⟩:=h a w hk hm
 exact⟨o,ho,qI (fun a' w' ⟨S',_,h2,h3⟩=>⟨S',(fun h=>by cases h),h2,h3⟩) hs⟩
theorem AtT.max3 {z:Operand} {X Y Z:TypeId} {k:IntKind} {p q r:Int} (ho:ops[i]? = some ⟨some d,.call ⟨.builtin .max,#[x,y,z],#[X,Y,Z]⟩,T,pos,after,gd⟩) (hg:Gd ks ops gd) (hx:ev ks x=some (.int k p)) (hy:ev ks y=some (.int k q)) (hz:ev ks z=some (.int k r)) (hn:d<n)
  (next:AtT cx n ((d,.int k (max (max p q) r))::ks) O V P ops Qn t):AtT cx n ks O V P ops Qn (.q i t):=
 .q ho hg rfl hn (fun a w hk _=>by
  have e:(if q > p then q else p)=max p q:=by split<;>omega
  have e2:(if r > max p q then r else max p q)=max (max p q) r:=by split<;>omega
  simp[execOp,resolve,invoke,builtin,hk.ev hx,hk.ev hy,hk.ev hz,Builtin.max_,Builtin.max2,e,e2]) next
end
end Go.Lw
end
section
set_option linter.unusedVariables false
namespace Go.Lw
open Go.Instr
def bt (s:ByteArray):List UInt8:=s.data.toList
def bv (s:ByteArray) (k:Nat):Int:=(((bt s).getD k 0).toNat:Int)
theorem bt_ext {a b:ByteArray} (h:bt a=bt b):a=b:=by
 cases a with
 | mk x=>cases b with
  | mk y=>
   have:x=y:=Array.ext' h
   rw[this]
theorem bt_eq (a b:ByteArray):(a.toList == b.toList)=decide (a=b):=by
 rw[ByteArray.toList_eq,ByteArray.toList_eq]
 rw[Bool.eq_iff_iff,beq_iff_eq,decide_eq_true_eq]
 exact⟨fun h=>bt_ext h,fun h=>by rw[h]⟩
section
variable {cx:Cx} {n:Nat} {ks:List (Nat×Value)} {O R:List Own} {V:View} {P:Program} {ops:Array Oper} {Qn:Act→World→Prop} {t:Tr} {i d:Nat} {x y:Operand} {T:TypeId} {pos:String} {after:Array Edge} {gd:Option (Nat×Bool)} {X Y:TypeId}
theorem AtT.ixS {s:ByteArray} {k:IntKind} {j:Int} (ho:ops[i]? = some ⟨some d,.index X x y,T,pos,after,gd⟩) (hg:Gd ks ops gd) (hX:P.underlying X=some .string) (hx:ev ks x=some (.string s)) (hy:ev ks y=some (.int k j)) (h0:0≤j) (h1:j<s.size) (hn:d<n)
  (next:AtT cx n ((d,.int .u8 (bv s j.toNat))::ks) O V P ops Qn t):AtT cx n ks O V P ops Qn (.q i t):=
 .q ho hg rfl hn (fun a w hk hm=>by
  have h2:j.toNat<s.size:=by omega
  have h3:j.toNat<s.data.size:=h2
  have e:((s[j.toNat]'h2).toNat:Int)=bv s j.toNat:=by
   unfold bv bt
   have h4:s.data.toList.getD j.toNat 0=s.data[j.toNat]'h3:=by
    rw[List.getD_eq_getElem?_getD,Array.getElem?_toList,Array.getElem?_eq_getElem h3]; rfl
   rw[h4]; rfl
  simp only[execOp,hk.ev hx,hk.ev hy,Sem.run_bind,run_index_string (P:=P) w X s k j hX,dif_pos (And.intro h0 h1),Result.andThen_ok,Sem.run_pure,e]) next
theorem AtT.eqStr {a b:ByteArray} (ho:ops[i]? = some ⟨some d,.binOp .eql X x y Y,T,pos,after,gd⟩) (hg:Gd ks ops gd) (hx:ev ks x=some (.string a)) (hy:ev ks y=some (.string b)) (hn:d<n)
  (next:AtT cx n ((d,.bool (decide (a=b)))::ks) O V P ops Qn t):AtT cx n ks O V P ops Qn (.q i t):=
 .q ho hg rfl hn (fun c w hk hm=>by
  have:=bt_eq a b
  simp[execOp,hk.ev hx,hk.ev hy,eqGuard_at_string,binOp_string_eql,this]) next
end
end Go.Lw
end
section
set_option linter.unusedVariables false
namespace Go.Lw
open Go.RowKit
def bitsOf:List Nat→Nat
 | []=>0
 | i::l=>bitsOf l ||| 2 ^ i
theorem bits_test:∀ (l:List Nat) (j:Nat),(bitsOf l).testBit j=l.contains j
 | [],j=>by simp[bitsOf]
 | i::l,j=>by
  simp only[bitsOf,Nat.testBit_or,bits_test l j,Nat.testBit_two_pow,List.contains_cons]
  rw[Bool.or_comm]
  congr 1
  by_cases h:i=j
  ·subst h; simp
  ·have h':¬ j=i:=fun e=>h e.symm
   simp[h,h']
theorem bits_apart (l k:List Nat) (h:(bitsOf l &&& bitsOf k == 0)=true):∀ i∈k,i∉l:=by
 rw[beq_iff_eq]at h
 intro i hk hl
 have:=congrArg (·.testBit i) h
 simp only[Nat.testBit_and,bits_test,Nat.zero_testBit]at this
 have h1:l.contains i=true:=by simpa using hl
 have h2:k.contains i=true:=by simpa using hk
 rw[h1,h2]at this
 cases this
structure Rl (ops:Array Oper) (m:Nat) (listed:Array Bool):Prop where
 size:listed.size=ops.size
 bit:∀ j,listed.getD j false=m.testBit j
section
variable {ops:Array Oper} {m:Nat} {listed:Array Bool}
theorem Rl.t (h:Rl ops m listed) {j:Nat} (hj:j<ops.size):listed.getD j true=m.testBit j:=by
 have:=h.bit j
 have hj':j<listed.size:=by rw[h.size]; exact hj
 simp[hj']at this⊢
 exact this
def WOk (ops:Array Oper) (acc:List Nat):Prop:=∀ j i,(acc.getD j 0).testBit i=true→Waits ops j i
theorem Rl.set (h:Rl ops m listed) {i:Nat} (hi:i∈Region.ready .any ops listed):Rl ops (m ||| 2 ^ i) (listed.setIfInBounds i true):=by
 obtain⟨_,o,ho,_⟩:=mem_ready.1 hi
 have hlt:i<listed.size:=by rw[h.size]; exact(Array.getElem?_eq_some_iff.1 ho).1
 refine⟨by simp[h.size],fun j=>?_⟩
 rw[Nat.testBit_or,Nat.testBit_two_pow,←h.bit j]
 by_cases c:i=j
 ·subst c
  simp[Array.getElem?_setIfInBounds_self_of_lt hlt]
 ·rw[getD_set_ne false c]
  simp[c]
end
end Go.Lw
end
section
namespace Go.Proofs.YtmdcedioddchfaaGreatDoor.C
open Go.Lw
theorem tk1:tkB Tryz.prog 1=some (false,1):=by kernel_rfl
theorem z1:zx Tryz.prog 1=some Go.Value.nilFunc:=by kernel_rfl
theorem tk2:tkB Tryz.prog 2=some (false,1):=by kernel_rfl
theorem z2:zx Tryz.prog 2=some (Go.Value.int Go.IntKind.i64 0):=by kernel_rfl
theorem rw2:rowB Tryz.prog 2=some ((Go.Value.int Go.IntKind.i64 0),1,8):=by kernel_rfl
theorem tk3:tkB Tryz.prog 3=some (false,1):=by kernel_rfl
theorem z3:zx Tryz.prog 3=some (Go.Value.int Go.IntKind.i64 0):=by kernel_rfl
theorem rw3:rowB Tryz.prog 3=some ((Go.Value.int Go.IntKind.i64 0),1,8):=by kernel_rfl
theorem z4:zx Tryz.prog 4=some (Go.Value.bool Bool.false):=by kernel_rfl
theorem z5:zx Tryz.prog 5=some (Go.Value.int Go.IntKind.u8 0):=by kernel_rfl
theorem z9:zx Tryz.prog 9=some (Go.Value.string (ByteArray.mk #[])):=by kernel_rfl
theorem z20:zx Tryz.prog 20=some Go.Value.nilIface:=by kernel_rfl
theorem z21:zx Tryz.prog 21=some (Go.Value.int Go.IntKind.i32 0):=by kernel_rfl
theorem qH:tkB Tryz.prog 22=some (false,1):=by kernel_rfl
theorem qR:tkB Tryz.prog 24=some (true,2):=by kernel_rfl
theorem zI:foB Tryz.prog 24 0=some 0:=by kernel_rfl
theorem zB:foB Tryz.prog 24 1=some 1:=by kernel_rfl
theorem tk25:tkB Tryz.prog 25=some (false,1):=by kernel_rfl
theorem z31:zx Tryz.prog 31=some Go.Value.nilFunc:=by kernel_rfl
theorem tk32:tkB Tryz.prog 32=some (false,1):=by kernel_rfl
theorem z32:zx Tryz.prog 32=some (Go.Value.slice Option.none 0 0):=by kernel_rfl
theorem jk:tkB Tryz.prog 36=some (false,1):=by kernel_rfl
theorem tk37:tkB Tryz.prog 37=some (false,1):=by kernel_rfl
theorem z37:zx Tryz.prog 37=some (Go.Value.slice Option.none 0 0):=by kernel_rfl
theorem jR:tkB Tryz.prog 39=some (true,3):=by kernel_rfl
theorem z39:zx Tryz.prog 39=some (Go.Value.agg #[(Go.Value.slice Option.none 0 0),(Go.Value.slice Option.none 0 0),(Go.Value.slice Option.none 0 0)]):=by kernel_rfl
theorem qo:foB Tryz.prog 39 0=some 0:=by kernel_rfl
theorem qG:foB Tryz.prog 39 1=some 1:=by kernel_rfl
theorem qF:foB Tryz.prog 39 2=some 2:=by kernel_rfl
theorem kw:tkB Tryz.prog 41=some (true,3):=by kernel_rfl
theorem z41:zx Tryz.prog 41=some (Go.Value.agg #[(Go.Value.int Go.IntKind.i64 0),(Go.Value.int Go.IntKind.i64 0),(Go.Value.int Go.IntKind.i64 0)]):=by kernel_rfl
theorem zQ:foB Tryz.prog 41 0=some 0:=by kernel_rfl
theorem zA:foB Tryz.prog 41 1=some 1:=by kernel_rfl
theorem zT:foB Tryz.prog 41 2=some 2:=by kernel_rfl
theorem qY:tkB Tryz.prog 43=some (true,2):=by kernel_rfl
theorem z43:zx Tryz.prog 43=some (Go.Value.agg #[(Go.Value.int Go.IntKind.i64 0),(Go.Value.int Go.IntKind.i64 0)]):=by kernel_rfl
theorem rw43:rowB Tryz.prog 43=some ((Go.Value.agg #[(Go.Value.int Go.IntKind.i64 0),(Go.Value.int Go.IntKind.i64 0)]),2,16):=by kernel_rfl
theorem qW:foB Tryz.prog 43 0=some 0:=by kernel_rfl
theorem qm:foB Tryz.prog 43 1=some 1:=by kernel_rfl
theorem tk45:tkB Tryz.prog 45=some (true,2):=by kernel_rfl
theorem z45:zx Tryz.prog 45=some (Go.Value.agg #[(Go.Value.int Go.IntKind.i64 0),(Go.Value.int Go.IntKind.i64 0)]):=by kernel_rfl
theorem rw45:rowB Tryz.prog 45=some ((Go.Value.agg #[(Go.Value.int Go.IntKind.i64 0),(Go.Value.int Go.IntKind.i64 0)]),2,16):=by kernel_rfl
theorem jV:foB Tryz.prog 45 0=some 0:=by kernel_rfl
theorem fo45_1:foB Tryz.prog 45 1=some 1:=by kernel_rfl
theorem z46:zx Tryz.prog 46=some Go.Value.nilFunc:=by kernel_rfl
theorem z51:zx Tryz.prog 51=some Go.Value.nilFunc:=by kernel_rfl
theorem qD:tkB Tryz.prog 52=some (false,1):=by kernel_rfl
theorem z52:zx Tryz.prog 52=some (Go.Value.pointer Option.none):=by kernel_rfl
theorem fo59_0:foB Tryz.prog 59 0=some 0:=by kernel_rfl
theorem jU:foB Tryz.prog 59 1=some 2:=by kernel_rfl
theorem qK:foB Tryz.prog 59 2=some 3:=by kernel_rfl
theorem jf:foB Tryz.prog 59 3=some 28:=by kernel_rfl
theorem je:foB Tryz.prog 59 4=some 53:=by kernel_rfl
theorem tk63:tkB Tryz.prog 63=some (false,1):=by kernel_rfl
theorem tk68:tkB Tryz.prog 68=some (true,5):=by kernel_rfl
theorem z68:zx Tryz.prog 68=some (Go.Value.agg #[(Go.Value.int Go.IntKind.i64 0),(Go.Value.int Go.IntKind.i64 0),(Go.Value.int Go.IntKind.i64 0),(Go.Value.int Go.IntKind.i64 0),(Go.Value.int Go.IntKind.i64 0)]):=by kernel_rfl
theorem z70:zx Tryz.prog 70=some Go.Value.nilFunc:=by kernel_rfl
theorem z72:zx Tryz.prog 72=some Go.Value.nilFunc:=by kernel_rfl
theorem z75:zx Tryz.prog 75=some (Go.Value.slice Option.none 0 0):=by kernel_rfl
theorem z76:zx Tryz.prog 76=some Go.Value.nilFunc:=by kernel_rfl
theorem tk96:tkB Tryz.prog 96=some (false,1):=by kernel_rfl
theorem z96:zx Tryz.prog 96=some (Go.Value.map Option.none):=by kernel_rfl
theorem tk99:tkB Tryz.prog 99=some (true,2):=by kernel_rfl
theorem z99:zx Tryz.prog 99=some (Go.Value.agg #[(Go.Value.int Go.IntKind.i64 0),(Go.Value.int Go.IntKind.i64 0)]):=by kernel_rfl
theorem fo99_1:foB Tryz.prog 99 1=some 1:=by kernel_rfl
theorem tk105:tkB Tryz.prog 105=some (true,8):=by kernel_rfl
theorem z105:zx Tryz.prog 105=some (Go.Value.agg #[(Go.Value.slice Option.none 0 0),(Go.Value.slice Option.none 0 0),(Go.Value.slice Option.none 0 0),(Go.Value.int Go.IntKind.i64 0),(Go.Value.int Go.IntKind.i64 0),(Go.Value.int Go.IntKind.i64 0),(Go.Value.int Go.IntKind.i64 0),(Go.Value.int Go.IntKind.i64 0)]):=by kernel_rfl
theorem qC:foB Tryz.prog 105 0=some 0:=by kernel_rfl
theorem jm:foB Tryz.prog 105 1=some 3:=by kernel_rfl
theorem z116:zx Tryz.prog 116=some Go.Value.nilFunc:=by kernel_rfl
theorem z119:zx Tryz.prog 119=some Go.Value.nilFunc:=by kernel_rfl
theorem z124:zx Tryz.prog 124=some Go.Value.nilFunc:=by kernel_rfl
theorem z127:zx Tryz.prog 127=some Go.Value.nilFunc:=by kernel_rfl
theorem tk131:tkB Tryz.prog 131=some (false,1):=by kernel_rfl
theorem z131:zx Tryz.prog 131=some Go.Value.nilFunc:=by kernel_rfl
theorem z138:zx Tryz.prog 138=some Go.Value.nilFunc:=by kernel_rfl
theorem z139:zx Tryz.prog 139=some Go.Value.nilFunc:=by kernel_rfl
theorem tk146:tkB Tryz.prog 146=some (false,1):=by kernel_rfl
theorem z146:zx Tryz.prog 146=some (Go.Value.slice Option.none 0 0):=by kernel_rfl
theorem tk148:tkB Tryz.prog 148=some (true,2):=by kernel_rfl
theorem z148:zx Tryz.prog 148=some (Go.Value.agg #[(Go.Value.int Go.IntKind.i64 0),(Go.Value.int Go.IntKind.i64 0)]):=by kernel_rfl
theorem rw148:rowB Tryz.prog 148=some ((Go.Value.agg #[(Go.Value.int Go.IntKind.i64 0),(Go.Value.int Go.IntKind.i64 0)]),2,16):=by kernel_rfl
theorem jO:foB Tryz.prog 148 0=some 0:=by kernel_rfl
theorem fo148_1:foB Tryz.prog 148 1=some 1:=by kernel_rfl
theorem xz:foB Tryz.prog 150 0=some 0:=by kernel_rfl
theorem jN:foB Tryz.prog 150 1=some 1:=by kernel_rfl
theorem tk161:tkB Tryz.prog 161=some (true,2):=by kernel_rfl
theorem z161:zx Tryz.prog 161=some (Go.Value.agg #[(Go.Value.int Go.IntKind.i64 0),(Go.Value.int Go.IntKind.i64 0)]):=by kernel_rfl
theorem fo161_0:foB Tryz.prog 161 0=some 0:=by kernel_rfl
theorem fo161_1:foB Tryz.prog 161 1=some 1:=by kernel_rfl
theorem z164:zx Tryz.prog 164=some Go.Value.nilFunc:=by kernel_rfl
theorem ok4:zy Tryz.prog 4:=zu Tryz.func4 (by kernel_rfl) (by kernel_rfl)
theorem ok5:zy Tryz.prog 5:=zu Tryz.func5 (by kernel_rfl) (by kernel_rfl)
theorem ok7:zy Tryz.prog 7:=zu Tryz.func7 (by kernel_rfl) (by kernel_rfl)
theorem ok8:zy Tryz.prog 8:=zu Tryz.func8 (by kernel_rfl) (by kernel_rfl)
theorem ok9:zy Tryz.prog 9:=zu Tryz.func9 (by kernel_rfl) (by kernel_rfl)
theorem ok16:zy Tryz.prog 16:=zu Tryz.func16 (by kernel_rfl) (by kernel_rfl)
theorem ok17:zy Tryz.prog 17:=zu Tryz.func17 (by kernel_rfl) (by kernel_rfl)
theorem ok18:zy Tryz.prog 18:=zu Tryz.func18 (by kernel_rfl) (by kernel_rfl)
theorem ok19:zy Tryz.prog 19:=zu Tryz.func19 (by kernel_rfl) (by kernel_rfl)
theorem ok43:zy Tryz.prog 43:=zu Tryz.func43 (by kernel_rfl) (by kernel_rfl)
theorem ok44:zy Tryz.prog 44:=zu Tryz.func44 (by kernel_rfl) (by kernel_rfl)
theorem ok45:zy Tryz.prog 45:=zu Tryz.func45 (by kernel_rfl) (by kernel_rfl)
theorem ok46:zy Tryz.prog 46:=zu Tryz.func46 (by kernel_rfl) (by kernel_rfl)
theorem ok47:zy Tryz.prog 47:=zu Tryz.func47 (by kernel_rfl) (by kernel_rfl)
theorem ok48:zy Tryz.prog 48:=zu Tryz.func48 (by kernel_rfl) (by kernel_rfl)
theorem ok92:zy Tryz.prog 92:=zu Tryz.func92 (by kernel_rfl) (by kernel_rfl)
theorem ok93:zy Tryz.prog 93:=zu Tryz.func93 (by kernel_rfl) (by kernel_rfl)
theorem ok94:zy Tryz.prog 94:=zu Tryz.func94 (by kernel_rfl) (by kernel_rfl)
theorem ok95:zy Tryz.prog 95:=zu Tryz.func95 (by kernel_rfl) (by kernel_rfl)
theorem ok96:zy Tryz.prog 96:=zu Tryz.func96 (by kernel_rfl) (by kernel_rfl)
theorem ok97:zy Tryz.prog 97:=zu Tryz.func97 (by kernel_rfl) (by kernel_rfl)
theorem ok98:zy Tryz.prog 98:=zu Tryz.func98 (by kernel_rfl) (by kernel_rfl)
theorem ok99:zy Tryz.prog 99:=zu Tryz.func99 (by kernel_rfl) (by kernel_rfl)
theorem ok138:zy Tryz.prog 138:=zu Tryz.func138 (by kernel_rfl) (by kernel_rfl)
theorem ok151:zy Tryz.prog 151:=zu Tryz.func151 (by kernel_rfl) (by kernel_rfl)
theorem ok152:zy Tryz.prog 152:=zu Tryz.func152 (by kernel_rfl) (by kernel_rfl)
theorem ok153:zy Tryz.prog 153:=zu Tryz.func153 (by kernel_rfl) (by kernel_rfl)
theorem ok154:zy Tryz.prog 154:=zu Tryz.func154 (by kernel_rfl) (by kernel_rfl)
theorem bs32_1_0 (x1:Int) (x2:Int) (w:World):(Instr.buildSlice 32 1 #[(0,(.agg #[(.int .i64 x1),(.int .i64 x2)]))]).run Tryz.prog w=.ok (.slice (some ⟨w.heap.size,0,none⟩) 1 1) (w.alloc (LC [(.int .i64 x1),(.int .i64 x2)] 43)):=by kernel_rfl
theorem bs22_1_0 (x1:Int) (w:World):(Instr.buildSlice 22 1 #[(0,(.int .i64 x1))]).run Tryz.prog w=.ok (.slice (some ⟨w.heap.size,0,none⟩) 1 1) (w.alloc (LC [(.int .i64 x1)] 3)):=by kernel_rfl
theorem bd59_0_1 (x1:Int) (x2:Option Addr) (x3:Nat) (x4:Nat) (x5:Option Addr) (x6:Nat) (x7:Nat) (w:World):(Instr.build 59 #[(0,(.agg #[(.int .i64 x1),(.slice x2 x3 x4)])),(1,(.slice x5 x6 x7))]).run Tryz.prog w=.ok (.agg #[(.int .i64 x1),(.slice x2 x3 x4),(.slice x5 x6 x7),(Go.Value.int Go.IntKind.i64 0),(Go.Value.int Go.IntKind.i64 0),(Go.Value.int Go.IntKind.i64 0),(Go.Value.int Go.IntKind.i64 0),(Go.Value.int Go.IntKind.i64 0),(Go.Value.int Go.IntKind.i64 0),(Go.Value.int Go.IntKind.i64 0),(Go.Value.int Go.IntKind.i64 0),(Go.Value.int Go.IntKind.i64 0),(Go.Value.int Go.IntKind.i64 0),(Go.Value.int Go.IntKind.i64 0),(Go.Value.int Go.IntKind.i64 0),(Go.Value.int Go.IntKind.i64 0),(Go.Value.int Go.IntKind.i64 0),(Go.Value.int Go.IntKind.i64 0),(Go.Value.int Go.IntKind.i64 0),(Go.Value.int Go.IntKind.i64 0),(Go.Value.int Go.IntKind.i64 0),(Go.Value.int Go.IntKind.i64 0),(Go.Value.int Go.IntKind.i64 0),(Go.Value.int Go.IntKind.i64 0),(Go.Value.int Go.IntKind.i64 0),(Go.Value.int Go.IntKind.i64 0),(Go.Value.int Go.IntKind.i64 0),(Go.Value.int Go.IntKind.i64 0),(Go.Value.int Go.IntKind.i64 0),(Go.Value.int Go.IntKind.i64 0),(Go.Value.int Go.IntKind.i64 0),(Go.Value.int Go.IntKind.i64 0),(Go.Value.int Go.IntKind.i64 0),(Go.Value.int Go.IntKind.i64 0),(Go.Value.int Go.IntKind.i64 0),(Go.Value.int Go.IntKind.i64 0),(Go.Value.int Go.IntKind.i64 0),(Go.Value.int Go.IntKind.i64 0),(Go.Value.int Go.IntKind.i64 0),(Go.Value.int Go.IntKind.i64 0),(Go.Value.int Go.IntKind.i64 0),(Go.Value.int Go.IntKind.i64 0),(Go.Value.int Go.IntKind.i64 0),(Go.Value.int Go.IntKind.i64 0),(Go.Value.int Go.IntKind.i64 0),(Go.Value.int Go.IntKind.i64 0),(Go.Value.int Go.IntKind.i64 0),(Go.Value.int Go.IntKind.i64 0),(Go.Value.int Go.IntKind.i64 0),(Go.Value.int Go.IntKind.i64 0),(Go.Value.int Go.IntKind.i64 0),(Go.Value.int Go.IntKind.i64 0),(Go.Value.int Go.IntKind.i64 0),(Go.Value.int Go.IntKind.i64 0),(Go.Value.int Go.IntKind.i64 0),(Go.Value.int Go.IntKind.i64 0),(Go.Value.int Go.IntKind.i64 0),(Go.Value.int Go.IntKind.i64 0),(Go.Value.int Go.IntKind.i64 0),(Go.Value.int Go.IntKind.i64 0),(Go.Value.int Go.IntKind.i64 0),(Go.Value.int Go.IntKind.i64 0),(Go.Value.int Go.IntKind.i64 0),(Go.Value.int Go.IntKind.i64 0),(Go.Value.int Go.IntKind.i64 0),(Go.Value.int Go.IntKind.i64 0),(Go.Value.int Go.IntKind.i64 0),(Go.Value.int Go.IntKind.i64 0),(Go.Value.int Go.IntKind.i64 0),(Go.Value.int Go.IntKind.i64 0),(Go.Value.int Go.IntKind.i64 0),(Go.Value.int Go.IntKind.i64 0),(Go.Value.int Go.IntKind.i64 0),(Go.Value.int Go.IntKind.i64 0),(Go.Value.int Go.IntKind.i64 0),(Go.Value.int Go.IntKind.i64 0),(Go.Value.int Go.IntKind.i64 0),(Go.Value.int Go.IntKind.i64 0)]) w:=by kernel_rfl
theorem bs36_2_0_1 (x1:Int) (x2:Int) (w:World):(Instr.buildSlice 36 2 #[(0,(.int .i64 x1)),(1,(.int .i64 x2))]).run Tryz.prog w=.ok (.slice (some ⟨w.heap.size,0,none⟩) 2 2) (w.alloc (LC [(.int .i64 x1),(.int .i64 x2)] 2)):=by kernel_rfl
theorem bd43_0_1 (x1:Int) (x2:Int) (w:World):(Instr.build 43 #[(0,(.int .i64 x1)),(1,(.int .i64 x2))]).run Tryz.prog w=.ok (.agg #[(.int .i64 x1),(.int .i64 x2)]) w:=by kernel_rfl
theorem ffm:Tryz.prog.follows .mixedOrders=true:=by kernel_rfl
end Go.Proofs.YtmdcedioddchfaaGreatDoor.C
end
section
set_option linter.unusedSectionVars false
set_option linter.unusedSimpArgs false
set_option linter.unusedVariables false
namespace Go.Lw
open Go.RowKit
section
variable {α β:Type} [DecidableEq α] (f:α→β)
theorem fk_new {a:α} : ∀ {M:MM α β} {k:Nat},(∀ e∈M,e.1≠a)→fk a M k=none
 | [],_,_=>rfl
 | e::M,k,h=>by
  have:¬ a=e.1:=fun he=>h e (by simp) he.symm
  simp only[fk,this,if_false]
  exact fk_new fun e he=>h e (List.mem_cons_of_mem _ he)
theorem mdel_eq {a:α} : ∀ {M:MM α β},(M.map (·.1)).Nodup→mdel a M=M.filter fun e=>!decide (e.1=a)
 | [],_=>rfl
 | e::M,h=>by
  simp only[List.map_cons,List.nodup_cons]at h
  by_cases c:a=e.1
  ·have:∀ e'∈M,(!decide (e'.1=a))=true:=fun e' he=>by
    have:e'.1≠a:=fun hc=>h.1 (by rw[←c,←hc]; exact List.mem_map_of_mem he)
    simp[this]
   simp only[mdel,c,if_true,List.filter_cons,decide_true,Bool.not_true,Bool.false_eq_true,if_false]
   rw[←c]
   exact(List.filter_eq_self.2 this).symm
  ·have c':¬ e.1=a:=fun h=>c h.symm
   simp[mdel,c,c',mdel_eq h.2]
end
def left {α β:Type} (g:α×β×Nat→Bool) (M:MM α β) (seen:Array Nat):MM α β:=M.filter fun e=>g e || !seen.contains e.2.2
theorem left_nil {α β:Type} (g:α×β×Nat→Bool) (M:MM α β):left g M #[]=M:=by
 unfold left; rw[List.filter_eq_self.2]; intro e _; simp
theorem inj_of {γ δ:Type} (h:γ→δ):∀ {l:List γ} {x y:γ},(l.map h).Nodup→x∈l→y∈l→h x=h y→x=y
 | b::l,x,y,hn,hx,hy,e=>by
  simp only[List.map_cons,List.nodup_cons]at hn
  rcases List.mem_cons.1 hx with hx' | hx'<;>rcases List.mem_cons.1 hy with hy' | hy'
  ·rw[hx',hy']
  ·exact absurd (by rw[←hx',e]; exact List.mem_map_of_mem hy') hn.1
  ·exact absurd (by rw[←hy',←e]; exact List.mem_map_of_mem hx') hn.1
  ·exact inj_of h hn.2 hx' hy' e
theorem filter_lt {γ:Type} {p q:γ→Bool} : ∀ {l:List γ} {x:γ},(∀ y∈l,p y=true→q y=true)→x∈l→q x=true→p x=false→(l.filter p).length<(l.filter q).length
 | b::l,x,h,hx,hq,hp=>by
  have mono:∀ l:List γ,(∀ y∈l,p y=true→q y=true)→(l.filter p).length≤(l.filter q).length:=by
   intro l
   induction l with
   | nil=>intro _; simp
   | cons b l ih=>
    intro h
    have:=ih fun y hy=>h y (List.mem_cons_of_mem _ hy)
    by_cases c:p b=true
    ·have d:=h b (by simp) c
     simp[List.filter_cons,c,d,this]
    ·simp only[List.filter_cons,c,if_false,Bool.false_eq_true]
     split
     ·simp only[List.length_cons]; omega
     ·exact this
  rcases List.mem_cons.1 hx with rfl | hx
  ·have:=mono l fun y hy=>h y (List.mem_cons_of_mem _ hy)
   simp only[List.filter_cons,hp,hq,if_true,if_false,Bool.false_eq_true,List.length_cons]; omega
  ·have ih:=filter_lt (fun y hy=>h y (List.mem_cons_of_mem _ hy)) hx hq hp
   by_cases c:p b=true
   ·have d:=h b (by simp) c
    simp only[List.filter_cons,c,d,if_true,List.length_cons]; omega
   ·simp only[List.filter_cons,c,if_false,Bool.false_eq_true]
    split
    ·simp only[List.length_cons]; omega
    ·exact ih
theorem left_keep {α β:Type} {g:α×β×Nat→Bool} {M:MM α β} {seen:Array Nat} {e:α×β×Nat} (hb:(M.map (·.2.2)).Nodup) (he:e∈M) (hg:g e=true):left g M (seen.push e.2.2)=left g M seen:=by
 unfold left
 refine List.filter_congr fun x hx=>?_
 by_cases c:x.2.2=e.2.2
 ·have:x=e:=inj_of (fun e:α×β×Nat=>e.2.2) hb hx he c
  subst this; simp[hg]
 ·have:¬ e.2.2=x.2.2:=fun h=>c h.symm
  simp[Array.contains_push,c]
theorem left_del {α β:Type} [DecidableEq α] {g:α×β×Nat→Bool} {M:MM α β} {seen:Array Nat} {e:α×β×Nat} (hb:(M.map (·.2.2)).Nodup) (hk:(M.map (·.1)).Nodup) (he:e∈M) (hg:g e=false) :
  mdel e.1 (left g M seen)=left g M (seen.push e.2.2):=by
 have hkl:((left g M seen).map (·.1)).Nodup:=hk.sublist ((List.filter_sublist).map _)
 rw[mdel_eq hkl]
 unfold left
 rw[List.filter_filter]
 refine List.filter_congr fun x hx=>?_
 by_cases c:x.1=e.1
 ·have:x=e:=inj_of (fun e:α×β×Nat=>e.1) hk hx he c
  subst this; simp[hg]
 ·have:¬ x.2.2=e.2.2:=fun h=>c (by rw[inj_of (fun e:α×β×Nat=>e.2.2) hb hx he h])
  simp[Array.contains_push,c,this]
theorem unseen_lt {α β:Type} {M:MM α β} {seen:Array Nat} {e:α×β×Nat} (he:e∈M) (hs:e.2.2∉seen) :
  (M.filter fun x=>!(seen.push e.2.2).contains x.2.2).length<(M.filter fun x=>!seen.contains x.2.2).length:=by
 refine filter_lt (x:=e) (fun y _ h=>?_) he (by simpa using hs) (by simp)
 simp at h⊢
 exact h.1
theorem left_end {α β:Type} {g:α×β×Nat→Bool} {M:MM α β} {seen:Array Nat} (h:∀ e∈left g M seen,e.2.2∈seen):left g M seen=M.filter g:=by
 unfold left at *
 refine List.filter_congr fun x hx=>?_
 cases hg:g x with
 | true=>simp
 | false=>
  by_cases c:x.2.2∈seen
  ·simp[c]
  ·have:=h x (by rw[List.mem_filter]; exact⟨hx,by simp[hg,c]⟩)
   exact absurd this c
theorem mhas_iff {α β:Type} [DecidableEq α] (a:α):∀ (M:MM α β),mhas a M=true↔∃ e∈M,e.1=a
 | []=>by simp[mhas]
 | e::M=>by
  by_cases c:a=e.1
  ·simp[mhas,c]
  ·have c':¬ e.1=a:=fun h=>c h.symm
   simp[mhas,c,c',mhas_iff a M]
section
variable {α β:Type} [DecidableEq α] {P:Program} {kt et:TypeId} {ek:α→Value} {ev':β→Value} {M:MM α β} {b c:Nat}
theorem fk_isSome (a:α):∀ (M:MM α β) (i:Nat),(fk a M i).isSome=mhas a M
 | [],_=>rfl
 | e::M,i=>by
  simp only[fk,mhas]
  by_cases c:a=e.1
  ·simp[c]
  ·simp only[c,if_false]; exact fk_isSome a M (i+1)
variable {cx:Cx} {n:Nat} {ks:List (Nat×Value)} {O O' R R':List Own} {V:View} {ops:Array Oper} {Qn:Act→World→Prop} {t:Tr} {i d:Nat} {T:TypeId} {pos:String} {after:Array Edge} {gd:Option (Nat×Bool)} {x y z:Operand}
end
end Go.Lw
end
section
set_option linter.unusedVariables false
set_option linter.unusedSimpArgs false
namespace Go.Lw
open Go.RowKit
section
variable {α β:Type} [DecidableEq α]
theorem mhas_no {a:α} {M:MM α β} (h:¬ mhas a M=true):fk a M 0=none:=by
 have:=fk_isSome a M 0
 cases c:fk a M 0 with
 | none=>rfl
 | some p=>rw[c]at this; exact absurd this.symm h
theorem mhas_yes {a:α} {M:MM α β} (h:mhas a M=true):∃ j v,fk a M 0=some (j,v):=by
 have:=fk_isSome a M 0
 rw[h]at this
 obtain⟨p,hp⟩:=Option.isSome_iff_exists.1 this
 exact⟨p.1,p.2,hp⟩
theorem fk_at {a:α} : ∀ {M:MM α β} {i j:Nat} {v:β},fk a M i=some (j,v)→i≤j∧∃ e,M[j-i]? = some e∧e.1=a
 | [],_,_,_,h=>by cases h
 | e::M,i,j,v,h=>by
  simp only[fk]at h
  split at h
  ·rename_i c
   cases h
   exact⟨Nat.le_refl _,e,by simp,c.symm⟩
  ·obtain⟨h1,e',h2,h3⟩:=fk_at h
   refine⟨by omega,e',?_,h3⟩
   rw[show j-i=(j-(i+1))+1 by omega]
   simpa using h2
variable {P:Program} {kt et:TypeId} {ek:α→Value} {ev':β→Value} {M:MM α β} {b c:Nat}
variable {cx:Cx} {n:Nat} {ks:List (Nat×Value)} {O O' R R':List Own} {V:View} {ops:Array Oper} {Qn:Act→World→Prop} {t:Tr} {i d:Nat} {T:TypeId} {pos:String} {after:Array Edge} {gd:Option (Nat×Bool)} {x y z:Operand}
end
end Go.Lw
end
section
namespace Go.Lw
section
variable {cx:Cx} {n:Nat} {ks:List (Nat×Value)} {O O':List Own} {V:View} {P:Program} {ops:Array Oper} {Qn:Act→World→Prop} {t:Tr} {i:Nat} {T:TypeId} {pos:String} {after:Array Edge} {gd:Option (Nat×Bool)} {x:Operand}
theorem AtT.clearAt {X E E':TypeId} {b off m c:Nat} {zv:Value} {cs us xs:List Value} (ho:ops[i]? = some ⟨none,.call ⟨.builtin .clear,#[x],#[X]⟩,T,pos,after,gd⟩) (hg:Gd ks ops gd) (hX:P.underlying X=some (.slice E)) (hz:zx P E=some zv)
  (hx:ev ks x=some (.slice (some ⟨b,off,none⟩) (m+1) c)) (hu:(Builtin.zeroCells zv.cells (m+1)).toList=us) (hl:off+us.length≤cs.length) (h1:us.all Value.oneCell'=true) (hxs:cs.take off++us++cs.drop (off+us.length)=xs) (hup:Upd (.blk b (LC cs E')) (.blk b (LC xs E')) O O')
  (next:AtT cx n ks O' V P ops Qn t):AtT cx n ks O V P ops Qn (.n true i t):=
 .x ho hg fun a w hk hm=>by
  obtain⟨R,p1,p2⟩:=hup.perm
  have hm1:=hm.perm p1
  have e0:(#[x]:Array Operand).map a.eval=#[.slice (some ⟨b,off,none⟩) (m+1) c]:=by simp[hk.ev hx]
  obtain⟨w',hr,hgr,hh⟩:=qi (P:=P) us 0 off cs w hm1.blk (by omega) (by simpa [List.all_eq_true]using h1)
  rw[Nat.add_zero,hxs]at hh
  have e1:(#[X]:Array TypeId)[0]? = some X:=rfl
  have e2:(#[Value.slice (some ⟨b,off,none⟩) (m+1) c]:Array Value)[0]? = some (Value.slice (some ⟨b,off,none⟩) (m+1) c):=rfl
  simp only[opW,execOp,resolve,e0,Sem.run_bind,Sem.run_pure,Result.andThen_ok,invoke,builtin,Builtin.clear_,e1,e2,run_underlying hX,run_zero hz,hu,hr]
  exact⟨ks,O',V,hk,(hm1.set hgr hh).perm p2.symm,fun h=>(by cases h),next⟩
end
end Go.Lw
end
section
set_option linter.unusedVariables false
namespace Go.Lw
open Go.RowKit
section
variable {cx:Cx} {n:Nat} {ks:List (Nat×Value)} {O:List Own} {V:View} {P:Program} {ops:Array Oper} {Qn:Act→World→Prop} {t:Tr} {i d:Nat} {T:TypeId} {pos:String} {after:Array Edge} {gd:Option (Nat×Bool)} {x y:Operand}
theorem AtT.idxZ {X E:TypeId} {len cap s j:Nat} {k:IntKind} {b:Nat} {ag:Bool} (ho:ops[i]? = some ⟨some d,.indexAddr X x y,T,pos,after,gd⟩) (hg:Gd ks ops gd) (hX:P.underlying X=some (.slice E)) (hE:tkB P E=some (ag,s))
  (hx:ev ks x=some (.slice (some ⟨b,0,none⟩) len cap)) (hy:ev ks y=some (.int k (j:Int))) (h1:j<len) (hn:d<n)
  (next:AtT cx n ((d,.pointer (some ⟨b,j*s,none⟩))::ks) O V P ops Qn t):AtT cx n ks O V P ops Qn (.q i t):=
 AtT.idxO ho hg hX hE hx hy (Int.natCast_nonneg j) (Int.ofNat_lt.2 h1) hn (by
  have e:0+(j:Int).toNat*s=j*s:=by simp
  rw[e]; exact next)
end
theorem flat_setR {α:Type} {enc:α→List Value} {s:Nat} (he:∀ x,(enc x).length=s) (l:List α) (i:Nat) (r:α) (rest:List Value) (h:i<l.length):(flat enc l++rest).take (i*s)++enc r++(flat enc l++rest).drop (i*s+s)=flat enc (l.set i r)++rest:=by
 have hl:(flat enc l).length=l.length*s:=zJ he l
 have h2:i*s+s≤l.length*s:=by
  rw[←Nat.add_one_mul]; exact Nat.mul_le_mul_right s h
 rw[List.take_append_of_le_length (by omega),List.drop_append_of_le_length (by omega),←flat_set he l i r h]
 simp[List.append_assoc]
theorem cells_pre {V:View} {b:Nat} {us rest:List Value} {E:TypeId} {fr:Nat×Nat} (h:V b=some (LC (us++rest) E fr)):Cells V ⟨b,0,none⟩ us:=fun j u hj=>
 qp h j u (by rw[List.getElem?_append_left (List.getElem?_eq_some_iff.1 hj).1]; exact hj)
end Go.Lw
end
section
set_option linter.unusedVariables false
namespace Go.Lw
open Go.RowKit
section
variable {cx:Cx} {O R:List Own} {V:View} {w:World}
theorem Mem.blkRow {b cap n:Nat} {e:TypeId} {s:Nat} {cs:Array Value} {xs:List Value} (h:Mem cx (.blk b (.cells cs e (0,0))::O) V w) (hx:xs.length=n*s) (hs:cs.size=cap*s) (ht:cs.toList.take (n*s)=xs) (hn:n≤cap) (hc:cap≤maxLen) :
  Mem cx (.row (.slice (some ⟨b,0,none⟩) n cap) e s n xs::O) V w:=by
 obtain⟨fp,⟨f,g,rfl,⟨rfl,hb,hh⟩,hl⟩,h2,h3⟩:=h.own
 exact⟨h.below,h.le0,h.fresh,h.view,[b]++g,⟨[b],g,rfl,⟨rfl,hx,.inr ⟨b,cap,cs,rfl,hb,hh,hn,hc,hs,ht⟩⟩,hl⟩,h2,h3⟩
theorem Mem.rowBlk2 {v:Value} {e:TypeId} {s n:Nat} {xs:List Value} (h:Mem cx (.row v e s n xs::O) V w) (hn:n≠0) :
  ∃ b cap rest,v=.slice (some ⟨b,0,none⟩) n cap∧n≤cap∧cap≤maxLen∧(xs++rest).length=cap*s∧Mem cx (.blk b (LC (xs++rest) e)::O) V w:=by
 obtain⟨fp,⟨f,g,rfl,⟨rfl,hr⟩,hl⟩,h2,h3⟩:=h.own
 rcases hr.2 with ⟨rfl,hn0⟩ | ⟨b,cap,cur,rfl,hb,hh,hnc,hcm,hcs,htake⟩
 ·exact absurd hn0 hn
 ·have hcat:xs++cur.toList.drop (n*s)=cur.toList:=by rw[←htake,List.take_append_drop]
  refine⟨b,cap,cur.toList.drop (n*s),rfl,hnc,hcm,by rw[hcat]; simpa using hcs,?_⟩
  have hcur:(LC (xs++cur.toList.drop (n*s)) e:Obj)=.cells cur e (0,0):=by
   show Obj.cells _ e (0,0)=Obj.cells cur e (0,0)
   congr 1
   rw[hcat]
  rw[hcur]
  exact⟨h.below,h.le0,h.fresh,h.view,[b]++g,⟨[b],g,rfl,⟨rfl,hb,hh⟩,hl⟩,by simpa [Value.ownBlock]using h2,by simpa [Value.ownBlock]using h3⟩
end
section
variable {cx:Cx} {n:Nat} {ks:List (Nat×Value)} {O R:List Own} {V:View} {w:World} {K:Act→World→Prop}
theorem At.rowBlk2 {v:Value} {e:TypeId} {s m:Nat} {xs:List Value} (hp:zM (.row v e s m xs) O R) (hm:m≠0)
  (h:∀ b cap rest,v=.slice (some ⟨b,0,none⟩) m cap→m≤cap→cap≤maxLen→(xs++rest).length=cap*s→At cx n ks (.blk b (LC (xs++rest) e)::R) V K):At cx n ks O V K:=fun a w hk hmm=>by
 obtain⟨b,cap,rest,h1,h2,h3,h4,h5⟩:=(hmm.pick hp).rowBlk2 hm
 exact h b cap rest h1 h2 h3 h4 a w hk h5
theorem At.blkRow {b m cap:Nat} {e:TypeId} {s:Nat} {xs rest:List Value} (hp:zM (.blk b (LC (xs++rest) e)) O R) (hl:(xs++rest).length=cap*s) (hx:xs.length=m*s) (h1:m≤cap) (h2:cap≤maxLen)
  (h:At cx n ks (.row (.slice (some ⟨b,0,none⟩) m cap) e s m xs::R) V K):At cx n ks O V K:=fun a w hk hmm=>
 h a w hk ((hmm.pick hp).blkRow hx (by simpa using hl) (by rw[←hx]; exact List.take_left) h1 h2)
end
end Go.Lw
end
section
namespace Go.Lw
def FncM (P:Program) (cx:Cx) (f:FuncId) (args:List Value) (O:List Own) (V:View) (R:Value→List Own→View→Prop):Prop:=
 ∀ w,Mem cx O V w→Calls P f args.toArray w fun e w'=>∃ v O' V',e=.returned v∧Mem cx O' V' w'∧R v O' V'
theorem Mem.ds {cx:Cx} {O:List Own} {V:View} {w:World} (h:Mem cx O V w) (ds:List Deferred):Mem { cx with ds:=ds } O V w:=⟨h.below,h.le0,h.fresh,h.view,h.own⟩
theorem Mem.ds' {cx:Cx} {O:List Own} {V:View} {w:World} {ds:List Deferred} (h:Mem { cx with ds:=ds } O V w):Mem cx O V w:=⟨h.below,h.le0,h.fresh,h.view,h.own⟩
abbrev PostM (cx:Cx) (R:Value→List Own→View→Prop):Ending→World→Prop:=fun e w'=>∃ v O' V',e=.returned v∧Mem cx O' V' w'∧R v O' V'
theorem fncM_of {P:Program} {cx:Cx} {f:FuncId} {fn:Func} {c:Code} {args:List Value} {O:List Own} {V:View} {R:Value→List Own→View→Prop} {n:Nat} (hf:P.funcs[f]? = some fn) (hb:fn.body=some c) (hn:fn.ntmps=n) (hl:args.length≤n)
  (h:At { cx with ds:=[] } n (frame args 0) O V (c.wpIn (FW none) 0 P (bodyPost P fn (PostM cx R)))):FncM P cx f args O V R:=fun w hm=>by
 refine(jB (ro:=none) (n:=0)).1 (callsIn_of_wp hf hb trivial (h _ w ⟨rfl,?_,fun i v hi=>?_⟩ (hm.ds [])) rfl)
 ·simp[hn]; omega
 ·have:=(kZ args 0 i v hi).2
  simp only[Nat.sub_zero]at this
  have hlt:=(List.getElem?_eq_some_iff.1 this).1
  rw[Array.getElem?_append_left (by simpa using hlt)]
  simpa using this
section
variable {cx:Cx} {n:Nat} {ks:List (Nat×Value)} {O O' R:List Own} {V:View} {P:Program} {fn:Func}
theorem At.retM0 {R:Value→List Own→View→Prop} {e:Exit} (he:e=.normal∨e=.ret) (hr:fn.results=#[]) (h:R (.tuple #[]) O V):At { cx with ds:=[] } n ks O V (bodyPost P fn (PostM cx R) e):=fun a w hk hm=>by
 rcases he with rfl | rfl<;>exact⟨hk.defers,_,results_none hr _ _ _,_,O,V,rfl,hm.ds',h⟩
end
section
variable {cx:Cx} {n:Nat} {ks:List (Nat×Value)} {O O':List Own} {V:View} {P:Program} {ops:Array Oper} {Qn:Act→World→Prop} {t:Tr} {i d:Nat} {T:TypeId} {pos:String} {after:Array Edge} {gd:Option (Nat×Bool)}
theorem AtT.callM {f:FuncId} {args:List Operand} {ts:Array TypeId} {vs:List Value} {R:Value→List Own→View→Prop} (ho:ops[i]? = some ⟨some d,.call ⟨.value (.func f),args.toArray,ts⟩,T,pos,after,gd⟩) (hg:Gd ks ops gd) (ha:evs ks args=some vs) (hf:zy P f) (hn:d<n)
  (hp:O.Perm O') (hc:FncM P cx f vs O' V R) (next:∀ v O2 V2,R v O2 V2→AtT cx n ((d,v)::ks) O2 V2 P ops Qn t):AtT cx n ks O V P ops Qn (.n true i t):=
 .x ho hg fun a w hk hm=>by
  have e:args.toArray.map a.eval=vs.toArray:=by rw[←xB hk args vs ha]; simp
  have e2:a.eval (.func f)=.func (.func f) #[] #[]:=rfl
  simp only[opW,execOp,resolve,e,e2,Deferred.ofValue,Sem.run_bind,Sem.run_pure,Result.andThen_ok,invoke,Array.empty_append,Array.append_empty]
  rw[hf vs.toArray w]
  refine(hc w (hm.perm hp)).mono fun e w' ⟨v,O2,V2,h1,h2,h3⟩=>?_
  subst h1
  exact⟨_,O2,V2,hk.put hn v,h2,fun h=>(by cases h),next v O2 V2 h3⟩
end
end Go.Lw
end
section
namespace Go.Lw
theorem pt_all:∀ O:List Own,Pt O O
 | []=>.nil
 | x::O=>.cons .here (pt_all O)
theorem pt_skip {l:List Own} {y:Own} {O:List Own} (h:Pt l O):Pt l (y::O):=by
 induction h generalizing y with
 | nil=>exact .nil
 | cons hx _ ih=>exact .cons (.there hx) ih
theorem Pt.qg {l' l:List Own} (h:Pt l' l:=by repeat(first | exact Pt.nil | exact pt_all _ | refine Pt.cons (by repeat(first | exact zM.here | apply zM.there)) ?_ | refine pt_skip ?_)):Pt l' l:=h
end Go.Lw
end
section
set_option linter.unusedVariables false
set_option linter.unusedSimpArgs false
namespace Go.Lw
open Go.RowKit
section
variable {α β:Type} [DecidableEq α]
def mput (a:α) (v:β) (M:MM α β) (c:Nat):MM α β×Nat:=if mhas a M=true then (mmod a v M,c)else (M++[(a,v,c)],c+1)
variable {P:Program} {kt et:TypeId} {ek:α→Value} {ev':β→Value} {M:MM α β} {b c:Nat}
variable {cx:Cx} {n:Nat} {ks:List (Nat×Value)} {O O' R R':List Own} {V:View} {ops:Array Oper} {Qn:Act→World→Prop} {t:Tr} {i d:Nat} {T:TypeId} {pos:String} {after:Array Edge} {gd:Option (Nat×Bool)} {x y z:Operand}
theorem AtT.mapSet {X:TypeId} (ho:ops[i]? = some ⟨none,.mapUpdate X x y z,T,pos,after,gd⟩) (hg:Gd ks ops gd) (K:KeyL P kt ek) (a:α) (vb:β) (hX:P.underlying X=some (.map kt et)) (hx:ev ks x=some (.map (some b))) (hy:ev ks y=some (ek a)) (hz:ev ks z=some (ev' vb)) (hp:Upd (.blk b (jC ek ev' M c)) (.blk b (jC ek ev' (mput a vb M c).1 (mput a vb M c).2)) O O')
  (next:AtT cx n ks O' V P ops Qn t):AtT cx n ks O V P ops Qn (.n true i t):=by
 by_cases h:mhas a M=true
 ·obtain⟨j,v0,hj⟩:=mhas_yes h
  have e:mput a vb M c=(mmod a vb M,c):=by unfold mput; rw[if_pos h]
  rw[e]at hp
  refine AtT.mapOld (c:=c) ho hg K a vb hX hx hy hz hj (fun e he=>?_) hp next
  obtain⟨_,e',h2,h3⟩:=fk_at hj
  rw[Nat.sub_zero,he]at h2
  cases h2; exact h3
 ·have e:mput a vb M c=(M++[(a,vb,c)],c+1):=by unfold mput; rw[if_neg h]
  rw[e]at hp
  exact AtT.mapNew ho hg K a vb hX hx hy hz (mhas_no h) hp next
end
section
variable {α β:Type} [DecidableEq α]
structure MOk (M:MM α β) (c:Nat):Prop where
 keys:(M.map (·.1)).Nodup
 borns:(M.map (·.2.2)).Nodup
 lt:∀ e∈M,e.2.2<c
theorem MOk.nil (c:Nat):MOk ([]:MM α β) c:=⟨List.nodup_nil,List.nodup_nil,fun e he=>by cases he⟩
theorem mmod_keys (a:α) (v:β):∀ M:MM α β,(mmod a v M).map (·.1)=M.map (·.1)
 | []=>rfl
 | e::M=>by
  simp only[mmod]
  split
  ·rename_i h; simp[h]
  ·simp[mmod_keys a v M]
theorem mmod_borns (a:α) (v:β):∀ M:MM α β,(mmod a v M).map (·.2.2)=M.map (·.2.2)
 | []=>rfl
 | e::M=>by
  simp only[mmod]
  split
  ·rfl
  ·simp[mmod_borns a v M]
theorem mhas_keys (a:α) (M:MM α β):mhas a M=true↔a∈M.map (·.1):=by
 rw[mhas_iff,List.mem_map]
theorem mput_ok {a:α} {v:β} {M:MM α β} {c:Nat} (h:MOk M c):MOk (mput a v M c).1 (mput a v M c).2:=by
 unfold mput
 split
 ·refine⟨by rw[mmod_keys]; exact h.keys,by rw[mmod_borns]; exact h.borns,fun e he=>?_⟩
  have:e.2.2∈(mmod a v M).map (·.2.2):=List.mem_map_of_mem he
  rw[mmod_borns]at this
  obtain⟨e',h1,h2⟩:=List.mem_map.1 this
  rw[←h2]; exact h.lt e' h1
 ·rename_i hn
  refine⟨?_,?_,fun e he=>?_⟩
  ·rw[List.map_append,List.nodup_append]
   refine⟨h.keys,by simp,fun x hx y hy e=>hn ?_⟩
   simp at hy
   rw[mhas_keys,←hy,←e]; exact hx
  ·rw[List.map_append,List.nodup_append]
   refine⟨h.borns,by simp,fun x hx y hy e=>?_⟩
   simp at hy
   obtain⟨e',h1,h2⟩:=List.mem_map.1 hx
   have:=h.lt e' h1
   omega
  ·rcases List.mem_append.1 he with he | he
   ·have:=h.lt e he; omega
   ·simp at he; subst he; exact Nat.lt_succ_self c
end
end Go.Lw
end
section
set_option linter.unusedVariables false
set_option linter.unusedSimpArgs false
set_option linter.unusedSectionVars false
namespace Go.Lw
open Go.RowKit
section
variable {α β:Type} [DecidableEq α] {P:Program} {kt et:TypeId} {ek:α→Value} {ev':β→Value} {M:MM α β} {b c:Nat}
variable {cx:Cx} {n:Nat} {ks:List (Nat×Value)} {O O' R R':List Own} {V:View} {ops:Array Oper} {Qn:Act→World→Prop} {t:Tr} {i d:Nat} {T:TypeId} {pos:String} {after:Array Edge} {gd:Option (Nat×Bool)} {x y z:Operand} {wr:Bool}
theorem AtT.rangeV {X:TypeId} (ho:ops[i]? = some ⟨some d,.range X x,T,pos,after,gd⟩) (hg:Gd ks ops gd) (hX:P.underlying X=some (.map kt et)) (hx:ev ks x=some (.map (some b))) (hv:V b=some (jC ek ev' M c)) (hn:d<n)
  (next:∀ r,AtT cx n ((d,.pointer (some ⟨r,0,none⟩))::ks) (.blk r (.mapIter (some b) c #[] c)::O) V P ops Qn t):AtT cx n ks O V P ops Qn (.n wr i t):=
 .x ho hg fun a w hk hm=>by
  have hb:w.heap[b]? = some (.map (M.map (mE ek ev')).toArray c):=hm.view _ _ hv
  simp only[opW,execOp,hk.ev hx,Instr.range,Sem.run_bind,run_underlying hX,Result.andThen_ok,qN hb,Sem.run_pure,run_newObj]
  exact⟨_,.blk w.heap.size (.mapIter (some b) c #[] c)::O,V,hk.put hn _,hm.alloc _,fun _ u hu=>hu.drop,next _⟩
theorem AtT.nextV {r since c0:Nat} {seen:Array Nat} (ho:ops[i]? = some ⟨some d,.next x false,T,pos,after,gd⟩) (hg:Gd ks ops gd) (hx:ev ks x=some (.pointer (some ⟨r,0,none⟩))) (hr:zM (.blk r (.mapIter (some b) since seen c0)) O R) (hv:V b=some (jC ek ev' M c)) (hold:∀ e∈M,e.2.2<since) (hsc:since≤c0) (hn:d<n)
  (next1:(∀ e∈M,e.2.2∈seen)→AtT cx n ((d,.tuple #[.bool false])::ks) O V P ops Qn t)
  (next2:∀ e∈M,e.2.2∉seen→AtT cx n ((d,.tuple #[.bool true,ek e.1,ev' e.2.1])::ks) (.blk r (.mapIter (some b) since (seen.push e.2.2) c)::R) V P ops Qn t):AtT cx n ks O V P ops Qn (.n true i t):=
 .x ho hg fun a w hk hm=>by
  have hm1:=hm.pick hr
  have hm2:w.heap[b]? = some (.map (M.map (mE ek ev')).toArray c):=hm.view _ _ hv
  have h:=run_next_at (P:=P) w T r b since c0 seen _ c hm1.blk hm2 (fun x hx=>by
   simp only[List.toList_toArray,List.mem_map]at hx
   obtain⟨e,he,rfl⟩:=hx
   exact hold e he) hsc
  rcases h with ⟨h0,h1⟩ | ⟨e,he,w1,hw1,h1⟩
  ·simp only[opW,execOp,hk.ev hx,Sem.run_bind,h1,Result.andThen_ok,Sem.run_pure]
   refine⟨_,O,V,hk.put hn _,hm,fun h=>(by cases h),next1 fun e he=>?_⟩
   have h0':=Array.eq_empty_of_size_eq_zero h0
   unfold leftOf at h0'
   rw[Array.filter_eq_empty_iff]at h0'
   have:=h0' (mE ek ev' e) (by rw[List.mem_toArray]; exact List.mem_map_of_mem he)
   simpa [mE]using this
  ·simp only[opW,execOp,hk.ev hx,Sem.run_bind,h1,Result.andThen_ok,Sem.run_pure]
   unfold leftOf at he
   simp only[Array.toList_filter,List.mem_filter,List.toList_toArray,List.mem_map]at he
   obtain⟨⟨q,hq,rfl⟩,hs⟩:=he
   have hmw:Mem cx (.blk r (.mapIter (some b) since seen c0)::R) V w1:=by
    rcases hw1 with rfl | rfl
    ·exact hm1
    ·exact hm1.ext (Below.refl _ w).drew
   exact⟨_,.blk r (.mapIter (some b) since (seen.push q.2.2) c)::R,V,hk.put hn _,hmw.put,fun h=>(by cases h),next2 q hq (by simpa [mE]using hs)⟩
theorem AtT.entryV {r since:Nat} {seen:Array Nat} {e:α×β×Nat} (ho:ops[i]? = some ⟨some d,.entry x,T,pos,after,gd⟩) (hg:Gd ks ops gd) (hx:ev ks x=some (.pointer (some ⟨r,0,none⟩))) (hr:zM (.blk r (.mapIter (some b) since (seen.push e.2.2) c)) O R) (hv:V b=some (jC ek ev' M c)) (he:e∈M) (hnd:(M.map (·.2.2)).Nodup) (hn:d<n)
  (next:AtT cx n ((d,.tuple #[ek e.1,ev' e.2.1])::ks) O V P ops Qn t):AtT cx n ks O V P ops Qn (.n wr i t):=
 .x ho hg fun a w hk hm=>by
  have hm1:=hm.pick hr
  have hm2:w.heap[b]? = some (.map (M.map (mE ek ev')).toArray c):=hm.view _ _ hv
  have h:=run_entry_at (P:=P) w r b since seen _ c (mE ek ev' e) hm1.blk hm2 (by rw[List.toList_toArray]; exact List.mem_map_of_mem he) (by simpa [Function.comp_def,mE]using hnd)
  simp only[opW,execOp,hk.ev hx,Sem.run_bind,h,Result.andThen_ok,Sem.run_pure]
  exact⟨_,O,V,hk.put hn _,hm,fun _ u hu=>hu,next⟩
end
section
def RwB {α:Type} (V V':View) (E:TypeId) (s:Nat) (enc:α→List Value) (v:Value) (L:List α):Prop:=
 ∃ g cap cs,v=.slice (some ⟨g,0,none⟩) L.length cap∧L.length≤cap∧cap≤maxLen∧V g=none∧V' g=some (LC cs E)∧cs.length=cap*s∧cs.take (L.length*s)=flat enc L
theorem RwB.sl {α:Type} {V V':View} {E:TypeId} {s:Nat} {enc:α→List Value} {v:Value} {L:List α} (he:∀ x,(enc x).length=s) (h:RwB V V' E s enc v L):Sl V' enc s v L:=by
 obtain⟨g,cap,cs,rfl,h1,h2,_,h3,h4,h5⟩:=h
 refine Sl.of_cells he (fun j u hj=>?_) h1 h2
 rw[←h5,List.getElem?_take]at hj
 split at hj
 ·exact qp h3 j u hj
 ·cases hj
theorem RwB.le {α:Type} {V V' V2:View} {E:TypeId} {s:Nat} {enc:α→List Value} {v:Value} {L:List α} (h:RwB V V' E s enc v L) (hl:Le V' V2):RwB V V2 E s enc v L:=by
 obtain⟨g,cap,cs,h0,h1,h2,h3,h4,h5⟩:=h
 exact⟨g,cap,cs,h0,h1,h2,h3,hl _ _ h4,h5⟩
theorem RwB.base {α:Type} {V V0 V':View} {E:TypeId} {s:Nat} {enc:α→List Value} {v:Value} {L:List α} (h:RwB V V' E s enc v L) (hl:Le V0 V):RwB V0 V' E s enc v L:=by
 obtain⟨g,cap,cs,h0,h1,h2,h3,h4⟩:=h
 refine⟨g,cap,cs,h0,h1,h2,?_,h4⟩
 cases hv:V0 g with
 | none=>rfl
 | some o=>rw[hl _ _ hv]at h3; cases h3
variable {P:Program} {cx:Cx} {n:Nat} {ks:List (Nat×Value)} {O O' R R':List Own} {V:View} {ops:Array Oper} {Qn:Act→World→Prop} {t:Tr} {i d:Nat} {T:TypeId} {pos:String} {after:Array Edge} {gd:Option (Nat×Bool)} {x y z:Operand} {wr:Bool}
theorem AtT.appendCR {α:Type} {enc:α→List Value} {l m:List α} {X E:TypeId} {z:Value} {s by_ c k:Nat} {a0:Option Addr} {q:Addr} (ho:ops[i]? = some ⟨some d,.call ⟨.builtin .append,#[x,y],#[X,X]⟩,T,pos,after,gd⟩) (hg:Gd ks ops gd) (hX:P.underlying X=some (.slice E)) (hE:rowB P E=some (z,s,by_)) (hzs:z.cells.size=s) (hs:0<s)
  (hx:ev ks x=some (.slice a0 l.length l.length)) (hv:Sl V enc s (.slice a0 l.length l.length) l) (hy:ev ks y=some (.slice (some q) k c)) (hk':k=m.length) (hc:Cells V q (flat enc m)) (he:∀ x,(enc x).length=s) (h0:m≠[]) (hb:l.length+m.length≤maxLen) (hby:(l.length+m.length)*by_≤140737488355328) (hn:d<n)
  (next:∀ a cap V',Le V V'→RwB V V' E s enc (.slice a (l++m).length cap) (l++m)→AtT cx n ((d,.slice a (l++m).length cap)::ks) O V' P ops Qn t):AtT cx n ks O V P ops Qn (.n wr i t):=
 .x ho hg fun a w hk hm=>by
  subst hk'
  obtain⟨ti,hi,hz,hsz,hbz⟩:=rowB_info hE
  have hm0:0<m.length:=List.length_pos_iff.2 h0
  have hnews:=hc.run hm.view
  have fin:∀ (cs:Array Value) (cap:Nat),l.length+m.length≤cap→cap≤maxLen→cs.size=cap*s→cs.toList.take ((l++m).length*s)=flat enc (l++m)→∃ ks' O' V',Kn cx n ks' (a.put (some d) (.slice (some ⟨w.heap.size,0,none⟩) (l.length+m.length) cap))∧Mem cx O' V' (w.drew.alloc (.cells cs E))∧(wr=false→∀ u,Mem cx O' V' u→Mem cx O V u)∧AtT cx n ks' O' V' P ops Qn t:=fun cs cap h1 h2 h4 h3=>by
   obtain⟨V',k1,k2,k3⟩:=(hm.ext (Below.refl _ w).drew).allocV (.cells cs E)
   have hS:RwB V V' E s enc (.slice (some ⟨w.heap.size,0,none⟩) (l++m).length cap) (l++m):=⟨w.heap.size,cap,cs.toList,rfl,by simpa using h1,h2,by
    cases hv:V w.heap.size with
    | none=>rfl
    | some o=>have:=hm.view.lt hv; omega,k2,by simpa using h4,h3⟩
   refine⟨_,O,V',hk.put hn _,k3,fun _ u hu=>hu.less hm.le0 k1,?_⟩
   have:=next (some ⟨w.heap.size,0,none⟩) cap V' k1 hS
   rw[List.length_append]at this; exact this
  simp only[opW,execOp,resolve,invoke,builtin,Sem.run_bind,Sem.run_pure,Result.andThen_ok,List.map_toArray,List.map_cons,List.map_nil,hk.ev hx,hk.ev hy]
  have hflat:(flat enc (l++m)).length=(l++m).length*s:=zJ he _
  have happ:flat enc (l++m)=flat enc l++flat enc m:=by simp[flat]
  obtain⟨a0',cap0,e0,hcc,hc1,hc2,hc3⟩:=hv
  cases e0
  cases a0 with
  | none=>
   have hl:l=[]:=by cases l with | nil=>rfl | cons _ _=>exact absurd (hc2 (by simp)) (by simp)
   subst hl
   have hr:=run_append_nil (P:=P) w X T E ti z hX hi hz q m.length c (flat enc m) (by rw[zJ he,hsz]) hnews hm0 (by simp only[maxLen]at hb; simp at hb; omega) (by rw[hbz]; simp at hby; omega)
   simp only[List.length_nil,hr,Result.andThen_ok]
   have:=fin ((flat enc m).toArray++Builtin.zeroCells z.cells (grownCap w m.length 0 E-m.length)) (grownCap w m.length 0 E) (by simpa using grownCap_ge w m.length 0 E) (grownCap_le_maxLen w _ _ _ (by simpa using hb)) (by
    have:=grownCap_ge w m.length 0 E
    rw[Array.size_append,size_zeroCells,hzs,List.size_toArray,zJ he,←Nat.add_mul]; congr 1; omega) (by
    simp only[List.nil_append]at hflat⊢
    rw[←hflat,Array.toList_append]; exact List.take_left)
   simpa using this
  | some p=>
   have hold:∀ j u,(flat enc l)[j]? = some u→w.cell? (p.add j)=some u:=(Sl.cells he (⟨some p,_,rfl,hcc,hc1,hc2,hc3⟩:Sl V enc s _ l)).run hm.view
   have hr:=run_append_grow (P:=P) w X T E ti z hX hi hz p l.length l.length (flat enc l) (by rw[zJ he,hsz]) hold q m.length c (flat enc m) (by rw[zJ he,hsz]) hnews (by omega) (by simp only[maxLen]at hb; omega) (growslice_fits (by omega) (by rw[hbz]; exact hby))
   simp only[hr,Result.andThen_ok]
   exact fin _ _ (grownCap_ge w _ _ _) (grownCap_le_maxLen w _ _ _ hb) (by
    have:=grownCap_ge w (l.length+m.length) l.length E
    rw[Array.size_append,Array.size_append,size_zeroCells,hzs,List.size_toArray,List.size_toArray,zJ he,zJ he,←Nat.add_mul,←Nat.add_mul]; congr 1; omega) (by
    rw[←hflat,happ,Array.toList_append,Array.toList_append]; exact List.take_left)
end
end Go.Lw
end
section
set_option linter.unusedVariables false
namespace Go.Ps
open Go.Lw
structure Pp where
 h:Int
 t:Int
structure Bd where
 o:Int
 br:List Int
 h:Int
 c:Int
structure IsL (l:List Int) (n:Int):Prop where
 bd:∀ x∈l,0≤x∧x<n
 up:l.Pairwise (· < ·)
structure BdOk (b:Bd):Prop where
 o:1≤b.o∧b.o≤10
 br:IsL b.br b.o
 ne:(b.br.length:Int)≠b.o
 h:0≤b.h∧b.h≤20
 c:0≤b.c∧b.c≤10
structure PpOk (ps:List Pp):Prop where
 n:ps.length≤12
 p:∀ p∈ps,0≤p.h∧p.h≤20∧1≤p.t∧p.t≤24
theorem up_step {l:List Int} {k:Nat} {x:Int} (h:(l.take k).Pairwise (· < ·)) (hx:l[k]? = some x) (hy:∀ j y,j+1=k→l[j]? = some y→y<x):(l.take (k+1)).Pairwise (· < ·):=by
 have hk:k<l.length:=(List.getElem?_eq_some_iff.1 hx).1
 have e:l.take (k+1)=l.take k++[x]:=by
  rw[List.take_succ_eq_append_getElem hk]; congr 1
  rw[List.getElem?_eq_getElem hk]at hx
  simpa using hx
 rw[e,List.pairwise_append]
 refine⟨h,List.pairwise_singleton _ _,fun a ha b hb=>?_⟩
 obtain rfl:b=x:=by simpa using hb
 obtain⟨i,hi,rfl⟩:=List.getElem_of_mem ha
 rw[List.length_take]at hi
 rw[List.getElem_take]
 have hj:k-1<l.length:=by omega
 have h1:=hy (k-1) l[k-1] (by omega) (List.getElem?_eq_getElem hj)
 rcases Nat.lt_or_ge i (k-1)with c | c
 ·have:=List.pairwise_iff_getElem.1 h i (k-1) (by rw[List.length_take]; omega) (by rw[List.length_take]; omega) c
  rw[List.getElem_take,List.getElem_take]at this
  omega
 ·have:i=k-1:=by omega
  subst this
  exact h1
theorem up_at {l:List Int} {i j:Nat} {x y:Int} (h:l.Pairwise (· < ·)) (hx:l[i]? = some x) (hy:l[j]? = some y) (hij:i<j):x<y:=by
 obtain⟨hi,rfl⟩:=List.getElem?_eq_some_iff.1 hx
 obtain⟨hj,rfl⟩:=List.getElem?_eq_some_iff.1 hy
 exact List.pairwise_iff_getElem.1 h i j hi hj hij
end Go.Ps
namespace Go.Ps
open Go.Lw
theorem fk_new {a:Int} : ∀ {M:MM Int Int} {i:Nat},(∀ e∈M,e.1≠a)→fk a M i=none
 | [],_,_=>rfl
 | e::M,i,h=>by
  rw[fk,if_neg (fun c=>h e (by simp) c.symm)]
  exact fk_new fun x hx=>h x (List.mem_cons_of_mem _ hx)
end Go.Ps
end
section
set_option linter.unusedVariables false
namespace Go.Cc
open Go.Lw Go.Ps
structure Kd where
 w:Int
 p:Int
 m:Int
abbrev kde (k:Kd):List Value:=[.int .i64 k.w,.int .i64 k.p,.int .i64 k.m]
structure Ct where
 f:Int
 k:Int
abbrev cte (c:Ct):List Value:=[.int .i64 c.f,.int .i64 c.k]
theorem cte_len (c:Ct):(cte c).length=2:=rfl
structure RbOk (n:Int) (f:List Int):Prop where
 nb:1≤n∧n≤24
 fb:IsL f n
structure KdOk (ks:List Kd):Prop where
 n:1≤ks.length∧ks.length≤6
 k:∀ k∈ks,1≤k.w∧k.w≤24∧1≤k.p∧k.p≤1000∧0≤k.m∧k.m≤24
def ftN (f:List Int) (i:Nat):Nat:=((List.range i).filter fun j:Nat=>decide ((j:Int)∈f)).length
theorem ftN_succ (f:List Int) (i:Nat):ftN f (i+1)=ftN f i+if (i:Int)∈f then 1 else 0:=by
 unfold ftN
 rw[List.range_succ,List.filter_append,List.length_append]
 by_cases h:(i:Int)∈f
 ·rw[if_pos h]; simp[h]
 ·rw[if_neg h]; simp[h]
theorem ftN_le (f:List Int) (i:Nat):ftN f i≤i:=Nat.le_trans (List.length_filter_le ..) (by simp)
theorem ftN_mono (f:List Int) {i j:Nat} (h:i≤j):ftN f i≤ftN f j:=by
 induction j with
 | zero=>rw[show i=0 by omega]; exact Nat.le_refl _
 | succ j ih=>
  rcases Nat.lt_or_ge i (j+1)with c | c
  ·have:=ih (by omega)
   rw[ftN_succ]; omega
  ·rw[show i=j+1 by omega]; exact Nat.le_refl _
def canB (n:Nat) (f:List Int) (i:Nat) (k:Kd):Bool:=decide ((i:Int)+k.w≤n∧(ftN f (i+k.w.toNat):Int)-ftN f i≤k.m)
theorem jH {n:Nat} {f:List Int} {i:Nat} {k:Kd} (h:canB n f i k=true) (hw:1≤k.w):i+k.w.toNat≤n∧i<i+k.w.toNat:=by
 unfold canB at h
 rw[decide_eq_true_eq]at h
 omega
def shL (n:Nat) (f:List Int) (ks:List Kd) (i m:Nat):List Nat:=(List.range m).filter fun j=>((ks[j]?).map fun k=>canB n f i k).getD false
theorem shL_succ (n:Nat) (f:List Int) (ks:List Kd) (i m:Nat) (k:Kd) (hk:ks[m]? = some k):shL n f ks i (m+1)=if canB n f i k=true then shL n f ks i m++[m]else shL n f ks i m:=by
 unfold shL
 rw[List.range_succ,List.filter_append]
 by_cases h:canB n f i k=true
 ·rw[if_pos h]; simp[hk,h]
 ·rw[if_neg h]; simp[hk,h]
theorem shL_mem {n:Nat} {f:List Int} {ks:List Kd} {i m j:Nat} : j∈shL n f ks i m↔j<m∧∃ k,ks[j]? = some k∧canB n f i k=true:=by
 unfold shL
 rw[List.mem_filter,List.mem_range]
 refine and_congr Iff.rfl ?_
 cases h:ks[j]? with
 | none=>simp
 | some k=>simp
theorem shL_pre {n:Nat} {f:List Int} {ks:List Kd} {i m:Nat} : ∀ {K:Nat},m≤K→K≤ks.length→∃ r,shL n f ks i K=shL n f ks i m++r
 | 0,h,_=>⟨[],by rw[show m=0 by omega,List.append_nil]⟩
 | K+1,h,hK=>by
  rcases Nat.lt_or_ge m (K+1)with c | c
  ·obtain⟨r,hr⟩:=shL_pre (i:=i) (f:=f) (n:=n) (m:=m) (ks:=ks) (K:=K) (by omega) (by omega)
   rw[shL_succ n f ks i K ks[K] (List.getElem?_eq_getElem (by omega)),hr]
   split
   ·exact⟨r++[K],by rw[List.append_assoc]⟩
   ·exact⟨r,rfl⟩
  ·exact⟨[],by rw[show m=K+1 by omega,List.append_nil]⟩
theorem shL_at {n:Nat} {f:List Int} {ks:List Kd} {i m:Nat} {k:Kd} (hm:m<ks.length) (hk:ks[m]? = some k) (hc:canB n f i k=true):(shL n f ks i ks.length)[(shL n f ks i m).length]? = some m:=by
 obtain⟨r,hr⟩:=shL_pre (n:=n) (f:=f) (ks:=ks) (i:=i) (m:=m+1) (K:=ks.length) hm (Nat.le_refl _)
 rw[hr,shL_succ n f ks i m k hk,if_pos hc,List.append_assoc,List.getElem?_append_right (Nat.le_refl _)]
 simp
structure BhOk (n:Nat) (f:List Int) (ks:List Kd) (B:Nat→Int):Prop where
 z:B n=0
 w:∀ i,i<n→B (i+1)≤B i
 s:∀ i,i<n→∀ k∈ks,canB n f i k=true→k.p+B (i+k.w.toNat)≤B i
 at':∀ i,i<n→B i=B (i+1)∨∃ k∈ks,canB n f i k=true∧B i=k.p+B (i+k.w.toNat)
structure AhOk (n:Nat) (f:List Int) (ks:List Kd) (A:Nat→Int):Prop where
 z:A 0=0
 w:∀ i,i<n→A i≤A (i+1)
 s:∀ i,i<n→∀ k∈ks,canB n f i k=true→A i+k.p≤A (i+k.w.toNat)
 le:∀ B,BhOk n f ks B→∀ j,j≤n→A j+B j≤B 0
theorem ah_bh {n:Nat} {f:List Int} {ks:List Kd} (hw:∀ k∈ks,1≤k.w) {A B:Nat→Int} (ha:AhOk n f ks A) (hb:BhOk n f ks B):A n=B 0:=by
 have key:∀ d i,i+d=n→A i+B i≤A n:=by
  intro d
  induction d using Nat.strongRecOn with
  | _ d ih=>
   intro i hi
   rcases Nat.eq_zero_or_pos d with h0 | h0
   ·rw[show i=n by omega,hb.z]; omega
   ·rcases hb.at' i (by omega)with h | ⟨k,hk,hc,h⟩
    ·have h1:=ih (d-1) (by omega) (i+1) (by omega)
     have h2:=ha.w i (by omega)
     omega
    ·have h3:=jH hc (hw k hk)
     have h1:=ih (d-k.w.toNat) (by omega) (i+k.w.toNat) (by omega)
     have h2:=ha.s i (by omega) k hk hc
     omega
 have h1:=key n 0 (by omega)
 have h2:=ha.le B hb n (Nat.le_refl _)
 have h3:=ha.z
 have h4:=hb.z
 omega
structure AhI (n:Nat) (f:List Int) (ks:List Kd) (i:Nat) (L:List Nat) (A:List Int):Prop where
 len:A.length=25
 z:A[0]? = some 0
 bd:∀ (j:Nat) (x:Int),A[j]? = some x→0≤x∧x≤1000*j
 w:∀ (j:Nat) (x y:Int),j<i→A[j]? = some x→A[j+1]? = some y→x≤y
 s:∀ (j:Nat) (x y:Int) (k:Kd),(j<i∨(j=i∧∃ q∈L,ks[q]? = some k))→k∈ks→canB n f j k=true→A[j]? = some x→A[j+k.w.toNat]? = some y→x+k.p≤y
 le:∀ B,BhOk n f ks B→∀ (j:Nat) (x:Int),j≤n→A[j]? = some x→x+B j≤B 0
theorem bh_mono {n:Nat} {f:List Int} {ks:List Kd} {B:Nat→Int} (hb:BhOk n f ks B):∀ {i j:Nat},i≤j→j≤n→B j≤B i:=by
 intro i j h1 h2
 induction j with
 | zero=>rw[show i=0 by omega]; exact Int.le_refl _
 | succ j ih=>
  rcases Nat.lt_or_ge i (j+1)with c | c
  ·have:=ih (by omega) (by omega)
   have:=hb.w j (by omega)
   omega
  ·rw[show i=j+1 by omega]; exact Int.le_refl _
theorem AhI.start (n:Nat) (f:List Int) (ks:List Kd):AhI n f ks 0 [] (List.replicate 25 0):=by
 have g:∀ (j:Nat) (x:Int),(List.replicate 25 (0:Int))[j]? = some x→x=0:=fun(j:Nat) (x:Int) h=>by
  have:=List.mem_of_getElem? h
  exact(List.mem_replicate.1 this).2
 refine⟨rfl,rfl,fun j x h=>?_,fun j x y h=>by omega,fun j x y k h=>?_,fun B hB j x hj h=>?_⟩
 ·rw[g j x h]; omega
 ·rcases h with h | ⟨_,q,hq,_⟩
  ·omega
  ·cases hq
 ·rw[g j x h]
  have:=bh_mono hB (i:=0) (j:=j) (by omega) hj
  omega
theorem AhI.waste {n:Nat} {f:List Int} {ks:List Kd} {i:Nat} {A:List Int} {x y:Int} (h:AhI n f ks i [] A) (hn:n≤24) (hi:i<n) (hx:A[i]? = some x) (hy:A[i+1]? = some y) (hw:∀ k∈ks,1≤k.w) :
  AhI n f ks i [] (A.set (i+1) (max y x))∧∀ x' y':Int,(A.set (i+1) (max y x))[i]? = some x'→(A.set (i+1) (max y x))[i+1]? = some y'→x'≤y':=by
 have hl:=h.len
 have g:∀ (j:Nat) (z:Int),(A.set (i+1) (max y x))[j]? = some z→(j=i+1∧z=max y x)∨(j≠i+1∧A[j]? = some z):=fun j z hz=>by
  by_cases e:j=i+1
  ·subst e
   rw[List.getElem?_set_self (by omega)]at hz
   exact .inl ⟨rfl,by simpa using hz.symm⟩
  ·rw[List.getElem?_set_ne (fun c=>e c.symm)]at hz
   exact .inr ⟨e,hz⟩
 have hbx:=h.bd i x hx
 have hby:=h.bd (i+1) y hy
 refine⟨⟨by rw[List.length_set]; exact hl,by rw[List.getElem?_set_ne (by omega)]; exact h.z,fun j z hz=>?_,fun j a b hj ha hb=>?_,fun j a b k hj hk hc ha hb=>?_,fun B hB j z hj hz=>?_⟩,fun a b ha hb=>?_⟩
 ·rcases g j z hz with ⟨rfl,rfl⟩ | ⟨_,hz⟩
  ·omega
  ·exact h.bd j z hz
 ·rcases g j a ha with ⟨rfl,rfl⟩ | ⟨_,ha⟩
  ·omega
  ·rcases g (j+1) b hb with ⟨e,rfl⟩ | ⟨_,hb⟩
   ·omega
   ·exact h.w j a b hj ha hb
 ·rcases hj with hj | ⟨_,q,hq,_⟩
  ·rcases g j a ha with ⟨rfl,rfl⟩ | ⟨_,ha⟩
   ·omega
   ·rcases g _ b hb with ⟨e,rfl⟩ | ⟨_,hb⟩
    ·have:=h.s j a y k (.inl hj) hk hc ha (by rw[e]; exact hy)
     omega
    ·exact h.s j a b k (.inl hj) hk hc ha hb
  ·cases hq
 ·rcases g j z hz with ⟨rfl,rfl⟩ | ⟨_,hz⟩
  ·have h1:=h.le B hB (i+1) y hj hy
   have h2:=h.le B hB i x (by omega) hx
   have h3:=hB.w i hi
   omega
  ·exact h.le B hB j z hj hz
 ·rcases g i a ha with ⟨e,_⟩ | ⟨_,ha⟩
  ·omega
  ·rcases g (i+1) b hb with ⟨_,rfl⟩ | ⟨e,_⟩
   ·rw[hx]at ha; cases ha; omega
   ·exact absurd rfl e
theorem AhI.sheet {n:Nat} {f:List Int} {ks:List Kd} {i q:Nat} {L:List Nat} {A:List Int} {x y:Int} {k:Kd} (h:AhI n f ks i L A) (hn:n≤24) (hi:i<n) (hks:KdOk ks) (hq:ks[q]? = some k) (hc:canB n f i k=true) (hx:A[i]? = some x) (hy:A[i+k.w.toNat]? = some y) :
  AhI n f ks i (L++[q]) (A.set (i+k.w.toNat) (max y (x+k.p))):=by
 have hl:=h.len
 have hkm:=List.mem_of_getElem? hq
 have hkb:=hks.k k hkm
 have hle:=jH hc hkb.1
 have g:∀ (j:Nat) (z:Int),(A.set (i+k.w.toNat) (max y (x+k.p)))[j]? = some z→(j=i+k.w.toNat∧z=max y (x+k.p))∨(j≠i+k.w.toNat∧A[j]? = some z):=fun j z hz=>by
  by_cases e:j=i+k.w.toNat
  ·subst e
   rw[List.getElem?_set_self (by omega)]at hz
   exact .inl ⟨rfl,by simpa using hz.symm⟩
  ·rw[List.getElem?_set_ne (fun c=>e c.symm)]at hz
   exact .inr ⟨e,hz⟩
 have hbx:=h.bd i x hx
 have hby:=h.bd _ y hy
 refine⟨by rw[List.length_set]; exact hl,by rw[List.getElem?_set_ne (by omega)]; exact h.z,fun j z hz=>?_,fun j a b hj ha hb=>?_,fun j a b k' hj hk hc' ha hb=>?_,fun B hB j z hj hz=>?_⟩
 ·rcases g j z hz with ⟨rfl,rfl⟩ | ⟨_,hz⟩
  ·omega
  ·exact h.bd j z hz
 ·rcases g j a ha with ⟨rfl,rfl⟩ | ⟨_,ha⟩
  ·omega
  ·rcases g (j+1) b hb with ⟨e,rfl⟩ | ⟨_,hb⟩
   ·have:=h.w j a y hj ha (by rw[e]; exact hy)
    omega
   ·exact h.w j a b hj ha hb
 ·have hk'b:=hks.k k' hk
  have hle':=jH hc' hk'b.1
  rcases g j a ha with ⟨rfl,rfl⟩ | ⟨hji,ha'⟩
  ·rcases hj with hj | ⟨hj,_⟩<;>omega
  ·rcases g _ b hb with ⟨e,rfl⟩ | ⟨hne,hb'⟩
   ·rcases hj with hj | ⟨rfl,q',hq',hk2⟩
    ·have:=h.s j a y k' (.inl hj) hk hc' ha' (by rw[e]; exact hy)
     omega
    ·rcases List.mem_append.1 hq' with hq' | hq'
     ·have:=h.s j a y k' (.inr ⟨rfl,q',hq',hk2⟩) hk hc' ha' (by rw[e]; exact hy)
      omega
     ·obtain rfl:q'=q:=by simpa using hq'
      rw[hq]at hk2
      cases hk2
      rw[hx]at ha'
      cases ha'
      omega
   ·rcases hj with hj | ⟨rfl,q',hq',hk2⟩
    ·exact h.s j a b k' (.inl hj) hk hc' ha' hb'
    ·rcases List.mem_append.1 hq' with hq' | hq'
     ·exact h.s j a b k' (.inr ⟨rfl,q',hq',hk2⟩) hk hc' ha' hb'
     ·obtain rfl:q'=q:=by simpa using hq'
      rw[hq]at hk2
      cases hk2
      exact absurd rfl hne
 ·rcases g j z hz with ⟨rfl,rfl⟩ | ⟨_,hz⟩
  ·have h1:=h.le B hB _ y hj hy
   have h2:=h.le B hB i x (by omega) hx
   have h3:=hB.s i hi k hkm hc
   omega
  ·exact h.le B hB j z hj hz
theorem keep_w {i w:Nat} {A:List Int} {v y:Int} (hw:1≤w) (hy:A[i+w]? = some y) (hv:y≤v) (h:∀ x y:Int,A[i]? = some x→A[i+1]? = some y→x≤y):∀ x y:Int,(A.set (i+w) v)[i]? = some x→(A.set (i+w) v)[i+1]? = some y→x≤y:=by
 intro a b ha hb
 have hl:=(List.getElem?_eq_some_iff.1 hy).1
 rw[List.getElem?_set_ne (by omega)]at ha
 by_cases e:w=1
 ·subst e
  rw[List.getElem?_set_self hl]at hb
  cases hb
  have:=h a y ha hy
  omega
 ·rw[List.getElem?_set_ne (by omega)]at hb
  exact h a b ha hb
theorem AhI.next {n:Nat} {f:List Int} {ks:List Kd} {i:Nat} {A:List Int} (h:AhI n f ks i (shL n f ks i ks.length) A) (hw:∀ x y:Int,A[i]? = some x→A[i+1]? = some y→x≤y):AhI n f ks (i+1) [] A:=by
 refine⟨h.len,h.z,h.bd,fun j a b hj ha hb=>?_,fun j a b k hj hk hc ha hb=>?_,h.le⟩
 ·rcases Nat.lt_or_ge j i with c | c
  ·exact h.w j a b c ha hb
  ·obtain rfl:j=i:=by omega
   exact hw a b ha hb
 ·rcases hj with hj | ⟨_,q,hq,_⟩
  ·rcases Nat.lt_or_ge j i with c | c
   ·exact h.s j a b k (.inl c) hk hc ha hb
   ·obtain rfl:j=i:=by omega
    obtain⟨q,hq,rfl⟩:=List.getElem_of_mem hk
    exact h.s j a b _ (.inr ⟨rfl,q,shL_mem.2 ⟨hq,_,List.getElem?_eq_getElem hq,hc⟩,List.getElem?_eq_getElem hq⟩) hk hc ha hb
  ·cases hq
theorem AhI.done {n:Nat} {f:List Int} {ks:List Kd} {A:List Int} (h:AhI n f ks n [] A) (hn:n≤24) (hks:∀ k∈ks,1≤k.w):AhOk n f ks fun j=>(A[j]?).getD 0:=by
 have hl:=h.len
 have g:∀ j,j≤n→A[j]? = some ((A[j]?).getD 0):=fun j hj=>by rw[List.getElem?_eq_getElem (by omega)]; rfl
 refine⟨by show(A[0]?).getD 0=0; rw[h.z]; rfl,fun i hi=>h.w i _ _ hi (g i (by omega)) (g (i+1) (by omega)),fun i hi k hk hc=>?_,fun B hB j hj=>h.le B hB j _ hj (g j hj)⟩
 have:=jH hc (hks k hk)
 exact h.s i _ _ k (.inl hi) hk hc (g i (by omega)) (g _ (by omega))
structure BhP (n:Nat) (f:List Int) (ks:List Kd) (i:Nat) (B:List Int):Prop where
 len:B.length=25
 bd:∀ (j:Nat) (x:Int),B[j]? = some x→0≤x∧x≤1000*(24-(j:Int))
 z:B[n]? = some 0
 w:∀ (j:Nat) (x y:Int),i≤j→j<n→B[j]? = some x→B[j+1]? = some y→y≤x
 s:∀ (j:Nat) (x y:Int) (k:Kd),i≤j→j<n→k∈ks→canB n f j k=true→B[j]? = some x→B[j+k.w.toNat]? = some y→k.p+y≤x
 at':∀ (j:Nat) (x:Int),i≤j→j<n→B[j]? = some x→B[j+1]? = some x∨∃ k∈ks,canB n f j k=true∧B[j+k.w.toNat]? = some (x-k.p)
structure BhQ (n:Nat) (f:List Int) (ks:List Kd) (i:Nat) (L:List Nat) (B:List Int):Prop where
 p:BhP n f ks (i+1) B
 w:∀ x y:Int,B[i]? = some x→B[i+1]? = some y→y≤x
 s:∀ (x y:Int) (k:Kd),(∃ q∈L,ks[q]? = some k)→canB n f i k=true→B[i]? = some x→B[i+k.w.toNat]? = some y→k.p+y≤x
 at':∀ x:Int,B[i]? = some x→B[i+1]? = some x∨∃ k∈ks,canB n f i k=true∧B[i+k.w.toNat]? = some (x-k.p)
theorem BhP.start {n:Nat} (f:List Int) (ks:List Kd) (hn:n≤24):BhP n f ks n (List.replicate 25 0):=by
 refine⟨rfl,fun j x h=>?_,by rw[List.getElem?_replicate,if_pos (by omega)],fun j x y h=>by omega,fun j x y k h=>by omega,fun j x h=>by omega⟩
 have hj:=(List.getElem?_eq_some_iff.1 h).1
 have:=(List.mem_replicate.1 (List.mem_of_getElem? h)).2
 rw[List.length_replicate]at hj
 subst this
 omega
theorem BhP.keep {n:Nat} {f:List Int} {ks:List Kd} {i:Nat} {B:List Int} {v:Int} (h:BhP n f ks (i+1) B) (hi:i<n) (hw:∀ k∈ks,1≤k.w) (hv:0≤v∧v≤1000*(24-(i:Int))):BhP n f ks (i+1) (B.set i v):=by
 have hl:=h.len
 have g:∀ (j:Nat),i<j→(B.set i v)[j]? = B[j]?:=fun j hj=>List.getElem?_set_ne (by omega)
 refine⟨by rw[List.length_set]; exact hl,fun j x hx=>?_,by rw[g n hi]; exact h.z,fun j x y hj hjn hx hy=>?_,fun j x y k hj hjn hk hc hx hy=>?_,fun j x hj hjn hx=>?_⟩
 ·by_cases e:j=i
  ·subst e
   have hjl:=(List.getElem?_eq_some_iff.1 hx).1
   rw[List.length_set]at hjl
   rw[List.getElem?_set_self hjl]at hx
   cases hx
   exact hv
  ·rw[List.getElem?_set_ne (fun c=>e c.symm)]at hx
   exact h.bd j x hx
 ·rw[g j (by omega)]at hx
  rw[g (j+1) (by omega)]at hy
  exact h.w j x y hj hjn hx hy
 ·have:=jH hc (hw k hk)
  rw[g j (by omega)]at hx
  rw[g _ (by omega)]at hy
  exact h.s j x y k hj hjn hk hc hx hy
 ·rw[g j (by omega)]at hx
  rw[g (j+1) (by omega)]
  rcases h.at' j x hj hjn hx with c | ⟨k,hk,hc,e⟩
  ·exact .inl c
  ·have:=jH hc (hw k hk)
   exact .inr ⟨k,hk,hc,by rw[g _ (by omega)]; exact e⟩
theorem BhQ.waste {n:Nat} {f:List Int} {ks:List Kd} {i:Nat} {B:List Int} {y:Int} (h:BhP n f ks (i+1) B) (hn:n≤24) (hi:i<n) (hw:∀ k∈ks,1≤k.w) (hy:B[i+1]? = some y):BhQ n f ks i [] (B.set i y):=by
 have hl:=h.len
 have hb:=h.bd (i+1) y hy
 have g:∀ (j:Nat),i<j→(B.set i y)[j]? = B[j]?:=fun j hj=>List.getElem?_set_ne (by omega)
 have gi:(B.set i y)[i]? = some y:=List.getElem?_set_self (by omega)
 refine⟨h.keep hi hw (by omega),fun a b ha hb'=>?_,fun a b k hk=>?_,fun a ha=>?_⟩
 ·rw[gi]at ha
  rw[g (i+1) (by omega),hy]at hb'
  cases ha; cases hb'
  exact Int.le_refl _
 ·obtain⟨q,hq,_⟩:=hk
  cases hq
 ·rw[gi]at ha
  cases ha
  exact .inl (by rw[g (i+1) (by omega)]; exact hy)
theorem BhQ.sheet {n:Nat} {f:List Int} {ks:List Kd} {i q:Nat} {L:List Nat} {B:List Int} {x y:Int} {k:Kd} (h:BhQ n f ks i L B) (hn:n≤24) (hi:i<n) (hks:KdOk ks) (hq:ks[q]? = some k) (hc:canB n f i k=true) (hx:B[i]? = some x) (hy:B[i+k.w.toNat]? = some y) :
  BhQ n f ks i (L++[q]) (B.set i (max x (y+k.p))):=by
 have hl:=h.p.len
 have hw:∀ k∈ks,1≤k.w:=fun k hk=>(hks.k k hk).1
 have hkm:=List.mem_of_getElem? hq
 have hkb:=hks.k k hkm
 have hle:=jH hc hkb.1
 have hbx:=h.p.bd i x hx
 have hby:=h.p.bd _ y hy
 have g:∀ (j:Nat),i<j→(B.set i (max x (y+k.p)))[j]? = B[j]?:=fun j hj=>List.getElem?_set_ne (by omega)
 have gi:(B.set i (max x (y+k.p)))[i]? = some (max x (y+k.p)):=List.getElem?_set_self (by omega)
 refine⟨h.p.keep hi hw (by omega),fun a b ha hb'=>?_,fun a b k' hk' hc' ha hb'=>?_,fun a ha=>?_⟩
 ·rw[gi]at ha
  rw[g (i+1) (by omega)]at hb'
  cases ha
  have:=h.w x b hx hb'
  omega
 ·obtain⟨q',hq',hk2⟩:=hk'
  have hle':=jH hc' (hks.k k' (List.mem_of_getElem? hk2)).1
  rw[gi]at ha
  rw[g _ (by omega)]at hb'
  cases ha
  rcases List.mem_append.1 hq' with c | c
  ·have:=h.s x b k' ⟨q',c,hk2⟩ hc' hx hb'
   omega
  ·obtain rfl:q'=q:=by simpa using c
   rw[hq]at hk2
   cases hk2
   rw[hy]at hb'
   cases hb'
   omega
 ·rw[gi]at ha
  cases ha
  by_cases c:y+k.p≤x
  ·have hm:max x (y+k.p)=x:=by omega
   rcases h.at' x hx with d | ⟨k',hk',hc',e⟩
   ·exact .inl (by rw[g (i+1) (by omega),hm]; exact d)
   ·have:=jH hc' (hw k' hk')
    exact .inr ⟨k',hk',hc',by rw[g _ (by omega),hm]; exact e⟩
  ·have hm:max x (y+k.p)=y+k.p:=by omega
   exact .inr ⟨k,hkm,hc,by rw[g _ (by omega),hy,hm]; congr 1; omega⟩
theorem BhQ.next {n:Nat} {f:List Int} {ks:List Kd} {i:Nat} {B:List Int} (h:BhQ n f ks i (shL n f ks i ks.length) B):BhP n f ks i B:=by
 have up:∀ j,i≤j→j=i∨i+1≤j:=fun j hj=>by omega
 refine⟨h.p.len,h.p.bd,h.p.z,fun j x y hj hjn hx hy=>?_,fun j x y k hj hjn hk hc hx hy=>?_,fun j x hj hjn hx=>?_⟩
 ·rcases up j hj with rfl | c
  ·exact h.w x y hx hy
  ·exact h.p.w j x y c hjn hx hy
 ·rcases up j hj with rfl | c
  ·obtain⟨q,hq,rfl⟩:=List.getElem_of_mem hk
   exact h.s x y _ ⟨q,shL_mem.2 ⟨hq,_,List.getElem?_eq_getElem hq,hc⟩,List.getElem?_eq_getElem hq⟩ hc hx hy
  ·exact h.p.s j x y k c hjn hk hc hx hy
 ·rcases up j hj with rfl | c
  ·exact h.at' x hx
  ·exact h.p.at' j x c hjn hx
theorem BhP.done {n:Nat} {f:List Int} {ks:List Kd} {B:List Int} (h:BhP n f ks 0 B) (hn:n≤24) (hw:∀ k∈ks,1≤k.w):BhOk n f ks fun j=>(B[j]?).getD 0:=by
 have hl:=h.len
 have g:∀ j,j≤n→B[j]? = some ((B[j]?).getD 0):=fun j hj=>by rw[List.getElem?_eq_getElem (by omega)]; rfl
 refine⟨by show(B[n]?).getD 0=0; rw[h.z]; rfl,fun i hi=>h.w i _ _ (Nat.zero_le _) hi (g i (by omega)) (g (i+1) (by omega)),fun i hi k hk hc=>?_,fun i hi=>?_⟩
 ·have:=jH hc (hw k hk)
  exact h.s i _ _ k (Nat.zero_le _) hi hk hc (g i (by omega)) (g _ (by omega))
 ·rcases h.at' i _ (Nat.zero_le _) hi (g i (by omega))with c | ⟨k,hk,hc,e⟩
  ·exact .inl (by show(B[i]?).getD 0=(B[i+1]?).getD 0; rw[c]; rfl)
  ·refine .inr ⟨k,hk,hc,?_⟩
   show(B[i]?).getD 0=k.p+(B[i+k.w.toNat]?).getD 0
   rw[e]
   simp only[Option.getD_some]
   omega
end Go.Cc
end
section
namespace Go.Gl
structure Rg where
 lo:Int
 hi:Int
structure Dy where
 lo:Int
 hi:Int
 pot:Int
structure Pn where
 lo:Int
 hi:Int
 sp:Int
structure Sm where
 t:Int
 g:Int
 deriving DecidableEq
structure Bn where
 w:Int
 p:Int
 each:List Sm
abbrev iv (x:Int):Value:=.int .i64 x
abbrev sme (s:Sm):List Value:=[iv s.t,iv s.g]
abbrev smv (s:Sm):Value:=.agg #[iv s.t,iv s.g]
theorem ivs {a b:Int} (h:a=b):some (iv a)=some (iv b):=by rw[h]
theorem qy {α:Type} (enc:α→List Value) (l m:List α):Go.Lw.flat enc (l++m)=Go.Lw.flat enc l++Go.Lw.flat enc m:=by simp[Go.Lw.flat]
theorem zZ (x:Int):(Go.Lw.ei x).length=1:=rfl
structure Ok (d:Dy) (ps:List Pn):Prop where
 l0:1≤d.lo
 l1:d.lo≤d.hi
 l2:d.hi≤240
 p0:1≤d.pot
 p1:d.pot≤200
 n10:ps.length≤10
 each:∀ p∈ps,1≤p.lo∧p.lo≤p.hi∧p.hi≤240∧1≤p.sp∧p.sp≤200
def Sm.and (a b:Sm):Sm:=⟨a.t+b.t,a.g+b.g⟩
def sm0:Sm:=⟨0,0⟩
def eachP (B:Bn) (i:Int):Sm:=B.each.getD i.toNat sm0
def sumL (B:Bn) (l:List Int):Sm:=l.foldl (fun s i=>s.and (eachP B i)) sm0
structure BnOk (B:Bn):Prop where
 w0:1≤B.w
 w1:B.w≤240
 p0:1≤B.p
 p1:B.p≤200
 n10:B.each.length≤10
 each:∀ s∈B.each,1≤s.t∧s.t≤240∧1≤s.g∧s.g≤200
end Go.Gl
end
