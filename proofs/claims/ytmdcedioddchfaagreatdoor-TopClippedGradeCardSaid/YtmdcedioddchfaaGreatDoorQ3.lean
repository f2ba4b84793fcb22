/- Texts that the last one of this claim imports. -/
import Derived.Laws.IdiomStrings
import Derived.Laws.AppendOwn
import Derived.Lib.AppendStr
import Derived.WideLaws
import Derived.Test.YtmdcedioddchfaaGreatDoorQ2
set_option linter.unusedVariables false
set_option linter.unusedSimpArgs false
set_option linter.unusedSectionVars false
section
set_option linter.unusedVariables false
namespace Go.Proofs.YtmdcedioddchfaaGreatDoor.C
open Go.Lw Go.Ps Go.Cc Go.RowKit
open Go.Gl (iv ivs qy)
abbrev rbv (n:Int) (a:Option Addr) (f:List Int) (c:Nat):Value:=.agg #[iv n,.slice a f.length c]
theorem pindex_i (g:FuncId) (cap:List Value) (p:Int→Bool) (V:View) (vl:Value) (l:List Int) (hs:SlI V vl l) (hok:zy Tryz.prog g)
  (hc:∀ x,x∈l→Fnc Tryz.prog g ([]++[iv x]++cap) V (fun v _=>v=.bool (p x))) :
  Fnc Tryz.prog 138 [vl,.func (.func g) #[] cap.toArray] V fun v _=>∃ j:Int,v=iv j∧(decide (0≤j))=l.any p:=by
 have hlen:=hs.qV
 refine qa Tryz.func138 rfl Tryz.ntmps138 (Nat.le_of_ble_eq_true rfl) ?_
 intro w0 hw0
 refine At.nrm ?_
 refine At.zh (.q 0 .done) ?_
 refine AtT.zg ?_
 refine AtT.done ?_
 refine At.nrm ?_
 refine At.zh (.q 0 (.q 1 (.q 2 .done))) ?_
 refine AtT.zf ?_
 first | refine AtT.zW Tryz.underlying22 ?_ | refine AtT.zX Tryz.underlying22 ?_
 refine AtT.zf ?_
 refine AtT.done ?_
 refine At.nrm ?_
 refine At.lp (ι:=Nat) (KS:=fun k=>[(0,vl),(1,.func (.func g) #[] cap.toArray),(4,iv 0),(7,iv l.length),(8,iv k)]) (OS:=fun _=>[])
  (VS:=fun k V'=>V'=V∧k≤l.length∧(l.take k).any p=false) (μ:=fun k=>l.length-k) 0 ?_ ?_ ?_ ?_
 ·exact⟨rfl,rfl,rfl,rfl,rfl,trivial⟩
 ·exact Pt.zC
 ·exact⟨rfl,Nat.zero_le _,rfl⟩
 ·rintro k V' ks' O' ⟨rfl,hkl,hany⟩ hk hO hl
  subst hk hO
  refine At.nrm ?_
  refine At.zh (.q 0 .done) ?_
  refine AtT.qd ?_
  refine AtT.done ?_
  refine At.nrm ?_
  refine At.qb rfl (fun hp=>?_) (fun hp=>?_)
  ·refine At.nrm ?_
   refine At.zh (.q 0 (.q 1 .done)) ?_
   refine AtT.zf ?_
   refine AtT.zg ?_
   refine AtT.done ?_
   refine At.nrm ?_
   refine At.zh (.q 0 (.q 1 (.q 2 (.q 3 (.q 4 (.n false 5 .done)))))) ?_
   refine AtT.zf ?_
   refine AtT.zf ?_
   refine AtT.zf ?_
   refine AtT.qj Tryz.underlying22 tk3 ?_
   intro p14 e14 he14 hc14
   first | refine AtT.zn tk3 ?_ | refine AtT.zq tk3 ?_
   refine AtT.kcallV rfl rfl rfl hok (hc e14 (List.mem_of_getElem? he14)) ?_
   rintro _ rfl
   refine AtT.done ?_
   refine At.nrm ?_
   have hee:l[k]? = some e14:=by simpa using he14
   have hnx:l.take (k+1)=l.take k++[e14]:=by
    rw[List.take_succ_eq_append_getElem (by omega)]; congr 1; rw[List.getElem?_eq_getElem (by omega)]at hee; simpa using hee
   refine At.cond rfl (fun hb=>?_) (fun hb=>?_)
   ·refine At.nrm ?_
    refine At.zh (.q 0 (.q 1 .done)) ?_
    refine AtT.zf ?_
    refine AtT.zg ?_
    refine AtT.done ?_
    refine At.nrm ?_
    refine At.qf rfl (.tmp rfl) ⟨k,rfl,?_⟩
    have:l.any p=true:=List.any_eq_true.2 ⟨e14,List.mem_of_getElem? hee,hb⟩
    rw[this]; simp
   ·refine At.nrm ?_
    refine At.zh (.q 0 (.q 1 .done)) ?_
    first | refine AtT.ql ?_ | refine AtT.zP ?_
    refine AtT.zf ?_
    refine AtT.done ?_
    refine At.nrm ?_
    refine At.round (k+1) ?_ ?_ ?_ ?_
    ·show l.length-(k+1)<l.length-k; omega
    ·refine⟨rfl,by omega,?_⟩
     rw[hnx,List.any_append,hany]; simp[hb]
    ·exact⟨rfl,rfl,rfl,rfl,rfl,trivial⟩
    ·exact Pt.zC
  ·have hkk:k=l.length:=by omega
   subst hkk
   rw[List.take_length]at hany
   refine At.nrm ?_
   refine At.zh (.q 0 .done) ?_
   refine AtT.zg ?_
   refine AtT.done ?_
   refine At.nrm ?_
   refine At.qf rfl (.tmp rfl) ⟨-1,rfl,?_⟩
   rw[hany]; rfl
theorem pcontains_i (g:FuncId) (cap:List Value) (p:Int→Bool) (V:View) (vl:Value) (l:List Int) (hs:SlI V vl l) (hok:zy Tryz.prog g)
  (hc:∀ x,x∈l→Fnc Tryz.prog g ([]++[iv x]++cap) V (fun v _=>v=.bool (p x))) :
  Fnc Tryz.prog 151 [vl,.func (.func g) #[] cap.toArray] V fun v _=>v=.bool (l.any p):=by
 refine qa Tryz.func151 rfl Tryz.ntmps151 (Nat.le_of_ble_eq_true rfl) ?_
 intro w0 hw0
 refine At.nrm ?_
 refine At.zh (.q 0 .done) ?_
 refine AtT.zg ?_
 refine AtT.done ?_
 refine At.nrm ?_
 refine At.zh (.q 0 (.q 1 (.n false 2 (.q 3 (.q 4 .done))))) ?_
 refine AtT.zf ?_
 refine AtT.zf ?_
 refine AtT.zR rfl rfl ok138 (pindex_i g cap p V vl l hs hok hc) ?_
 rintro _ ⟨j,rfl,hj⟩
 refine AtT.kgeq ?_
 refine AtT.zg ?_
 refine AtT.done ?_
 refine At.nrm ?_
 refine At.qf rfl (.tmp rfl) ?_
 rw[hj]
theorem within1_f (lo hi y:Int) (V:View) (q1 q2:Addr) (h1:Cells V q1 [iv lo]) (h2:Cells V q2 [iv hi]):Fnc Tryz.prog 152 ([]++[iv y]++[.pointer (some q1),.pointer (some q2)]) V fun r _=>r=.bool (decide (y<lo∨hi<y)):=by
 refine qa Tryz.func152 rfl Tryz.ntmps152 (Nat.le_of_ble_eq_true rfl) ?_
 intro w0 hw0
 refine At.nrm ?_
 refine At.zh (.q 0 .done) ?_
 refine AtT.zg ?_
 refine AtT.done ?_
 refine At.nrm ?_
 by_cases h:y<lo
 ·refine At.zh (.q 0 (.q 1 (.q 2 (.q 3 (.q 4 (.q 5 (.q 6 (.q 7 (.q 8 .done))))))))) ?_
  refine AtT.zf ?_
  first | refine AtT.zn tk3 ?_ | refine AtT.zq tk3 ?_
  refine AtT.qd ?_
  refine AtT.kR (d:=7) rfl (h) ?_
  refine AtT.zf ?_
  all_goals (first | refine AtT.kL 8 ?_ | refine AtT.zF (d:=8) rfl (fun hg8=>?_) (fun hg8=>?_) | refine AtT.zD (d:=8) rfl (fun hg8=>?_) (fun hg8=>?_))
  all_goals first|refine AtT.zi ?_|refine AtT.ze ?_|(refine AtT.zf ?_)
  all_goals first|refine AtT.zi ?_|refine AtT.ze ?_|(first | refine AtT.zn tk3 ?_ | refine AtT.zq tk3 ?_)
  all_goals first|refine AtT.zi ?_|refine AtT.ze ?_|(refine AtT.qA ?_)
  all_goals (refine AtT.zH ?_)
  all_goals (refine AtT.zg ?_)
  all_goals refine AtT.done ?_
  all_goals (refine At.nrm ?_)
  all_goals (exact At.qf rfl (.tmp rfl) (by rw[decide_eq_true (Or.inl h)]; rfl))
 ·refine At.zh (.q 0 (.q 1 (.q 2 (.q 3 (.q 4 (.q 5 (.q 6 (.q 7 (.q 8 .done))))))))) ?_
  refine AtT.zf ?_
  first | refine AtT.zn tk3 ?_ | refine AtT.zq tk3 ?_
  refine AtT.qd ?_
  refine AtT.qx (d:=7) rfl (h) ?_
  refine AtT.zf ?_
  all_goals (first | refine AtT.kL 8 ?_ | refine AtT.zF (d:=8) rfl (fun hg8=>?_) (fun hg8=>?_) | refine AtT.zD (d:=8) rfl (fun hg8=>?_) (fun hg8=>?_))
  all_goals first|refine AtT.zi ?_|refine AtT.ze ?_|(refine AtT.zf ?_)
  all_goals first|refine AtT.zi ?_|refine AtT.ze ?_|(first | refine AtT.zn tk3 ?_ | refine AtT.zq tk3 ?_)
  all_goals first|refine AtT.zi ?_|refine AtT.ze ?_|(refine AtT.qA ?_)
  all_goals (refine AtT.zH ?_)
  all_goals (refine AtT.zg ?_)
  all_goals refine AtT.done ?_
  all_goals (refine At.nrm ?_)
  all_goals (exact At.qf rfl (.tmp rfl) (congrArg Value.bool (decide_eq_decide.2 ⟨fun h'=>.inr h',fun h'=>h'.resolve_left h⟩)))
theorem jJ (lo hi x:Int) (V:View) (v:Value) (hs:SlI V v [x]):Fnc Tryz.prog 92 [iv lo,iv hi,v] V fun r _=>r=.bool (decide (lo≤x∧x≤hi)):=by
 refine qa Tryz.func92 rfl Tryz.ntmps92 (Nat.le_of_ble_eq_true rfl) ?_
 intro w0 hw0
 refine At.nrm ?_
 refine At.zh (.n false 0 (.n false 1 (.q 2 .done))) ?_
 refine AtT.jA ?_
 intro b3
 refine AtT.jA ?_
 intro b4
 refine AtT.zg ?_
 refine AtT.done ?_
 refine At.nrm ?_
 refine At.zh (.q 0 (.q 1 (.n false 2 (.q 3 (.q 4 .done))))) ?_
 refine AtT.zf ?_
 refine AtT.kfn ?_
 refine AtT.kcallL rfl rfl ok151 (fun VL hVL hOL=>pcontains_i 152 [.pointer (some ⟨b3,0,none⟩),.pointer (some ⟨b4,0,none⟩)] (fun y=>decide (y<lo∨hi<y)) VL _ [x] (hs.le hVL) ok152 (fun y hy=>within1_f lo hi y VL _ _ (qp (hOL b3 _ (List.mem_cons_of_mem _ (List.mem_cons_self ..)))) (qp (hOL b4 _ (List.mem_cons_self ..))))) ?_
 rintro _ rfl
 refine AtT.knot ?_
 refine AtT.zg ?_
 refine AtT.done ?_
 refine At.nrm ?_
 refine At.qf rfl (.tmp rfl) ?_
 simp only[List.any_cons,List.any_nil,Bool.or_false]
 congr 1
 rw[←decide_not]
 exact decide_eq_decide.2 (by omega)
theorem rRibbon_f (n:Int) (a:Option Addr) (f:List Int) (c:Nat) (V:View) (hs:SlI V (.slice a f.length c) f):Fnc Tryz.prog 4 [rbv n a f c] V fun r _=>∃ e,r=iv e∧(e=0↔RbOk n f):=by
 have hlen:=hs.qV
 refine qa Tryz.func4 rfl Tryz.ntmps4 (Nat.le_of_ble_eq_true rfl) ?_
 intro w0 hw0
 refine At.nrm ?_
 refine At.zh (.n false 0 (.q 1 .done)) ?_
 refine AtT.jA ?_
 intro b1
 refine AtT.zg ?_
 refine AtT.done ?_
 refine At.nrm ?_
 by_cases c1:n<1
 ·refine At.zh (.q 0 (.q 1 (.q 2 (.q 3 (.q 4 (.q 5 (.q 6 (.q 7 .done)))))))) ?_
  first | refine AtT.zk zI ?_ | with_reducible refine AtT.zm zI ?_ | refine AtT.zo zI ?_
  first | refine AtT.zn tk3 ?_ | refine AtT.zq tk3 ?_
  refine AtT.qd ?_
  refine AtT.kR (d:=6) rfl (c1) ?_
  refine AtT.zf ?_
  all_goals (first | refine AtT.kL 7 ?_ | refine AtT.zF (d:=7) rfl (fun hg7=>?_) (fun hg7=>?_) | refine AtT.zD (d:=7) rfl (fun hg7=>?_) (fun hg7=>?_))
  all_goals first|refine AtT.zi ?_|refine AtT.ze ?_|(first | refine AtT.zk zI ?_ | with_reducible refine AtT.zm zI ?_ | refine AtT.zo zI ?_)
  all_goals first|refine AtT.zi ?_|refine AtT.ze ?_|(first | refine AtT.zn tk3 ?_ | refine AtT.zq tk3 ?_)
  all_goals first|refine AtT.zi ?_|refine AtT.ze ?_|(refine AtT.qA ?_)
  all_goals (refine AtT.zH ?_)
  all_goals refine AtT.done ?_
  all_goals (refine At.nrm ?_)
  refine At.jo rfl rfl ?_
  refine At.nrm ?_
  refine At.zh (.q 0 .done) ?_
  refine AtT.zg ?_
  refine AtT.done ?_
  refine At.nrm ?_
  exact At.qf rfl (.tmp rfl) ⟨6,rfl,⟨fun h=>(by cases h),fun h=>by have:=h.nb; omega⟩⟩
 by_cases c2:24<n
 ·refine At.zh (.q 0 (.q 1 (.q 2 (.q 3 (.q 4 (.q 5 (.q 6 (.q 7 .done)))))))) ?_
  first | refine AtT.zk zI ?_ | with_reducible refine AtT.zm zI ?_ | refine AtT.zo zI ?_
  first | refine AtT.zn tk3 ?_ | refine AtT.zq tk3 ?_
  refine AtT.qd ?_
  refine AtT.qx (d:=6) rfl (c1) ?_
  refine AtT.zf ?_
  all_goals (first | refine AtT.kL 7 ?_ | refine AtT.zF (d:=7) rfl (fun hg7=>?_) (fun hg7=>?_) | refine AtT.zD (d:=7) rfl (fun hg7=>?_) (fun hg7=>?_))
  all_goals first|refine AtT.zi ?_|refine AtT.ze ?_|(first | refine AtT.zk zI ?_ | with_reducible refine AtT.zm zI ?_ | refine AtT.zo zI ?_)
  all_goals first|refine AtT.zi ?_|refine AtT.ze ?_|(first | refine AtT.zn tk3 ?_ | refine AtT.zq tk3 ?_)
  all_goals first|refine AtT.zi ?_|refine AtT.ze ?_|(refine AtT.qA ?_)
  all_goals (refine AtT.kR (d:=10) rfl (c2) ?_)
  all_goals (refine AtT.zH ?_)
  all_goals refine AtT.done ?_
  all_goals (refine At.nrm ?_)
  refine At.jo rfl rfl ?_
  refine At.nrm ?_
  refine At.zh (.q 0 .done) ?_
  refine AtT.zg ?_
  refine AtT.done ?_
  refine At.nrm ?_
  exact At.qf rfl (.tmp rfl) ⟨6,rfl,⟨fun h=>(by cases h),fun h=>by have:=h.nb; omega⟩⟩
 refine At.zh (.q 0 (.q 1 (.q 2 (.q 3 (.q 4 (.q 5 (.q 6 (.q 7 .done)))))))) ?_
 first | refine AtT.zk zI ?_ | with_reducible refine AtT.zm zI ?_ | refine AtT.zo zI ?_
 first | refine AtT.zn tk3 ?_ | refine AtT.zq tk3 ?_
 refine AtT.qd ?_
 refine AtT.qx (d:=6) rfl (c1) ?_
 refine AtT.zf ?_
 all_goals (first | refine AtT.kL 7 ?_ | refine AtT.zF (d:=7) rfl (fun hg7=>?_) (fun hg7=>?_) | refine AtT.zD (d:=7) rfl (fun hg7=>?_) (fun hg7=>?_))
 all_goals first|refine AtT.zi ?_|refine AtT.ze ?_|(first | refine AtT.zk zI ?_ | with_reducible refine AtT.zm zI ?_ | refine AtT.zo zI ?_)
 all_goals first|refine AtT.zi ?_|refine AtT.ze ?_|(first | refine AtT.zn tk3 ?_ | refine AtT.zq tk3 ?_)
 all_goals first|refine AtT.zi ?_|refine AtT.ze ?_|(refine AtT.qA ?_)
 all_goals (refine AtT.qx (d:=10) rfl (c2) ?_)
 all_goals (refine AtT.zH ?_)
 all_goals refine AtT.done ?_
 all_goals (refine At.nrm ?_)
 refine At.qh rfl rfl ?_
 refine At.nrm ?_
 refine At.zh (.q 0 .done) ?_
 refine AtT.zg ?_
 refine AtT.done ?_
 refine At.nrm ?_
 refine At.lp (ι:=Nat) (KS:=fun k=>[(1,.pointer (some ⟨b1,0,none⟩)),(3,iv k)]) (OS:=fun _=>[.blk b1 (LC [iv n,.slice a f.length c] 24)])
  (VS:=fun k V'=>V'=V∧k≤f.length∧IsL (f.take k) n) (μ:=fun k=>f.length-k) 0 ?_ ?_ ?_ ?_
 ·exact⟨rfl,rfl,trivial⟩
 ·exact Pt.zC
 ·exact⟨rfl,Nat.zero_le _,⟨fun x hx=>by simp at hx,by simp⟩⟩
 rintro k V' ks' O' ⟨rfl,hkl,hup⟩ hk hO hl
 subst hk hO
 refine At.nrm ?_
 refine At.zh (.q 0 (.q 1 (.q 2 (.q 3 (.q 4 .done))))) ?_
 refine AtT.zf ?_
 first | refine AtT.zk zB ?_ | with_reducible refine AtT.zm zB ?_ | refine AtT.zo zB ?_
 first | refine AtT.zn qH ?_ | refine AtT.zq qH ?_
 first | refine AtT.zW Tryz.underlying22 ?_ | refine AtT.zX Tryz.underlying22 ?_
 refine AtT.qd ?_
 refine AtT.done ?_
 refine At.nrm ?_
 refine At.qb rfl (fun hp=>?_) (fun hp=>?_)
 ·obtain⟨x,hx⟩:∃ x,f[k]? = some x:=⟨_,List.getElem?_eq_getElem (by omega)⟩
  have hkl1:k<f.length:=by omega
  refine At.nrm ?_
  by_cases c1:x<0
  ·refine At.draw (.q 0 (.q 1 (.q 2 (.q 3 (.q 4 (.q 5 (.q 6 (.q 7 (.q 8 (.q 9 (.q 10 (.q 11 (.q 12 (.q 13 (.q 14 (.q 15 (.q 16 (.q 17 (.q 18 (.q 19 (.q 20 (.q 21 (.q 22 (.q 23 (.q 24 (.q 25 (.q 26 (.q 27 (.q 28 (.q 29 (.q 30 (.q 31 (.q 32 (.q 33 .done)))))))))))))))))))))))))))))))))) ffm (by kernel_rfl) ?_
   first | refine AtT.zk zB ?_ | with_reducible refine AtT.zm zB ?_ | refine AtT.zo zB ?_
   first | refine AtT.zn qH ?_ | refine AtT.zq qH ?_
   refine AtT.zf ?_
   refine AtT.qj Tryz.underlying22 tk3 ?_
   intro p22 e22 he22 hc22
   obtain rfl:x=e22:=by have:f[k]? = some e22:=(by simpa using he22); rw[hx]at this; simpa using this
   first | refine AtT.zn tk3 ?_ | refine AtT.zq tk3 ?_
   refine AtT.qd ?_
   refine AtT.kR (d:=24) rfl (c1) ?_
   refine AtT.zf ?_
   all_goals (first | refine AtT.kL 25 ?_ | refine AtT.zF (d:=25) rfl (fun hg25=>?_) (fun hg25=>?_) | refine AtT.zD (d:=25) rfl (fun hg25=>?_) (fun hg25=>?_))
   all_goals first|refine AtT.zi ?_|refine AtT.ze ?_|(first | refine AtT.zk zB ?_ | with_reducible refine AtT.zm zB ?_ | refine AtT.zo zB ?_)
   all_goals first|refine AtT.zi ?_|refine AtT.ze ?_|(first | refine AtT.zn qH ?_ | refine AtT.zq qH ?_)
   all_goals first|refine AtT.zi ?_|refine AtT.ze ?_|(refine AtT.zf ?_)
   all_goals first|refine AtT.zi ?_|refine AtT.ze ?_|(refine AtT.qj Tryz.underlying22 tk3 ?_);(intro p29 e29 he29 hc29)
   all_goals first|refine AtT.zi ?_|refine AtT.ze ?_|(first | refine AtT.zn tk3 ?_ | refine AtT.zq tk3 ?_)
   all_goals first|refine AtT.zi ?_|refine AtT.ze ?_|(first | refine AtT.zk zI ?_ | with_reducible refine AtT.zm zI ?_ | refine AtT.zo zI ?_)
   all_goals first|refine AtT.zi ?_|refine AtT.ze ?_|(first | refine AtT.zn tk3 ?_ | refine AtT.zq tk3 ?_)
   all_goals first|refine AtT.zi ?_|refine AtT.ze ?_|(refine AtT.kgeq ?_)
   all_goals (refine AtT.zH ?_)
   all_goals (refine AtT.zf ?_)
   all_goals (first | refine AtT.kL 35 ?_ | refine AtT.zF (d:=35) rfl (fun hg35=>?_) (fun hg35=>?_) | refine AtT.zD (d:=35) rfl (fun hg35=>?_) (fun hg35=>?_))
   all_goals first|refine AtT.zi ?_|refine AtT.ze ?_|(refine AtT.zf ?_)
   all_goals first|refine AtT.zi ?_|refine AtT.ze ?_|(refine AtT.qA ?_)
   all_goals first|refine AtT.zi ?_|refine AtT.ze ?_|(refine AtT.zf ?_)
   all_goals (first | refine AtT.kL 38 ?_ | refine AtT.zF (d:=38) rfl (fun hg38=>?_) (fun hg38=>?_) | refine AtT.zD (d:=38) rfl (fun hg38=>?_) (fun hg38=>?_))
   all_goals first|refine AtT.zi ?_|refine AtT.ze ?_|(first | refine AtT.zk zB ?_ | with_reducible refine AtT.zm zB ?_ | refine AtT.zo zB ?_)
   all_goals first|refine AtT.zi ?_|refine AtT.ze ?_|(first | refine AtT.zn qH ?_ | refine AtT.zq qH ?_)
   all_goals first|refine AtT.zi ?_|refine AtT.ze ?_|(refine AtT.zf ?_)
   all_goals first|refine AtT.zi ?_|refine AtT.ze ?_|(refine AtT.qj Tryz.underlying22 tk3 ?_);(intro p42 e42 he42 hc42)
   all_goals first|refine AtT.zi ?_|refine AtT.ze ?_|(first | refine AtT.zn tk3 ?_ | refine AtT.zq tk3 ?_)
   all_goals first|refine AtT.zi ?_|refine AtT.ze ?_|(first | refine AtT.zk zB ?_ | with_reducible refine AtT.zm zB ?_ | refine AtT.zo zB ?_)
   all_goals first|refine AtT.zi ?_|refine AtT.ze ?_|(first | refine AtT.zn qH ?_ | refine AtT.zq qH ?_)
   all_goals first|refine AtT.zi ?_|refine AtT.ze ?_|(refine AtT.zf ?_)
   all_goals first|refine AtT.zi ?_|refine AtT.ze ?_|(first | refine AtT.jD ?_ | refine AtT.jE ?_)
   all_goals first|refine AtT.zi ?_|refine AtT.ze ?_|(refine AtT.qj Tryz.underlying22 tk3 ?_);(intro p48 e48 he48 hc48)
   all_goals first|refine AtT.zi ?_|refine AtT.ze ?_|(first | refine AtT.zn tk3 ?_ | refine AtT.zq tk3 ?_)
   all_goals first|refine AtT.zi ?_|refine AtT.ze ?_|(refine AtT.kleq ?_)
   all_goals first|refine AtT.zi ?_|refine AtT.ze ?_|(refine AtT.zH ?_)
   all_goals (refine AtT.zH ?_)
   all_goals refine AtT.done ?_
   all_goals (refine At.nrm ?_)
   refine At.jo rfl rfl ?_
   refine At.nrm ?_
   refine At.zh (.q 0 .done) ?_
   refine AtT.zg ?_
   refine AtT.done ?_
   refine At.nrm ?_
   exact At.qf rfl (.tmp rfl) ⟨3,rfl,⟨fun h=>(by cases h),fun h=>by have:=h.fb.bd x (List.mem_of_getElem? hx); omega⟩⟩
  by_cases c2:n≤x
  ·refine At.draw (.q 0 (.q 1 (.q 2 (.q 3 (.q 4 (.q 5 (.q 6 (.q 7 (.q 8 (.q 9 (.q 10 (.q 11 (.q 12 (.q 13 (.q 14 (.q 15 (.q 16 (.q 17 (.q 18 (.q 19 (.q 20 (.q 21 (.q 22 (.q 23 (.q 24 (.q 25 (.q 26 (.q 27 (.q 28 (.q 29 (.q 30 (.q 31 (.q 32 (.q 33 .done)))))))))))))))))))))))))))))))))) ffm (by kernel_rfl) ?_
   first | refine AtT.zk zB ?_ | with_reducible refine AtT.zm zB ?_ | refine AtT.zo zB ?_
   first | refine AtT.zn qH ?_ | refine AtT.zq qH ?_
   refine AtT.zf ?_
   refine AtT.qj Tryz.underlying22 tk3 ?_
   intro p22 e22 he22 hc22
   obtain rfl:x=e22:=by have:f[k]? = some e22:=(by simpa using he22); rw[hx]at this; simpa using this
   first | refine AtT.zn tk3 ?_ | refine AtT.zq tk3 ?_
   refine AtT.qd ?_
   refine AtT.qx (d:=24) rfl (c1) ?_
   refine AtT.zf ?_
   all_goals (first | refine AtT.kL 25 ?_ | refine AtT.zF (d:=25) rfl (fun hg25=>?_) (fun hg25=>?_) | refine AtT.zD (d:=25) rfl (fun hg25=>?_) (fun hg25=>?_))
   all_goals first|refine AtT.zi ?_|refine AtT.ze ?_|(first | refine AtT.zk zB ?_ | with_reducible refine AtT.zm zB ?_ | refine AtT.zo zB ?_)
   all_goals first|refine AtT.zi ?_|refine AtT.ze ?_|(first | refine AtT.zn qH ?_ | refine AtT.zq qH ?_)
   all_goals first|refine AtT.zi ?_|refine AtT.ze ?_|(refine AtT.zf ?_)
   all_goals first|refine AtT.zi ?_|refine AtT.ze ?_|(refine AtT.qj Tryz.underlying22 tk3 ?_);(intro p29 e29 he29 hc29)
   all_goals (obtain rfl:x=e29:=by have:f[k]? = some e29:=(by simpa using he29); rw[hx]at this; simpa using this)
   all_goals first|refine AtT.zi ?_|refine AtT.ze ?_|(first | refine AtT.zn tk3 ?_ | refine AtT.zq tk3 ?_)
   all_goals first|refine AtT.zi ?_|refine AtT.ze ?_|(first | refine AtT.zk zI ?_ | with_reducible refine AtT.zm zI ?_ | refine AtT.zo zI ?_)
   all_goals first|refine AtT.zi ?_|refine AtT.ze ?_|(first | refine AtT.zn tk3 ?_ | refine AtT.zq tk3 ?_)
   all_goals first|refine AtT.zi ?_|refine AtT.ze ?_|(refine AtT.kgeq ?_)
   all_goals (refine AtT.kR (d:=33) rfl (c2) ?_)
   all_goals (refine AtT.zH ?_)
   all_goals (refine AtT.zf ?_)
   all_goals (first | refine AtT.kL 35 ?_ | refine AtT.zF (d:=35) rfl (fun hg35=>?_) (fun hg35=>?_) | refine AtT.zD (d:=35) rfl (fun hg35=>?_) (fun hg35=>?_))
   all_goals first|refine AtT.zi ?_|refine AtT.ze ?_|(refine AtT.zf ?_)
   all_goals first|refine AtT.zi ?_|refine AtT.ze ?_|(refine AtT.qA ?_)
   all_goals first|refine AtT.zi ?_|refine AtT.ze ?_|(refine AtT.zf ?_)
   all_goals (first | refine AtT.kL 38 ?_ | refine AtT.zF (d:=38) rfl (fun hg38=>?_) (fun hg38=>?_) | refine AtT.zD (d:=38) rfl (fun hg38=>?_) (fun hg38=>?_))
   all_goals first|refine AtT.zi ?_|refine AtT.ze ?_|(first | refine AtT.zk zB ?_ | with_reducible refine AtT.zm zB ?_ | refine AtT.zo zB ?_)
   all_goals first|refine AtT.zi ?_|refine AtT.ze ?_|(first | refine AtT.zn qH ?_ | refine AtT.zq qH ?_)
   all_goals first|refine AtT.zi ?_|refine AtT.ze ?_|(refine AtT.zf ?_)
   all_goals first|refine AtT.zi ?_|refine AtT.ze ?_|(refine AtT.qj Tryz.underlying22 tk3 ?_);(intro p42 e42 he42 hc42)
   all_goals first|refine AtT.zi ?_|refine AtT.ze ?_|(first | refine AtT.zn tk3 ?_ | refine AtT.zq tk3 ?_)
   all_goals first|refine AtT.zi ?_|refine AtT.ze ?_|(first | refine AtT.zk zB ?_ | with_reducible refine AtT.zm zB ?_ | refine AtT.zo zB ?_)
   all_goals first|refine AtT.zi ?_|refine AtT.ze ?_|(first | refine AtT.zn qH ?_ | refine AtT.zq qH ?_)
   all_goals first|refine AtT.zi ?_|refine AtT.ze ?_|(refine AtT.zf ?_)
   all_goals first|refine AtT.zi ?_|refine AtT.ze ?_|(first | refine AtT.jD ?_ | refine AtT.jE ?_)
   all_goals first|refine AtT.zi ?_|refine AtT.ze ?_|(refine AtT.qj Tryz.underlying22 tk3 ?_);(intro p48 e48 he48 hc48)
   all_goals first|refine AtT.zi ?_|refine AtT.ze ?_|(first | refine AtT.zn tk3 ?_ | refine AtT.zq tk3 ?_)
   all_goals first|refine AtT.zi ?_|refine AtT.ze ?_|(refine AtT.kleq ?_)
   all_goals first|refine AtT.zi ?_|refine AtT.ze ?_|(refine AtT.zH ?_)
   all_goals (refine AtT.zH ?_)
   all_goals refine AtT.done ?_
   all_goals (refine At.nrm ?_)
   refine At.jo rfl rfl ?_
   refine At.nrm ?_
   refine At.zh (.q 0 .done) ?_
   refine AtT.zg ?_
   refine AtT.done ?_
   refine At.nrm ?_
   exact At.qf rfl (.tmp rfl) ⟨3,rfl,⟨fun h=>(by cases h),fun h=>by have:=h.fb.bd x (List.mem_of_getElem? hx); omega⟩⟩
  have hxn:∀ y∈f.take (k+1),0≤y∧y<n:=fun y hy=>by
   rw[List.take_succ_eq_append_getElem hkl1]at hy
   rcases List.mem_append.1 hy with h | h
   ·exact hup.bd y h
   ·rw[List.getElem?_eq_getElem hkl1]at hx
    obtain rfl:y=f[k]:=by simpa using h
    obtain rfl:f[k]=x:=by simpa using hx
    omega
  by_cases c3:k=0
  ·refine At.draw (.q 0 (.q 1 (.q 2 (.q 3 (.q 4 (.q 5 (.q 6 (.q 7 (.q 8 (.q 9 (.q 10 (.q 11 (.q 12 (.q 13 (.q 14 (.q 15 (.q 16 (.q 17 (.q 18 (.q 19 (.q 20 (.q 21 (.q 22 (.q 23 (.q 24 (.q 25 (.q 26 (.q 27 (.q 28 (.q 29 (.q 30 (.q 31 (.q 32 (.q 33 .done)))))))))))))))))))))))))))))))))) ffm (by kernel_rfl) ?_
   first | refine AtT.zk zB ?_ | with_reducible refine AtT.zm zB ?_ | refine AtT.zo zB ?_
   first | refine AtT.zn qH ?_ | refine AtT.zq qH ?_
   refine AtT.zf ?_
   refine AtT.qj Tryz.underlying22 tk3 ?_
   intro p22 e22 he22 hc22
   obtain rfl:x=e22:=by have:f[k]? = some e22:=(by simpa using he22); rw[hx]at this; simpa using this
   first | refine AtT.zn tk3 ?_ | refine AtT.zq tk3 ?_
   refine AtT.qd ?_
   refine AtT.qx (d:=24) rfl (c1) ?_
   refine AtT.zf ?_
   all_goals (first | refine AtT.kL 25 ?_ | refine AtT.zF (d:=25) rfl (fun hg25=>?_) (fun hg25=>?_) | refine AtT.zD (d:=25) rfl (fun hg25=>?_) (fun hg25=>?_))
   all_goals first|refine AtT.zi ?_|refine AtT.ze ?_|(first | refine AtT.zk zB ?_ | with_reducible refine AtT.zm zB ?_ | refine AtT.zo zB ?_)
   all_goals first|refine AtT.zi ?_|refine AtT.ze ?_|(first | refine AtT.zn qH ?_ | refine AtT.zq qH ?_)
   all_goals first|refine AtT.zi ?_|refine AtT.ze ?_|(refine AtT.zf ?_)
   all_goals first|refine AtT.zi ?_|refine AtT.ze ?_|(refine AtT.qj Tryz.underlying22 tk3 ?_);(intro p29 e29 he29 hc29)
   all_goals (obtain rfl:x=e29:=by have:f[k]? = some e29:=(by simpa using he29); rw[hx]at this; simpa using this)
   all_goals first|refine AtT.zi ?_|refine AtT.ze ?_|(first | refine AtT.zn tk3 ?_ | refine AtT.zq tk3 ?_)
   all_goals first|refine AtT.zi ?_|refine AtT.ze ?_|(first | refine AtT.zk zI ?_ | with_reducible refine AtT.zm zI ?_ | refine AtT.zo zI ?_)
   all_goals first|refine AtT.zi ?_|refine AtT.ze ?_|(first | refine AtT.zn tk3 ?_ | refine AtT.zq tk3 ?_)
   all_goals first|refine AtT.zi ?_|refine AtT.ze ?_|(refine AtT.kgeq ?_)
   all_goals (refine AtT.qx (d:=33) rfl (c2) ?_)
   all_goals (refine AtT.zH ?_)
   all_goals (refine AtT.zf ?_)
   all_goals (first | refine AtT.kL 35 ?_ | refine AtT.zF (d:=35) rfl (fun hg35=>?_) (fun hg35=>?_) | refine AtT.zD (d:=35) rfl (fun hg35=>?_) (fun hg35=>?_))
   all_goals first|refine AtT.zi ?_|refine AtT.ze ?_|(refine AtT.zf ?_)
   all_goals first|refine AtT.zi ?_|refine AtT.ze ?_|(refine AtT.qA ?_)
   all_goals (refine AtT.qx (d:=37) rfl ((by omega)) ?_)
   all_goals first|refine AtT.zi ?_|refine AtT.ze ?_|(refine AtT.zf ?_)
   all_goals (first | refine AtT.kL 38 ?_ | refine AtT.zF (d:=38) rfl (fun hg38=>?_) (fun hg38=>?_) | refine AtT.zD (d:=38) rfl (fun hg38=>?_) (fun hg38=>?_))
   all_goals first|refine AtT.zi ?_|refine AtT.ze ?_|(first | refine AtT.zk zB ?_ | with_reducible refine AtT.zm zB ?_ | refine AtT.zo zB ?_)
   all_goals first|refine AtT.zi ?_|refine AtT.ze ?_|(first | refine AtT.zn qH ?_ | refine AtT.zq qH ?_)
   all_goals first|refine AtT.zi ?_|refine AtT.ze ?_|(refine AtT.zf ?_)
   all_goals first|refine AtT.zi ?_|refine AtT.ze ?_|(refine AtT.qj Tryz.underlying22 tk3 ?_);(intro p42 e42 he42 hc42)
   all_goals first|refine AtT.zi ?_|refine AtT.ze ?_|(first | refine AtT.zn tk3 ?_ | refine AtT.zq tk3 ?_)
   all_goals first|refine AtT.zi ?_|refine AtT.ze ?_|(first | refine AtT.zk zB ?_ | with_reducible refine AtT.zm zB ?_ | refine AtT.zo zB ?_)
   all_goals first|refine AtT.zi ?_|refine AtT.ze ?_|(first | refine AtT.zn qH ?_ | refine AtT.zq qH ?_)
   all_goals first|refine AtT.zi ?_|refine AtT.ze ?_|(refine AtT.zf ?_)
   all_goals first|refine AtT.zi ?_|refine AtT.ze ?_|(first | refine AtT.jD ?_ | refine AtT.jE ?_)
   all_goals first|refine AtT.zi ?_|refine AtT.ze ?_|(refine AtT.qj Tryz.underlying22 tk3 ?_);(intro p48 e48 he48 hc48)
   all_goals first|refine AtT.zi ?_|refine AtT.ze ?_|(first | refine AtT.zn tk3 ?_ | refine AtT.zq tk3 ?_)
   all_goals first|refine AtT.zi ?_|refine AtT.ze ?_|(refine AtT.kleq ?_)
   all_goals first|refine AtT.zi ?_|refine AtT.ze ?_|(refine AtT.zH ?_)
   all_goals (refine AtT.zH ?_)
   all_goals refine AtT.done ?_
   all_goals (refine At.nrm ?_)
   refine At.qh rfl rfl ?_
   refine At.nrm ?_
   refine At.zh (.q 0 (.q 1 (.q 2 .done))) ?_
   refine AtT.zf ?_
   first | refine AtT.ql ?_ | refine AtT.zP ?_
   refine AtT.zg ?_
   refine AtT.done ?_
   refine At.nrm ?_
   refine At.round (k+1) ?_ ?_ ?_ ?_
   ·show f.length-(k+1)<f.length-k; omega
   ·exact⟨rfl,by omega,⟨hxn,up_step hup.up hx (fun j y hj _=>by omega)⟩⟩
   ·exact⟨rfl,rfl,trivial⟩
   ·exact Pt.zC
  obtain⟨y,hy⟩:∃ y,f[k-1]? = some y:=⟨_,List.getElem?_eq_getElem (by omega)⟩
  have hk1:((k:Int)-1).toNat=k-1:=by omega
  by_cases c4:x≤y
  ·refine At.draw (.q 0 (.q 1 (.q 2 (.q 3 (.q 4 (.q 5 (.q 6 (.q 7 (.q 8 (.q 9 (.q 10 (.q 11 (.q 12 (.q 13 (.q 14 (.q 15 (.q 16 (.q 17 (.q 18 (.q 19 (.q 20 (.q 21 (.q 22 (.q 23 (.q 24 (.q 25 (.q 26 (.q 27 (.q 28 (.q 29 (.q 30 (.q 31 (.q 32 (.q 33 .done)))))))))))))))))))))))))))))))))) ffm (by kernel_rfl) ?_
   first | refine AtT.zk zB ?_ | with_reducible refine AtT.zm zB ?_ | refine AtT.zo zB ?_
   first | refine AtT.zn qH ?_ | refine AtT.zq qH ?_
   refine AtT.zf ?_
   refine AtT.qj Tryz.underlying22 tk3 ?_
   intro p22 e22 he22 hc22
   obtain rfl:x=e22:=by have:f[k]? = some e22:=(by simpa using he22); rw[hx]at this; simpa using this
   first | refine AtT.zn tk3 ?_ | refine AtT.zq tk3 ?_
   refine AtT.qd ?_
   refine AtT.qx (d:=24) rfl (c1) ?_
   refine AtT.zf ?_
   all_goals (first | refine AtT.kL 25 ?_ | refine AtT.zF (d:=25) rfl (fun hg25=>?_) (fun hg25=>?_) | refine AtT.zD (d:=25) rfl (fun hg25=>?_) (fun hg25=>?_))
   all_goals first|refine AtT.zi ?_|refine AtT.ze ?_|(first | refine AtT.zk zB ?_ | with_reducible refine AtT.zm zB ?_ | refine AtT.zo zB ?_)
   all_goals first|refine AtT.zi ?_|refine AtT.ze ?_|(first | refine AtT.zn qH ?_ | refine AtT.zq qH ?_)
   all_goals first|refine AtT.zi ?_|refine AtT.ze ?_|(refine AtT.zf ?_)
   all_goals first|refine AtT.zi ?_|refine AtT.ze ?_|(refine AtT.qj Tryz.underlying22 tk3 ?_);(intro p29 e29 he29 hc29)
   all_goals (obtain rfl:x=e29:=by have:f[k]? = some e29:=(by simpa using he29); rw[hx]at this; simpa using this)
   all_goals first|refine AtT.zi ?_|refine AtT.ze ?_|(first | refine AtT.zn tk3 ?_ | refine AtT.zq tk3 ?_)
   all_goals first|refine AtT.zi ?_|refine AtT.ze ?_|(first | refine AtT.zk zI ?_ | with_reducible refine AtT.zm zI ?_ | refine AtT.zo zI ?_)
   all_goals first|refine AtT.zi ?_|refine AtT.ze ?_|(first | refine AtT.zn tk3 ?_ | refine AtT.zq tk3 ?_)
   all_goals first|refine AtT.zi ?_|refine AtT.ze ?_|(refine AtT.kgeq ?_)
   all_goals (refine AtT.qx (d:=33) rfl (c2) ?_)
   all_goals (refine AtT.zH ?_)
   all_goals (refine AtT.zf ?_)
   all_goals (first | refine AtT.kL 35 ?_ | refine AtT.zF (d:=35) rfl (fun hg35=>?_) (fun hg35=>?_) | refine AtT.zD (d:=35) rfl (fun hg35=>?_) (fun hg35=>?_))
   all_goals first|refine AtT.zi ?_|refine AtT.ze ?_|(refine AtT.zf ?_)
   all_goals first|refine AtT.zi ?_|refine AtT.ze ?_|(refine AtT.qA ?_)
   all_goals (refine AtT.kR (d:=37) rfl ((by omega)) ?_)
   all_goals first|refine AtT.zi ?_|refine AtT.ze ?_|(refine AtT.zf ?_)
   all_goals (first | refine AtT.kL 38 ?_ | refine AtT.zF (d:=38) rfl (fun hg38=>?_) (fun hg38=>?_) | refine AtT.zD (d:=38) rfl (fun hg38=>?_) (fun hg38=>?_))
   all_goals first|refine AtT.zi ?_|refine AtT.ze ?_|(first | refine AtT.zk zB ?_ | with_reducible refine AtT.zm zB ?_ | refine AtT.zo zB ?_)
   all_goals first|refine AtT.zi ?_|refine AtT.ze ?_|(first | refine AtT.zn qH ?_ | refine AtT.zq qH ?_)
   all_goals first|refine AtT.zi ?_|refine AtT.ze ?_|(refine AtT.zf ?_)
   all_goals first|refine AtT.zi ?_|refine AtT.ze ?_|(refine AtT.qj Tryz.underlying22 tk3 ?_);(intro p42 e42 he42 hc42)
   all_goals (obtain rfl:x=e42:=by have:f[k]? = some e42:=(by simpa using he42); rw[hx]at this; simpa using this)
   all_goals first|refine AtT.zi ?_|refine AtT.ze ?_|(first | refine AtT.zn tk3 ?_ | refine AtT.zq tk3 ?_)
   all_goals first|refine AtT.zi ?_|refine AtT.ze ?_|(first | refine AtT.zk zB ?_ | with_reducible refine AtT.zm zB ?_ | refine AtT.zo zB ?_)
   all_goals first|refine AtT.zi ?_|refine AtT.ze ?_|(first | refine AtT.zn qH ?_ | refine AtT.zq qH ?_)
   all_goals first|refine AtT.zi ?_|refine AtT.ze ?_|(refine AtT.zf ?_)
   all_goals first|refine AtT.zi ?_|refine AtT.ze ?_|(first | refine AtT.jD ?_ | refine AtT.jE ?_)
   all_goals first|refine AtT.zi ?_|refine AtT.ze ?_|(refine AtT.qj Tryz.underlying22 tk3 ?_);(intro p48 e48 he48 hc48)
   all_goals (obtain rfl:y=e48:=by rw[hk1,hy]at he48; simpa using he48)
   all_goals first|refine AtT.zi ?_|refine AtT.ze ?_|(first | refine AtT.zn tk3 ?_ | refine AtT.zq tk3 ?_)
   all_goals first|refine AtT.zi ?_|refine AtT.ze ?_|(refine AtT.kleq ?_)
   all_goals (refine AtT.kR (d:=50) rfl (c4) ?_)
   all_goals first|refine AtT.zi ?_|refine AtT.ze ?_|(refine AtT.zH ?_)
   all_goals (refine AtT.zH ?_)
   all_goals refine AtT.done ?_
   all_goals (refine At.nrm ?_)
   refine At.jo rfl rfl ?_
   refine At.nrm ?_
   refine At.zh (.q 0 .done) ?_
   refine AtT.zg ?_
   refine AtT.done ?_
   refine At.nrm ?_
   exact At.qf rfl (.tmp rfl) ⟨3,rfl,⟨fun h=>(by cases h),fun h=>by have:=up_at h.fb.up hy hx (by omega); omega⟩⟩
  ·refine At.draw (.q 0 (.q 1 (.q 2 (.q 3 (.q 4 (.q 5 (.q 6 (.q 7 (.q 8 (.q 9 (.q 10 (.q 11 (.q 12 (.q 13 (.q 14 (.q 15 (.q 16 (.q 17 (.q 18 (.q 19 (.q 20 (.q 21 (.q 22 (.q 23 (.q 24 (.q 25 (.q 26 (.q 27 (.q 28 (.q 29 (.q 30 (.q 31 (.q 32 (.q 33 .done)))))))))))))))))))))))))))))))))) ffm (by kernel_rfl) ?_
   first | refine AtT.zk zB ?_ | with_reducible refine AtT.zm zB ?_ | refine AtT.zo zB ?_
   first | refine AtT.zn qH ?_ | refine AtT.zq qH ?_
   refine AtT.zf ?_
   refine AtT.qj Tryz.underlying22 tk3 ?_
   intro p22 e22 he22 hc22
   obtain rfl:x=e22:=by have:f[k]? = some e22:=(by simpa using he22); rw[hx]at this; simpa using this
   first | refine AtT.zn tk3 ?_ | refine AtT.zq tk3 ?_
   refine AtT.qd ?_
   refine AtT.qx (d:=24) rfl (c1) ?_
   refine AtT.zf ?_
   all_goals (first | refine AtT.kL 25 ?_ | refine AtT.zF (d:=25) rfl (fun hg25=>?_) (fun hg25=>?_) | refine AtT.zD (d:=25) rfl (fun hg25=>?_) (fun hg25=>?_))
   all_goals first|refine AtT.zi ?_|refine AtT.ze ?_|(first | refine AtT.zk zB ?_ | with_reducible refine AtT.zm zB ?_ | refine AtT.zo zB ?_)
   all_goals first|refine AtT.zi ?_|refine AtT.ze ?_|(first | refine AtT.zn qH ?_ | refine AtT.zq qH ?_)
   all_goals first|refine AtT.zi ?_|refine AtT.ze ?_|(refine AtT.zf ?_)
   all_goals first|refine AtT.zi ?_|refine AtT.ze ?_|(refine AtT.qj Tryz.underlying22 tk3 ?_);(intro p29 e29 he29 hc29)
   all_goals (obtain rfl:x=e29:=by have:f[k]? = some e29:=(by simpa using he29); rw[hx]at this; simpa using this)
   all_goals first|refine AtT.zi ?_|refine AtT.ze ?_|(first | refine AtT.zn tk3 ?_ | refine AtT.zq tk3 ?_)
   all_goals first|refine AtT.zi ?_|refine AtT.ze ?_|(first | refine AtT.zk zI ?_ | with_reducible refine AtT.zm zI ?_ | refine AtT.zo zI ?_)
   all_goals first|refine AtT.zi ?_|refine AtT.ze ?_|(first | refine AtT.zn tk3 ?_ | refine AtT.zq tk3 ?_)
   all_goals first|refine AtT.zi ?_|refine AtT.ze ?_|(refine AtT.kgeq ?_)
   all_goals (refine AtT.qx (d:=33) rfl (c2) ?_)
   all_goals (refine AtT.zH ?_)
   all_goals (refine AtT.zf ?_)
   all_goals (first | refine AtT.kL 35 ?_ | refine AtT.zF (d:=35) rfl (fun hg35=>?_) (fun hg35=>?_) | refine AtT.zD (d:=35) rfl (fun hg35=>?_) (fun hg35=>?_))
   all_goals first|refine AtT.zi ?_|refine AtT.ze ?_|(refine AtT.zf ?_)
   all_goals first|refine AtT.zi ?_|refine AtT.ze ?_|(refine AtT.qA ?_)
   all_goals (refine AtT.kR (d:=37) rfl ((by omega)) ?_)
   all_goals first|refine AtT.zi ?_|refine AtT.ze ?_|(refine AtT.zf ?_)
   all_goals (first | refine AtT.kL 38 ?_ | refine AtT.zF (d:=38) rfl (fun hg38=>?_) (fun hg38=>?_) | refine AtT.zD (d:=38) rfl (fun hg38=>?_) (fun hg38=>?_))
   all_goals first|refine AtT.zi ?_|refine AtT.ze ?_|(first | refine AtT.zk zB ?_ | with_reducible refine AtT.zm zB ?_ | refine AtT.zo zB ?_)
   all_goals first|refine AtT.zi ?_|refine AtT.ze ?_|(first | refine AtT.zn qH ?_ | refine AtT.zq qH ?_)
   all_goals first|refine AtT.zi ?_|refine AtT.ze ?_|(refine AtT.zf ?_)
   all_goals first|refine AtT.zi ?_|refine AtT.ze ?_|(refine AtT.qj Tryz.underlying22 tk3 ?_);(intro p42 e42 he42 hc42)
   all_goals (obtain rfl:x=e42:=by have:f[k]? = some e42:=(by simpa using he42); rw[hx]at this; simpa using this)
   all_goals first|refine AtT.zi ?_|refine AtT.ze ?_|(first | refine AtT.zn tk3 ?_ | refine AtT.zq tk3 ?_)
   all_goals first|refine AtT.zi ?_|refine AtT.ze ?_|(first | refine AtT.zk zB ?_ | with_reducible refine AtT.zm zB ?_ | refine AtT.zo zB ?_)
   all_goals first|refine AtT.zi ?_|refine AtT.ze ?_|(first | refine AtT.zn qH ?_ | refine AtT.zq qH ?_)
   all_goals first|refine AtT.zi ?_|refine AtT.ze ?_|(refine AtT.zf ?_)
   all_goals first|refine AtT.zi ?_|refine AtT.ze ?_|(first | refine AtT.jD ?_ | refine AtT.jE ?_)
   all_goals first|refine AtT.zi ?_|refine AtT.ze ?_|(refine AtT.qj Tryz.underlying22 tk3 ?_);(intro p48 e48 he48 hc48)
   all_goals (obtain rfl:y=e48:=by rw[hk1,hy]at he48; simpa using he48)
   all_goals first|refine AtT.zi ?_|refine AtT.ze ?_|(first | refine AtT.zn tk3 ?_ | refine AtT.zq tk3 ?_)
   all_goals first|refine AtT.zi ?_|refine AtT.ze ?_|(refine AtT.kleq ?_)
   all_goals (refine AtT.qx (d:=50) rfl (c4) ?_)
   all_goals first|refine AtT.zi ?_|refine AtT.ze ?_|(refine AtT.zH ?_)
   all_goals (refine AtT.zH ?_)
   all_goals refine AtT.done ?_
   all_goals (refine At.nrm ?_)
   refine At.qh rfl rfl ?_
   refine At.nrm ?_
   refine At.zh (.q 0 (.q 1 (.q 2 .done))) ?_
   refine AtT.zf ?_
   first | refine AtT.ql ?_ | refine AtT.zP ?_
   refine AtT.zg ?_
   refine AtT.done ?_
   refine At.nrm ?_
   refine At.round (k+1) ?_ ?_ ?_ ?_
   ·show f.length-(k+1)<f.length-k; omega
   ·refine⟨rfl,by omega,⟨hxn,up_step hup.up hx (fun j z hj hz=>?_)⟩⟩
    obtain rfl:j=k-1:=by omega
    rw[hy]at hz
    obtain rfl:y=z:=by simpa using hz
    omega
   ·exact⟨rfl,rfl,trivial⟩
   ·exact Pt.zC
 ·obtain rfl:k=f.length:=by omega
  refine At.nrm ?_
  refine At.zh (.q 0 .done) ?_
  refine AtT.zg ?_
  refine AtT.done ?_
  refine At.nrm ?_
  refine At.qf rfl (.tmp rfl) ⟨0,rfl,⟨fun _=>⟨⟨by omega,by omega⟩,?_⟩,fun _=>rfl⟩⟩
  rw[List.take_length]at hup
  exact hup
theorem rKinds_f (ks:List Kd) (V:View) (v:Value) (hs:Sl V kde 3 v ks):Fnc Tryz.prog 5 [v] V fun r _=>∃ e,r=iv e∧(e=0↔KdOk ks):=by
 have hlen:=hs.qV
 obtain⟨a,cc,rfl,k1,k2,_⟩:=id hs
 clear k1 k2
 refine qa Tryz.func5 rfl Tryz.ntmps5 (Nat.le_of_ble_eq_true rfl) ?_
 intro w0 hw0
 refine At.nrm ?_
 refine At.zh (.q 0 .done) ?_
 refine AtT.zg ?_
 refine AtT.done ?_
 refine At.nrm ?_
 by_cases c1:ks.length<1
 ·refine At.zh (.q 0 (.q 1 (.q 2 (.q 3 (.q 4 (.q 5 (.q 6 (.q 7 .done)))))))) ?_
  refine AtT.zf ?_
  first | refine AtT.zW Tryz.underlying25 ?_ | refine AtT.zX Tryz.underlying25 ?_
  refine AtT.qd ?_
  refine AtT.kR (d:=7) rfl ((by omega)) ?_
  refine AtT.zf ?_
  all_goals (first | refine AtT.kL 8 ?_ | refine AtT.zF (d:=8) rfl (fun hg8=>?_) (fun hg8=>?_) | refine AtT.zD (d:=8) rfl (fun hg8=>?_) (fun hg8=>?_))
  all_goals first|refine AtT.zi ?_|refine AtT.ze ?_|(refine AtT.zf ?_)
  all_goals first|refine AtT.zi ?_|refine AtT.ze ?_|(first | refine AtT.zW Tryz.underlying25 ?_ | refine AtT.zX Tryz.underlying25 ?_)
  all_goals first|refine AtT.zi ?_|refine AtT.ze ?_|(refine AtT.qA ?_)
  all_goals (refine AtT.zH ?_)
  all_goals refine AtT.done ?_
  all_goals (refine At.nrm ?_)
  refine At.jo rfl rfl ?_
  refine At.nrm ?_
  refine At.zh (.q 0 .done) ?_
  refine AtT.zg ?_
  refine AtT.done ?_
  refine At.nrm ?_
  exact At.qf rfl (.tmp rfl) ⟨6,rfl,⟨fun h=>(by cases h),fun h=>by have:=h.n; omega⟩⟩
 by_cases c2:6<ks.length
 ·refine At.zh (.q 0 (.q 1 (.q 2 (.q 3 (.q 4 (.q 5 (.q 6 (.q 7 .done)))))))) ?_
  refine AtT.zf ?_
  first | refine AtT.zW Tryz.underlying25 ?_ | refine AtT.zX Tryz.underlying25 ?_
  refine AtT.qd ?_
  refine AtT.qx (d:=7) rfl ((by omega)) ?_
  refine AtT.zf ?_
  all_goals (first | refine AtT.kL 8 ?_ | refine AtT.zF (d:=8) rfl (fun hg8=>?_) (fun hg8=>?_) | refine AtT.zD (d:=8) rfl (fun hg8=>?_) (fun hg8=>?_))
  all_goals first|refine AtT.zi ?_|refine AtT.ze ?_|(refine AtT.zf ?_)
  all_goals first|refine AtT.zi ?_|refine AtT.ze ?_|(first | refine AtT.zW Tryz.underlying25 ?_ | refine AtT.zX Tryz.underlying25 ?_)
  all_goals first|refine AtT.zi ?_|refine AtT.ze ?_|(refine AtT.qA ?_)
  all_goals (refine AtT.kR (d:=11) rfl ((by omega)) ?_)
  all_goals (refine AtT.zH ?_)
  all_goals refine AtT.done ?_
  all_goals (refine At.nrm ?_)
  refine At.jo rfl rfl ?_
  refine At.nrm ?_
  refine At.zh (.q 0 .done) ?_
  refine AtT.zg ?_
  refine AtT.done ?_
  refine At.nrm ?_
  exact At.qf rfl (.tmp rfl) ⟨6,rfl,⟨fun h=>(by cases h),fun h=>by have:=h.n; omega⟩⟩
 refine At.zh (.q 0 (.q 1 (.q 2 (.q 3 (.q 4 (.q 5 (.q 6 (.q 7 .done)))))))) ?_
 refine AtT.zf ?_
 first | refine AtT.zW Tryz.underlying25 ?_ | refine AtT.zX Tryz.underlying25 ?_
 refine AtT.qd ?_
 refine AtT.qx (d:=7) rfl ((by omega)) ?_
 refine AtT.zf ?_
 all_goals (first | refine AtT.kL 8 ?_ | refine AtT.zF (d:=8) rfl (fun hg8=>?_) (fun hg8=>?_) | refine AtT.zD (d:=8) rfl (fun hg8=>?_) (fun hg8=>?_))
 all_goals first|refine AtT.zi ?_|refine AtT.ze ?_|(refine AtT.zf ?_)
 all_goals first|refine AtT.zi ?_|refine AtT.ze ?_|(first | refine AtT.zW Tryz.underlying25 ?_ | refine AtT.zX Tryz.underlying25 ?_)
 all_goals first|refine AtT.zi ?_|refine AtT.ze ?_|(refine AtT.qA ?_)
 all_goals (refine AtT.qx (d:=11) rfl ((by omega)) ?_)
 all_goals (refine AtT.zH ?_)
 all_goals refine AtT.done ?_
 all_goals (refine At.nrm ?_)
 refine At.qh rfl rfl ?_
 refine At.nrm ?_
 refine At.zh (.q 0 .done) ?_
 refine AtT.zg ?_
 refine AtT.done ?_
 refine At.nrm ?_
 refine At.lp (ι:=Nat) (KS:=fun k=>[(0,.slice a ks.length cc),(3,iv k)]) (OS:=fun _=>[])
  (VS:=fun k V'=>V'=V∧k≤ks.length∧∀ j p,j<k→ks[j]? = some p→1≤p.w∧p.w≤24∧1≤p.p∧p.p≤1000∧0≤p.m∧p.m≤24) (μ:=fun k=>ks.length-k) 0 ?_ ?_ ?_ ?_
 ·exact⟨rfl,rfl,trivial⟩
 ·exact Pt.zC
 ·exact⟨rfl,Nat.zero_le _,fun j p h=>by omega⟩
 rintro k V' ks' O' ⟨rfl,hkl,hup⟩ hk hO hl
 subst hk hO
 refine At.nrm ?_
 refine At.zh (.q 0 (.q 1 (.q 2 (.q 3 .done)))) ?_
 refine AtT.zf ?_
 refine AtT.zf ?_
 first | refine AtT.zW Tryz.underlying25 ?_ | refine AtT.zX Tryz.underlying25 ?_
 refine AtT.qd ?_
 refine AtT.done ?_
 refine At.nrm ?_
 refine At.qb rfl (fun hp2=>?_) (fun hp2=>?_)
 ·obtain⟨x,hx⟩:∃ x,ks[k]? = some x:=⟨_,List.getElem?_eq_getElem (by omega)⟩
  refine At.nrm ?_
  refine At.zh (.q 0 (.q 1 (.q 2 (.q 3 (.n false 4 (.n true 5 .done)))))) ?_
  refine AtT.zf ?_
  refine AtT.zf ?_
  refine AtT.qj Tryz.underlying25 kw ?_
  intro p21 e21 he21 hc21
  obtain rfl:x=e21:=by have:ks[k]? = some e21:=(by simpa using he21); rw[hx]at this; simpa using this
  first | refine AtT.zL kw ?_ | refine AtT.zS kw ?_ | refine AtT.zK kw ?_
  refine AtT.qE z41 ?_
  intro b4
  refine AtT.zU kw ?_
  refine AtT.done ?_
  refine At.nrm ?_
  by_cases d0:x.w<1
  ·refine At.zh (.q 0 (.q 1 (.q 2 (.q 3 (.q 4 (.q 5 (.q 6 (.q 7 (.q 8 (.q 9 (.q 10 (.q 11 (.q 12 (.q 13 (.q 14 (.q 15 (.q 16 (.q 17 (.q 18 (.q 19 (.q 20 (.q 21 (.q 22 (.q 23 (.q 24 (.q 25 (.q 26 (.q 27 .done)))))))))))))))))))))))))))) ?_
   first | refine AtT.zk zQ ?_ | with_reducible refine AtT.zm zQ ?_ | refine AtT.zo zQ ?_
   first | refine AtT.zn tk3 ?_ | refine AtT.zq tk3 ?_
   refine AtT.qd ?_
   refine AtT.kR (d:=25) rfl (d0) ?_
   refine AtT.zf ?_
   all_goals (first | refine AtT.kL 26 ?_ | refine AtT.zF (d:=26) rfl (fun hg26=>?_) (fun hg26=>?_) | refine AtT.zD (d:=26) rfl (fun hg26=>?_) (fun hg26=>?_))
   all_goals first|refine AtT.zi ?_|refine AtT.ze ?_|(first | refine AtT.zk zQ ?_ | with_reducible refine AtT.zm zQ ?_ | refine AtT.zo zQ ?_)
   all_goals first|refine AtT.zi ?_|refine AtT.ze ?_|(first | refine AtT.zn tk3 ?_ | refine AtT.zq tk3 ?_)
   all_goals first|refine AtT.zi ?_|refine AtT.ze ?_|(refine AtT.qA ?_)
   all_goals (refine AtT.zH ?_)
   all_goals (refine AtT.zf ?_)
   all_goals (first | refine AtT.kL 31 ?_ | refine AtT.zF (d:=31) rfl (fun hg31=>?_) (fun hg31=>?_) | refine AtT.zD (d:=31) rfl (fun hg31=>?_) (fun hg31=>?_))
   all_goals first|refine AtT.zi ?_|refine AtT.ze ?_|(first | refine AtT.zk zA ?_ | with_reducible refine AtT.zm zA ?_ | refine AtT.zo zA ?_)
   all_goals first|refine AtT.zi ?_|refine AtT.ze ?_|(first | refine AtT.zn tk2 ?_ | refine AtT.zq tk2 ?_)
   all_goals first|refine AtT.zi ?_|refine AtT.ze ?_|(refine AtT.qd ?_)
   all_goals (refine AtT.zH ?_)
   all_goals (refine AtT.zf ?_)
   all_goals (first | refine AtT.kL 36 ?_ | refine AtT.zF (d:=36) rfl (fun hg36=>?_) (fun hg36=>?_) | refine AtT.zD (d:=36) rfl (fun hg36=>?_) (fun hg36=>?_))
   all_goals first|refine AtT.zi ?_|refine AtT.ze ?_|(first | refine AtT.zk zA ?_ | with_reducible refine AtT.zm zA ?_ | refine AtT.zo zA ?_)
   all_goals first|refine AtT.zi ?_|refine AtT.ze ?_|(first | refine AtT.zn tk2 ?_ | refine AtT.zq tk2 ?_)
   all_goals first|refine AtT.zi ?_|refine AtT.ze ?_|(refine AtT.qA ?_)
   all_goals (refine AtT.zH ?_)
   all_goals (refine AtT.zf ?_)
   all_goals (first | refine AtT.kL 41 ?_ | refine AtT.zF (d:=41) rfl (fun hg41=>?_) (fun hg41=>?_) | refine AtT.zD (d:=41) rfl (fun hg41=>?_) (fun hg41=>?_))
   all_goals first|refine AtT.zi ?_|refine AtT.ze ?_|(first | refine AtT.zk zT ?_ | with_reducible refine AtT.zm zT ?_ | refine AtT.zo zT ?_)
   all_goals first|refine AtT.zi ?_|refine AtT.ze ?_|(first | refine AtT.zn tk3 ?_ | refine AtT.zq tk3 ?_)
   all_goals first|refine AtT.zi ?_|refine AtT.ze ?_|(refine AtT.qd ?_)
   all_goals (refine AtT.zH ?_)
   all_goals (refine AtT.zf ?_)
   all_goals (first | refine AtT.kL 46 ?_ | refine AtT.zF (d:=46) rfl (fun hg46=>?_) (fun hg46=>?_) | refine AtT.zD (d:=46) rfl (fun hg46=>?_) (fun hg46=>?_))
   all_goals first|refine AtT.zi ?_|refine AtT.ze ?_|(first | refine AtT.zk zT ?_ | with_reducible refine AtT.zm zT ?_ | refine AtT.zo zT ?_)
   all_goals first|refine AtT.zi ?_|refine AtT.ze ?_|(first | refine AtT.zn tk3 ?_ | refine AtT.zq tk3 ?_)
   all_goals first|refine AtT.zi ?_|refine AtT.ze ?_|(refine AtT.qA ?_)
   all_goals (refine AtT.zH ?_)
   all_goals refine AtT.done ?_
   all_goals (refine At.nrm ?_)
   refine At.jo rfl rfl ?_
   refine At.nrm ?_
   refine At.zh (.q 0 .done) ?_
   refine AtT.zg ?_
   refine AtT.done ?_
   refine At.nrm ?_
   exact At.qf rfl (.tmp rfl) ⟨3,rfl,⟨fun h=>(by cases h),fun h=>by have:=h.k x (List.mem_of_getElem? hx); omega⟩⟩
  by_cases d1:24<x.w
  ·refine At.zh (.q 0 (.q 1 (.q 2 (.q 3 (.q 4 (.q 5 (.q 6 (.q 7 (.q 8 (.q 9 (.q 10 (.q 11 (.q 12 (.q 13 (.q 14 (.q 15 (.q 16 (.q 17 (.q 18 (.q 19 (.q 20 (.q 21 (.q 22 (.q 23 (.q 24 (.q 25 (.q 26 (.q 27 .done)))))))))))))))))))))))))))) ?_
   first | refine AtT.zk zQ ?_ | with_reducible refine AtT.zm zQ ?_ | refine AtT.zo zQ ?_
   first | refine AtT.zn tk3 ?_ | refine AtT.zq tk3 ?_
   refine AtT.qd ?_
   refine AtT.qx (d:=25) rfl (d0) ?_
   refine AtT.zf ?_
   all_goals (first | refine AtT.kL 26 ?_ | refine AtT.zF (d:=26) rfl (fun hg26=>?_) (fun hg26=>?_) | refine AtT.zD (d:=26) rfl (fun hg26=>?_) (fun hg26=>?_))
   all_goals first|refine AtT.zi ?_|refine AtT.ze ?_|(first | refine AtT.zk zQ ?_ | with_reducible refine AtT.zm zQ ?_ | refine AtT.zo zQ ?_)
   all_goals first|refine AtT.zi ?_|refine AtT.ze ?_|(first | refine AtT.zn tk3 ?_ | refine AtT.zq tk3 ?_)
   all_goals first|refine AtT.zi ?_|refine AtT.ze ?_|(refine AtT.qA ?_)
   all_goals (refine AtT.kR (d:=29) rfl (d1) ?_)
   all_goals (refine AtT.zH ?_)
   all_goals (refine AtT.zf ?_)
   all_goals (first | refine AtT.kL 31 ?_ | refine AtT.zF (d:=31) rfl (fun hg31=>?_) (fun hg31=>?_) | refine AtT.zD (d:=31) rfl (fun hg31=>?_) (fun hg31=>?_))
   all_goals first|refine AtT.zi ?_|refine AtT.ze ?_|(first | refine AtT.zk zA ?_ | with_reducible refine AtT.zm zA ?_ | refine AtT.zo zA ?_)
   all_goals first|refine AtT.zi ?_|refine AtT.ze ?_|(first | refine AtT.zn tk2 ?_ | refine AtT.zq tk2 ?_)
   all_goals first|refine AtT.zi ?_|refine AtT.ze ?_|(refine AtT.qd ?_)
   all_goals (refine AtT.zH ?_)
   all_goals (refine AtT.zf ?_)
   all_goals (first | refine AtT.kL 36 ?_ | refine AtT.zF (d:=36) rfl (fun hg36=>?_) (fun hg36=>?_) | refine AtT.zD (d:=36) rfl (fun hg36=>?_) (fun hg36=>?_))
   all_goals first|refine AtT.zi ?_|refine AtT.ze ?_|(first | refine AtT.zk zA ?_ | with_reducible refine AtT.zm zA ?_ | refine AtT.zo zA ?_)
   all_goals first|refine AtT.zi ?_|refine AtT.ze ?_|(first | refine AtT.zn tk2 ?_ | refine AtT.zq tk2 ?_)
   all_goals first|refine AtT.zi ?_|refine AtT.ze ?_|(refine AtT.qA ?_)
   all_goals (refine AtT.zH ?_)
   all_goals (refine AtT.zf ?_)
   all_goals (first | refine AtT.kL 41 ?_ | refine AtT.zF (d:=41) rfl (fun hg41=>?_) (fun hg41=>?_) | refine AtT.zD (d:=41) rfl (fun hg41=>?_) (fun hg41=>?_))
   all_goals first|refine AtT.zi ?_|refine AtT.ze ?_|(first | refine AtT.zk zT ?_ | with_reducible refine AtT.zm zT ?_ | refine AtT.zo zT ?_)
   all_goals first|refine AtT.zi ?_|refine AtT.ze ?_|(first | refine AtT.zn tk3 ?_ | refine AtT.zq tk3 ?_)
   all_goals first|refine AtT.zi ?_|refine AtT.ze ?_|(refine AtT.qd ?_)
   all_goals (refine AtT.zH ?_)
   all_goals (refine AtT.zf ?_)
   all_goals (first | refine AtT.kL 46 ?_ | refine AtT.zF (d:=46) rfl (fun hg46=>?_) (fun hg46=>?_) | refine AtT.zD (d:=46) rfl (fun hg46=>?_) (fun hg46=>?_))
   all_goals first|refine AtT.zi ?_|refine AtT.ze ?_|(first | refine AtT.zk zT ?_ | with_reducible refine AtT.zm zT ?_ | refine AtT.zo zT ?_)
   all_goals first|refine AtT.zi ?_|refine AtT.ze ?_|(first | refine AtT.zn tk3 ?_ | refine AtT.zq tk3 ?_)
   all_goals first|refine AtT.zi ?_|refine AtT.ze ?_|(refine AtT.qA ?_)
   all_goals (refine AtT.zH ?_)
   all_goals refine AtT.done ?_
   all_goals (refine At.nrm ?_)
   refine At.jo rfl rfl ?_
   refine At.nrm ?_
   refine At.zh (.q 0 .done) ?_
   refine AtT.zg ?_
   refine AtT.done ?_
   refine At.nrm ?_
   exact At.qf rfl (.tmp rfl) ⟨3,rfl,⟨fun h=>(by cases h),fun h=>by have:=h.k x (List.mem_of_getElem? hx); omega⟩⟩
  by_cases d2:x.p<1
  ·refine At.zh (.q 0 (.q 1 (.q 2 (.q 3 (.q 4 (.q 5 (.q 6 (.q 7 (.q 8 (.q 9 (.q 10 (.q 11 (.q 12 (.q 13 (.q 14 (.q 15 (.q 16 (.q 17 (.q 18 (.q 19 (.q 20 (.q 21 (.q 22 (.q 23 (.q 24 (.q 25 (.q 26 (.q 27 .done)))))))))))))))))))))))))))) ?_
   first | refine AtT.zk zQ ?_ | with_reducible refine AtT.zm zQ ?_ | refine AtT.zo zQ ?_
   first | refine AtT.zn tk3 ?_ | refine AtT.zq tk3 ?_
   refine AtT.qd ?_
   refine AtT.qx (d:=25) rfl (d0) ?_
   refine AtT.zf ?_
   all_goals (first | refine AtT.kL 26 ?_ | refine AtT.zF (d:=26) rfl (fun hg26=>?_) (fun hg26=>?_) | refine AtT.zD (d:=26) rfl (fun hg26=>?_) (fun hg26=>?_))
   all_goals first|refine AtT.zi ?_|refine AtT.ze ?_|(first | refine AtT.zk zQ ?_ | with_reducible refine AtT.zm zQ ?_ | refine AtT.zo zQ ?_)
   all_goals first|refine AtT.zi ?_|refine AtT.ze ?_|(first | refine AtT.zn tk3 ?_ | refine AtT.zq tk3 ?_)
   all_goals first|refine AtT.zi ?_|refine AtT.ze ?_|(refine AtT.qA ?_)
   all_goals (refine AtT.qx (d:=29) rfl (d1) ?_)
   all_goals (refine AtT.zH ?_)
   all_goals (refine AtT.zf ?_)
   all_goals (first | refine AtT.kL 31 ?_ | refine AtT.zF (d:=31) rfl (fun hg31=>?_) (fun hg31=>?_) | refine AtT.zD (d:=31) rfl (fun hg31=>?_) (fun hg31=>?_))
   all_goals first|refine AtT.zi ?_|refine AtT.ze ?_|(first | refine AtT.zk zA ?_ | with_reducible refine AtT.zm zA ?_ | refine AtT.zo zA ?_)
   all_goals first|refine AtT.zi ?_|refine AtT.ze ?_|(first | refine AtT.zn tk2 ?_ | refine AtT.zq tk2 ?_)
   all_goals first|refine AtT.zi ?_|refine AtT.ze ?_|(refine AtT.qd ?_)
   all_goals (refine AtT.kR (d:=34) rfl (d2) ?_)
   all_goals (refine AtT.zH ?_)
   all_goals (refine AtT.zf ?_)
   all_goals (first | refine AtT.kL 36 ?_ | refine AtT.zF (d:=36) rfl (fun hg36=>?_) (fun hg36=>?_) | refine AtT.zD (d:=36) rfl (fun hg36=>?_) (fun hg36=>?_))
   all_goals first|refine AtT.zi ?_|refine AtT.ze ?_|(first | refine AtT.zk zA ?_ | with_reducible refine AtT.zm zA ?_ | refine AtT.zo zA ?_)
   all_goals first|refine AtT.zi ?_|refine AtT.ze ?_|(first | refine AtT.zn tk2 ?_ | refine AtT.zq tk2 ?_)
   all_goals first|refine AtT.zi ?_|refine AtT.ze ?_|(refine AtT.qA ?_)
   all_goals (refine AtT.zH ?_)
   all_goals (refine AtT.zf ?_)
   all_goals (first | refine AtT.kL 41 ?_ | refine AtT.zF (d:=41) rfl (fun hg41=>?_) (fun hg41=>?_) | refine AtT.zD (d:=41) rfl (fun hg41=>?_) (fun hg41=>?_))
   all_goals first|refine AtT.zi ?_|refine AtT.ze ?_|(first | refine AtT.zk zT ?_ | with_reducible refine AtT.zm zT ?_ | refine AtT.zo zT ?_)
   all_goals first|refine AtT.zi ?_|refine AtT.ze ?_|(first | refine AtT.zn tk3 ?_ | refine AtT.zq tk3 ?_)
   all_goals first|refine AtT.zi ?_|refine AtT.ze ?_|(refine AtT.qd ?_)
   all_goals (refine AtT.zH ?_)
   all_goals (refine AtT.zf ?_)
   all_goals (first | refine AtT.kL 46 ?_ | refine AtT.zF (d:=46) rfl (fun hg46=>?_) (fun hg46=>?_) | refine AtT.zD (d:=46) rfl (fun hg46=>?_) (fun hg46=>?_))
   all_goals first|refine AtT.zi ?_|refine AtT.ze ?_|(first | refine AtT.zk zT ?_ | with_reducible refine AtT.zm zT ?_ | refine AtT.zo zT ?_)
   all_goals first|refine AtT.zi ?_|refine AtT.ze ?_|(first | refine AtT.zn tk3 ?_ | refine AtT.zq tk3 ?_)
   all_goals first|refine AtT.zi ?_|refine AtT.ze ?_|(refine AtT.qA ?_)
   all_goals (refine AtT.zH ?_)
   all_goals refine AtT.done ?_
   all_goals (refine At.nrm ?_)
   refine At.jo rfl rfl ?_
   refine At.nrm ?_
   refine At.zh (.q 0 .done) ?_
   refine AtT.zg ?_
   refine AtT.done ?_
   refine At.nrm ?_
   exact At.qf rfl (.tmp rfl) ⟨3,rfl,⟨fun h=>(by cases h),fun h=>by have:=h.k x (List.mem_of_getElem? hx); omega⟩⟩
  by_cases d3:1000<x.p
  ·refine At.zh (.q 0 (.q 1 (.q 2 (.q 3 (.q 4 (.q 5 (.q 6 (.q 7 (.q 8 (.q 9 (.q 10 (.q 11 (.q 12 (.q 13 (.q 14 (.q 15 (.q 16 (.q 17 (.q 18 (.q 19 (.q 20 (.q 21 (.q 22 (.q 23 (.q 24 (.q 25 (.q 26 (.q 27 .done)))))))))))))))))))))))))))) ?_
   first | refine AtT.zk zQ ?_ | with_reducible refine AtT.zm zQ ?_ | refine AtT.zo zQ ?_
   first | refine AtT.zn tk3 ?_ | refine AtT.zq tk3 ?_
   refine AtT.qd ?_
   refine AtT.qx (d:=25) rfl (d0) ?_
   refine AtT.zf ?_
   all_goals (first | refine AtT.kL 26 ?_ | refine AtT.zF (d:=26) rfl (fun hg26=>?_) (fun hg26=>?_) | refine AtT.zD (d:=26) rfl (fun hg26=>?_) (fun hg26=>?_))
   all_goals first|refine AtT.zi ?_|refine AtT.ze ?_|(first | refine AtT.zk zQ ?_ | with_reducible refine AtT.zm zQ ?_ | refine AtT.zo zQ ?_)
   all_goals first|refine AtT.zi ?_|refine AtT.ze ?_|(first | refine AtT.zn tk3 ?_ | refine AtT.zq tk3 ?_)
   all_goals first|refine AtT.zi ?_|refine AtT.ze ?_|(refine AtT.qA ?_)
   all_goals (refine AtT.qx (d:=29) rfl (d1) ?_)
   all_goals (refine AtT.zH ?_)
   all_goals (refine AtT.zf ?_)
   all_goals (first | refine AtT.kL 31 ?_ | refine AtT.zF (d:=31) rfl (fun hg31=>?_) (fun hg31=>?_) | refine AtT.zD (d:=31) rfl (fun hg31=>?_) (fun hg31=>?_))
   all_goals first|refine AtT.zi ?_|refine AtT.ze ?_|(first | refine AtT.zk zA ?_ | with_reducible refine AtT.zm zA ?_ | refine AtT.zo zA ?_)
   all_goals first|refine AtT.zi ?_|refine AtT.ze ?_|(first | refine AtT.zn tk2 ?_ | refine AtT.zq tk2 ?_)
   all_goals first|refine AtT.zi ?_|refine AtT.ze ?_|(refine AtT.qd ?_)
   all_goals (refine AtT.qx (d:=34) rfl (d2) ?_)
   all_goals (refine AtT.zH ?_)
   all_goals (refine AtT.zf ?_)
   all_goals (first | refine AtT.kL 36 ?_ | refine AtT.zF (d:=36) rfl (fun hg36=>?_) (fun hg36=>?_) | refine AtT.zD (d:=36) rfl (fun hg36=>?_) (fun hg36=>?_))
   all_goals first|refine AtT.zi ?_|refine AtT.ze ?_|(first | refine AtT.zk zA ?_ | with_reducible refine AtT.zm zA ?_ | refine AtT.zo zA ?_)
   all_goals first|refine AtT.zi ?_|refine AtT.ze ?_|(first | refine AtT.zn tk2 ?_ | refine AtT.zq tk2 ?_)
   all_goals first|refine AtT.zi ?_|refine AtT.ze ?_|(refine AtT.qA ?_)
   all_goals (refine AtT.kR (d:=39) rfl (d3) ?_)
   all_goals (refine AtT.zH ?_)
   all_goals (refine AtT.zf ?_)
   all_goals (first | refine AtT.kL 41 ?_ | refine AtT.zF (d:=41) rfl (fun hg41=>?_) (fun hg41=>?_) | refine AtT.zD (d:=41) rfl (fun hg41=>?_) (fun hg41=>?_))
   all_goals first|refine AtT.zi ?_|refine AtT.ze ?_|(first | refine AtT.zk zT ?_ | with_reducible refine AtT.zm zT ?_ | refine AtT.zo zT ?_)
   all_goals first|refine AtT.zi ?_|refine AtT.ze ?_|(first | refine AtT.zn tk3 ?_ | refine AtT.zq tk3 ?_)
   all_goals first|refine AtT.zi ?_|refine AtT.ze ?_|(refine AtT.qd ?_)
   all_goals (refine AtT.zH ?_)
   all_goals (refine AtT.zf ?_)
   all_goals (first | refine AtT.kL 46 ?_ | refine AtT.zF (d:=46) rfl (fun hg46=>?_) (fun hg46=>?_) | refine AtT.zD (d:=46) rfl (fun hg46=>?_) (fun hg46=>?_))
   all_goals first|refine AtT.zi ?_|refine AtT.ze ?_|(first | refine AtT.zk zT ?_ | with_reducible refine AtT.zm zT ?_ | refine AtT.zo zT ?_)
   all_goals first|refine AtT.zi ?_|refine AtT.ze ?_|(first | refine AtT.zn tk3 ?_ | refine AtT.zq tk3 ?_)
   all_goals first|refine AtT.zi ?_|refine AtT.ze ?_|(refine AtT.qA ?_)
   all_goals (refine AtT.zH ?_)
   all_goals refine AtT.done ?_
   all_goals (refine At.nrm ?_)
   refine At.jo rfl rfl ?_
   refine At.nrm ?_
   refine At.zh (.q 0 .done) ?_
   refine AtT.zg ?_
   refine AtT.done ?_
   refine At.nrm ?_
   exact At.qf rfl (.tmp rfl) ⟨3,rfl,⟨fun h=>(by cases h),fun h=>by have:=h.k x (List.mem_of_getElem? hx); omega⟩⟩
  by_cases d4:x.m<0
  ·refine At.zh (.q 0 (.q 1 (.q 2 (.q 3 (.q 4 (.q 5 (.q 6 (.q 7 (.q 8 (.q 9 (.q 10 (.q 11 (.q 12 (.q 13 (.q 14 (.q 15 (.q 16 (.q 17 (.q 18 (.q 19 (.q 20 (.q 21 (.q 22 (.q 23 (.q 24 (.q 25 (.q 26 (.q 27 .done)))))))))))))))))))))))))))) ?_
   first | refine AtT.zk zQ ?_ | with_reducible refine AtT.zm zQ ?_ | refine AtT.zo zQ ?_
   first | refine AtT.zn tk3 ?_ | refine AtT.zq tk3 ?_
   refine AtT.qd ?_
   refine AtT.qx (d:=25) rfl (d0) ?_
   refine AtT.zf ?_
   all_goals (first | refine AtT.kL 26 ?_ | refine AtT.zF (d:=26) rfl (fun hg26=>?_) (fun hg26=>?_) | refine AtT.zD (d:=26) rfl (fun hg26=>?_) (fun hg26=>?_))
   all_goals first|refine AtT.zi ?_|refine AtT.ze ?_|(first | refine AtT.zk zQ ?_ | with_reducible refine AtT.zm zQ ?_ | refine AtT.zo zQ ?_)
   all_goals first|refine AtT.zi ?_|refine AtT.ze ?_|(first | refine AtT.zn tk3 ?_ | refine AtT.zq tk3 ?_)
   all_goals first|refine AtT.zi ?_|refine AtT.ze ?_|(refine AtT.qA ?_)
   all_goals (refine AtT.qx (d:=29) rfl (d1) ?_)
   all_goals (refine AtT.zH ?_)
   all_goals (refine AtT.zf ?_)
   all_goals (first | refine AtT.kL 31 ?_ | refine AtT.zF (d:=31) rfl (fun hg31=>?_) (fun hg31=>?_) | refine AtT.zD (d:=31) rfl (fun hg31=>?_) (fun hg31=>?_))
   all_goals first|refine AtT.zi ?_|refine AtT.ze ?_|(first | refine AtT.zk zA ?_ | with_reducible refine AtT.zm zA ?_ | refine AtT.zo zA ?_)
   all_goals first|refine AtT.zi ?_|refine AtT.ze ?_|(first | refine AtT.zn tk2 ?_ | refine AtT.zq tk2 ?_)
   all_goals first|refine AtT.zi ?_|refine AtT.ze ?_|(refine AtT.qd ?_)
   all_goals (refine AtT.qx (d:=34) rfl (d2) ?_)
   all_goals (refine AtT.zH ?_)
   all_goals (refine AtT.zf ?_)
   all_goals (first | refine AtT.kL 36 ?_ | refine AtT.zF (d:=36) rfl (fun hg36=>?_) (fun hg36=>?_) | refine AtT.zD (d:=36) rfl (fun hg36=>?_) (fun hg36=>?_))
   all_goals first|refine AtT.zi ?_|refine AtT.ze ?_|(first | refine AtT.zk zA ?_ | with_reducible refine AtT.zm zA ?_ | refine AtT.zo zA ?_)
   all_goals first|refine AtT.zi ?_|refine AtT.ze ?_|(first | refine AtT.zn tk2 ?_ | refine AtT.zq tk2 ?_)
   all_goals first|refine AtT.zi ?_|refine AtT.ze ?_|(refine AtT.qA ?_)
   all_goals (refine AtT.qx (d:=39) rfl (d3) ?_)
   all_goals (refine AtT.zH ?_)
   all_goals (refine AtT.zf ?_)
   all_goals (first | refine AtT.kL 41 ?_ | refine AtT.zF (d:=41) rfl (fun hg41=>?_) (fun hg41=>?_) | refine AtT.zD (d:=41) rfl (fun hg41=>?_) (fun hg41=>?_))
   all_goals first|refine AtT.zi ?_|refine AtT.ze ?_|(first | refine AtT.zk zT ?_ | with_reducible refine AtT.zm zT ?_ | refine AtT.zo zT ?_)
   all_goals first|refine AtT.zi ?_|refine AtT.ze ?_|(first | refine AtT.zn tk3 ?_ | refine AtT.zq tk3 ?_)
   all_goals first|refine AtT.zi ?_|refine AtT.ze ?_|(refine AtT.qd ?_)
   all_goals (refine AtT.kR (d:=44) rfl (d4) ?_)
   all_goals (refine AtT.zH ?_)
   all_goals (refine AtT.zf ?_)
   all_goals (first | refine AtT.kL 46 ?_ | refine AtT.zF (d:=46) rfl (fun hg46=>?_) (fun hg46=>?_) | refine AtT.zD (d:=46) rfl (fun hg46=>?_) (fun hg46=>?_))
   all_goals first|refine AtT.zi ?_|refine AtT.ze ?_|(first | refine AtT.zk zT ?_ | with_reducible refine AtT.zm zT ?_ | refine AtT.zo zT ?_)
   all_goals first|refine AtT.zi ?_|refine AtT.ze ?_|(first | refine AtT.zn tk3 ?_ | refine AtT.zq tk3 ?_)
   all_goals first|refine AtT.zi ?_|refine AtT.ze ?_|(refine AtT.qA ?_)
   all_goals (refine AtT.zH ?_)
   all_goals refine AtT.done ?_
   all_goals (refine At.nrm ?_)
   refine At.jo rfl rfl ?_
   refine At.nrm ?_
   refine At.zh (.q 0 .done) ?_
   refine AtT.zg ?_
   refine AtT.done ?_
   refine At.nrm ?_
   exact At.qf rfl (.tmp rfl) ⟨3,rfl,⟨fun h=>(by cases h),fun h=>by have:=h.k x (List.mem_of_getElem? hx); omega⟩⟩
  by_cases d5:24<x.m
  ·refine At.zh (.q 0 (.q 1 (.q 2 (.q 3 (.q 4 (.q 5 (.q 6 (.q 7 (.q 8 (.q 9 (.q 10 (.q 11 (.q 12 (.q 13 (.q 14 (.q 15 (.q 16 (.q 17 (.q 18 (.q 19 (.q 20 (.q 21 (.q 22 (.q 23 (.q 24 (.q 25 (.q 26 (.q 27 .done)))))))))))))))))))))))))))) ?_
   first | refine AtT.zk zQ ?_ | with_reducible refine AtT.zm zQ ?_ | refine AtT.zo zQ ?_
   first | refine AtT.zn tk3 ?_ | refine AtT.zq tk3 ?_
   refine AtT.qd ?_
   refine AtT.qx (d:=25) rfl (d0) ?_
   refine AtT.zf ?_
   all_goals (first | refine AtT.kL 26 ?_ | refine AtT.zF (d:=26) rfl (fun hg26=>?_) (fun hg26=>?_) | refine AtT.zD (d:=26) rfl (fun hg26=>?_) (fun hg26=>?_))
   all_goals first|refine AtT.zi ?_|refine AtT.ze ?_|(first | refine AtT.zk zQ ?_ | with_reducible refine AtT.zm zQ ?_ | refine AtT.zo zQ ?_)
   all_goals first|refine AtT.zi ?_|refine AtT.ze ?_|(first | refine AtT.zn tk3 ?_ | refine AtT.zq tk3 ?_)
   all_goals first|refine AtT.zi ?_|refine AtT.ze ?_|(refine AtT.qA ?_)
   all_goals (refine AtT.qx (d:=29) rfl (d1) ?_)
   all_goals (refine AtT.zH ?_)
   all_goals (refine AtT.zf ?_)
   all_goals (first | refine AtT.kL 31 ?_ | refine AtT.zF (d:=31) rfl (fun hg31=>?_) (fun hg31=>?_) | refine AtT.zD (d:=31) rfl (fun hg31=>?_) (fun hg31=>?_))
   all_goals first|refine AtT.zi ?_|refine AtT.ze ?_|(first | refine AtT.zk zA ?_ | with_reducible refine AtT.zm zA ?_ | refine AtT.zo zA ?_)
   all_goals first|refine AtT.zi ?_|refine AtT.ze ?_|(first | refine AtT.zn tk2 ?_ | refine AtT.zq tk2 ?_)
   all_goals first|refine AtT.zi ?_|refine AtT.ze ?_|(refine AtT.qd ?_)
   all_goals (refine AtT.qx (d:=34) rfl (d2) ?_)
   all_goals (refine AtT.zH ?_)
   all_goals (refine AtT.zf ?_)
   all_goals (first | refine AtT.kL 36 ?_ | refine AtT.zF (d:=36) rfl (fun hg36=>?_) (fun hg36=>?_) | refine AtT.zD (d:=36) rfl (fun hg36=>?_) (fun hg36=>?_))
   all_goals first|refine AtT.zi ?_|refine AtT.ze ?_|(first | refine AtT.zk zA ?_ | with_reducible refine AtT.zm zA ?_ | refine AtT.zo zA ?_)
   all_goals first|refine AtT.zi ?_|refine AtT.ze ?_|(first | refine AtT.zn tk2 ?_ | refine AtT.zq tk2 ?_)
   all_goals first|refine AtT.zi ?_|refine AtT.ze ?_|(refine AtT.qA ?_)
   all_goals (refine AtT.qx (d:=39) rfl (d3) ?_)
   all_goals (refine AtT.zH ?_)
   all_goals (refine AtT.zf ?_)
   all_goals (first | refine AtT.kL 41 ?_ | refine AtT.zF (d:=41) rfl (fun hg41=>?_) (fun hg41=>?_) | refine AtT.zD (d:=41) rfl (fun hg41=>?_) (fun hg41=>?_))
   all_goals first|refine AtT.zi ?_|refine AtT.ze ?_|(first | refine AtT.zk zT ?_ | with_reducible refine AtT.zm zT ?_ | refine AtT.zo zT ?_)
   all_goals first|refine AtT.zi ?_|refine AtT.ze ?_|(first | refine AtT.zn tk3 ?_ | refine AtT.zq tk3 ?_)
   all_goals first|refine AtT.zi ?_|refine AtT.ze ?_|(refine AtT.qd ?_)
   all_goals (refine AtT.qx (d:=44) rfl (d4) ?_)
   all_goals (refine AtT.zH ?_)
   all_goals (refine AtT.zf ?_)
   all_goals (first | refine AtT.kL 46 ?_ | refine AtT.zF (d:=46) rfl (fun hg46=>?_) (fun hg46=>?_) | refine AtT.zD (d:=46) rfl (fun hg46=>?_) (fun hg46=>?_))
   all_goals first|refine AtT.zi ?_|refine AtT.ze ?_|(first | refine AtT.zk zT ?_ | with_reducible refine AtT.zm zT ?_ | refine AtT.zo zT ?_)
   all_goals first|refine AtT.zi ?_|refine AtT.ze ?_|(first | refine AtT.zn tk3 ?_ | refine AtT.zq tk3 ?_)
   all_goals first|refine AtT.zi ?_|refine AtT.ze ?_|(refine AtT.qA ?_)
   all_goals (refine AtT.kR (d:=49) rfl (d5) ?_)
   all_goals (refine AtT.zH ?_)
   all_goals refine AtT.done ?_
   all_goals (refine At.nrm ?_)
   refine At.jo rfl rfl ?_
   refine At.nrm ?_
   refine At.zh (.q 0 .done) ?_
   refine AtT.zg ?_
   refine AtT.done ?_
   refine At.nrm ?_
   exact At.qf rfl (.tmp rfl) ⟨3,rfl,⟨fun h=>(by cases h),fun h=>by have:=h.k x (List.mem_of_getElem? hx); omega⟩⟩
  refine At.zh (.q 0 (.q 1 (.q 2 (.q 3 (.q 4 (.q 5 (.q 6 (.q 7 (.q 8 (.q 9 (.q 10 (.q 11 (.q 12 (.q 13 (.q 14 (.q 15 (.q 16 (.q 17 (.q 18 (.q 19 (.q 20 (.q 21 (.q 22 (.q 23 (.q 24 (.q 25 (.q 26 (.q 27 .done)))))))))))))))))))))))))))) ?_
  first | refine AtT.zk zQ ?_ | with_reducible refine AtT.zm zQ ?_ | refine AtT.zo zQ ?_
  first | refine AtT.zn tk3 ?_ | refine AtT.zq tk3 ?_
  refine AtT.qd ?_
  refine AtT.qx (d:=25) rfl (d0) ?_
  refine AtT.zf ?_
  all_goals (first | refine AtT.kL 26 ?_ | refine AtT.zF (d:=26) rfl (fun hg26=>?_) (fun hg26=>?_) | refine AtT.zD (d:=26) rfl (fun hg26=>?_) (fun hg26=>?_))
  all_goals first|refine AtT.zi ?_|refine AtT.ze ?_|(first | refine AtT.zk zQ ?_ | with_reducible refine AtT.zm zQ ?_ | refine AtT.zo zQ ?_)
  all_goals first|refine AtT.zi ?_|refine AtT.ze ?_|(first | refine AtT.zn tk3 ?_ | refine AtT.zq tk3 ?_)
  all_goals first|refine AtT.zi ?_|refine AtT.ze ?_|(refine AtT.qA ?_)
  all_goals (refine AtT.qx (d:=29) rfl (d1) ?_)
  all_goals (refine AtT.zH ?_)
  all_goals (refine AtT.zf ?_)
  all_goals (first | refine AtT.kL 31 ?_ | refine AtT.zF (d:=31) rfl (fun hg31=>?_) (fun hg31=>?_) | refine AtT.zD (d:=31) rfl (fun hg31=>?_) (fun hg31=>?_))
  all_goals first|refine AtT.zi ?_|refine AtT.ze ?_|(first | refine AtT.zk zA ?_ | with_reducible refine AtT.zm zA ?_ | refine AtT.zo zA ?_)
  all_goals first|refine AtT.zi ?_|refine AtT.ze ?_|(first | refine AtT.zn tk2 ?_ | refine AtT.zq tk2 ?_)
  all_goals first|refine AtT.zi ?_|refine AtT.ze ?_|(refine AtT.qd ?_)
  all_goals (refine AtT.qx (d:=34) rfl (d2) ?_)
  all_goals (refine AtT.zH ?_)
  all_goals (refine AtT.zf ?_)
  all_goals (first | refine AtT.kL 36 ?_ | refine AtT.zF (d:=36) rfl (fun hg36=>?_) (fun hg36=>?_) | refine AtT.zD (d:=36) rfl (fun hg36=>?_) (fun hg36=>?_))
  all_goals first|refine AtT.zi ?_|refine AtT.ze ?_|(first | refine AtT.zk zA ?_ | with_reducible refine AtT.zm zA ?_ | refine AtT.zo zA ?_)
  all_goals first|refine AtT.zi ?_|refine AtT.ze ?_|(first | refine AtT.zn tk2 ?_ | refine AtT.zq tk2 ?_)
  all_goals first|refine AtT.zi ?_|refine AtT.ze ?_|(refine AtT.qA ?_)
  all_goals (refine AtT.qx (d:=39) rfl (d3) ?_)
  all_goals (refine AtT.zH ?_)
  all_goals (refine AtT.zf ?_)
  all_goals (first | refine AtT.kL 41 ?_ | refine AtT.zF (d:=41) rfl (fun hg41=>?_) (fun hg41=>?_) | refine AtT.zD (d:=41) rfl (fun hg41=>?_) (fun hg41=>?_))
  all_goals first|refine AtT.zi ?_|refine AtT.ze ?_|(first | refine AtT.zk zT ?_ | with_reducible refine AtT.zm zT ?_ | refine AtT.zo zT ?_)
  all_goals first|refine AtT.zi ?_|refine AtT.ze ?_|(first | refine AtT.zn tk3 ?_ | refine AtT.zq tk3 ?_)
  all_goals first|refine AtT.zi ?_|refine AtT.ze ?_|(refine AtT.qd ?_)
  all_goals (refine AtT.qx (d:=44) rfl (d4) ?_)
  all_goals (refine AtT.zH ?_)
  all_goals (refine AtT.zf ?_)
  all_goals (first | refine AtT.kL 46 ?_ | refine AtT.zF (d:=46) rfl (fun hg46=>?_) (fun hg46=>?_) | refine AtT.zD (d:=46) rfl (fun hg46=>?_) (fun hg46=>?_))
  all_goals first|refine AtT.zi ?_|refine AtT.ze ?_|(first | refine AtT.zk zT ?_ | with_reducible refine AtT.zm zT ?_ | refine AtT.zo zT ?_)
  all_goals first|refine AtT.zi ?_|refine AtT.ze ?_|(first | refine AtT.zn tk3 ?_ | refine AtT.zq tk3 ?_)
  all_goals first|refine AtT.zi ?_|refine AtT.ze ?_|(refine AtT.qA ?_)
  all_goals (refine AtT.qx (d:=49) rfl (d5) ?_)
  all_goals (refine AtT.zH ?_)
  all_goals refine AtT.done ?_
  all_goals (refine At.nrm ?_)
  refine At.qh rfl rfl ?_
  refine At.nrm ?_
  refine At.zh (.q 0 (.q 1 (.q 2 .done))) ?_
  refine AtT.zf ?_
  first | refine AtT.ql ?_ | refine AtT.zP ?_
  refine AtT.zg ?_
  refine AtT.done ?_
  refine At.nrm ?_
  refine At.round (k+1) ?_ ?_ ?_ ?_
  ·show ks.length-(k+1)<ks.length-k; omega
  ·refine⟨rfl,by omega,fun j p hj hjp=>?_⟩
   rcases Nat.lt_or_ge j k with c | c
   ·exact hup j p c hjp
   ·obtain rfl:j=k:=by omega
    rw[hx]at hjp
    obtain rfl:x=p:=by simpa using hjp
    omega
  ·exact⟨rfl,rfl,trivial⟩
  ·exact Pt.zC
 ·obtain rfl:k=ks.length:=by omega
  refine At.nrm ?_
  refine At.zh (.q 0 .done) ?_
  refine AtT.zg ?_
  refine AtT.done ?_
  refine At.nrm ?_
  refine At.qf rfl (.tmp rfl) ⟨0,rfl,⟨fun _=>⟨by omega,fun p hp=>?_⟩,fun _=>rfl⟩⟩
  obtain⟨j,hj,rfl⟩:=List.getElem_of_mem hp
  exact hup j _ hj (List.getElem?_eq_getElem hj)
theorem isFault_f (n:Int) (a:Option Addr) (f:List Int) (c:Nat) (x:Int) (V:View) (hs:SlI V (.slice a f.length c) f):Fnc Tryz.prog 48 [rbv n a f c,iv x] V fun r _=>r=.bool (decide (x∈f)):=by
 have hlen:=hs.qV
 refine qa Tryz.func48 rfl Tryz.ntmps48 (Nat.le_of_ble_eq_true rfl) ?_
 intro w0 hw0
 refine At.nrm ?_
 refine At.zh (.n false 0 (.q 1 .done)) ?_
 refine AtT.jA ?_
 intro b2
 refine AtT.zg ?_
 refine AtT.done ?_
 refine At.nrm ?_
 refine At.zh (.q 0 .done) ?_
 refine AtT.zg ?_
 refine AtT.done ?_
 refine At.nrm ?_
 refine At.lp (ι:=Nat) (KS:=fun k=>[(1,iv x),(2,.pointer (some ⟨b2,0,none⟩)),(5,iv k)]) (OS:=fun _=>[.blk b2 (LC [iv n,.slice a f.length c] 24)])
  (VS:=fun k V'=>V'=V∧k≤f.length∧x∉f.take k) (μ:=fun k=>f.length-k) 0 ?_ ?_ ?_ ?_
 ·exact⟨rfl,rfl,rfl,trivial⟩
 ·exact Pt.zC
 ·exact⟨rfl,Nat.zero_le _,by simp⟩
 rintro k V' ks' O' ⟨rfl,hkl,hup⟩ hk hO hl
 subst hk hO
 refine At.nrm ?_
 refine At.zh (.q 0 (.q 1 (.q 2 (.q 3 (.q 4 .done))))) ?_
 refine AtT.zf ?_
 first | refine AtT.zk zB ?_ | with_reducible refine AtT.zm zB ?_ | refine AtT.zo zB ?_
 first | refine AtT.zn qH ?_ | refine AtT.zq qH ?_
 first | refine AtT.zW Tryz.underlying22 ?_ | refine AtT.zX Tryz.underlying22 ?_
 refine AtT.qd ?_
 refine AtT.done ?_
 refine At.nrm ?_
 refine At.qb rfl (fun hp=>?_) (fun hp=>?_)
 ·have hkl1:k<f.length:=by omega
  refine At.nrm ?_
  refine At.zh (.q 0 (.q 1 (.q 2 (.q 3 (.q 4 (.q 5 (.q 6 .done))))))) ?_
  first | refine AtT.zk zB ?_ | with_reducible refine AtT.zm zB ?_ | refine AtT.zo zB ?_
  first | refine AtT.zn qH ?_ | refine AtT.zq qH ?_
  refine AtT.zf ?_
  refine AtT.qj Tryz.underlying22 tk3 ?_
  intro p16 e16 he16 hc16
  obtain rfl:f[k]=e16:=by have:f[k]? = some e16:=(by simpa using he16); rw[List.getElem?_eq_getElem hkl1]at this; simpa using this
  first | refine AtT.zn tk3 ?_ | refine AtT.zq tk3 ?_
  refine AtT.zf ?_
  refine AtT.keqI ?_
  refine AtT.done ?_
  refine At.nrm ?_
  refine At.qb rfl (fun hq=>?_) (fun hq=>?_)
  ·refine At.nrm ?_
   refine At.zh (.q 0 .done) ?_
   refine AtT.zg ?_
   refine AtT.done ?_
   refine At.nrm ?_
   refine At.qf rfl (.tmp rfl) ?_
   rw[decide_eq_true (by rw[←hq]; exact List.getElem_mem hkl1)]
  ·refine At.nrm ?_
   refine At.zh (.q 0 (.q 1 (.q 2 .done))) ?_
   refine AtT.zf ?_
   first | refine AtT.ql ?_ | refine AtT.zP ?_
   refine AtT.zg ?_
   refine AtT.done ?_
   refine At.nrm ?_
   refine At.round (k+1) ?_ ?_ ?_ ?_
   ·show f.length-(k+1)<f.length-k; omega
   ·refine⟨rfl,hkl1,fun h=>?_⟩
    rw[List.take_succ_eq_append_getElem hkl1]at h
    rcases List.mem_append.1 h with h | h
    ·exact hup h
    ·exact hq (by simpa using h:x=f[k]).symm
   ·exact⟨rfl,rfl,rfl,trivial⟩
   ·exact Pt.zC
 ·obtain rfl:k=f.length:=by omega
  rw[List.take_length]at hup
  refine At.nrm ?_
  refine At.zh (.q 0 .done) ?_
  refine AtT.zg ?_
  refine AtT.done ?_
  refine At.nrm ?_
  refine At.qf rfl (.tmp rfl) ?_
  rw[decide_eq_false hup]
theorem rCan_f (n:Nat) (a:Option Addr) (f:List Int) (c:Nat) (hf:RbOk n f) (k:Kd) (hk:1≤k.w∧k.w≤24) (i:Nat) (hi:i≤n) (V:View) (hs:SlI V (.slice a f.length c) f):Fnc Tryz.prog 19 [rbv n a f c,.agg #[iv k.w,iv k.p,iv k.m],iv i] V fun r _=>r=.bool (canB n f i k):=by
 have hn:=hf.nb
 obtain⟨w,hw⟩:∃ w:Nat,k.w=w:=⟨k.w.toNat,by omega⟩
 have hb:canB n f i k=decide ((i:Int)+k.w≤n∧(ftN f (i+k.w.toNat):Int)-ftN f i≤k.m):=rfl
 refine qa Tryz.func19 rfl Tryz.ntmps19 (Nat.le_of_ble_eq_true rfl) ?_
 intro w0 hw0
 refine At.nrm ?_
 refine At.zh (.n false 0 (.n false 1 (.q 2 .done))) ?_
 refine AtT.jA ?_
 intro b3
 refine AtT.jA ?_
 intro b4
 refine AtT.zg ?_
 refine AtT.done ?_
 refine At.nrm ?_
 refine At.zh (.q 0 (.q 1 (.q 2 (.q 3 (.q 4 (.q 5 (.q 6 .done))))))) ?_
 refine AtT.zf ?_
 first | refine AtT.zk zQ ?_ | with_reducible refine AtT.zm zQ ?_ | refine AtT.zo zQ ?_
 first | refine AtT.zn tk3 ?_ | refine AtT.zq tk3 ?_
 first | refine AtT.ql ?_ | refine AtT.zP ?_
 first | refine AtT.zk zI ?_ | with_reducible refine AtT.zm zI ?_ | refine AtT.zo zI ?_
 first | refine AtT.zn tk3 ?_ | refine AtT.zq tk3 ?_
 refine AtT.qA ?_
 refine AtT.done ?_
 refine At.nrm ?_
 refine At.qb rfl (fun h1=>?_) (fun h1=>?_)
 ·refine At.nrm ?_
  refine At.zh (.q 0 .done) ?_
  refine AtT.zg ?_
  refine AtT.done ?_
  refine At.nrm ?_
  refine At.qf rfl (.tmp rfl) ?_
  rw[hb,decide_eq_false (by omega)]
 refine At.nrm ?_
 refine At.zh (.q 0 .done) ?_
 refine AtT.zg ?_
 refine AtT.done ?_
 refine At.nrm ?_
 refine At.zh (.q 0 (.q 1 .done)) ?_
 refine AtT.zf ?_
 refine AtT.zg ?_
 refine AtT.done ?_
 refine At.nrm ?_
 refine At.lp (ι:=Nat) (KS:=fun j=>[(2,iv i),(3,.pointer (some ⟨b3,0,none⟩)),(4,.pointer (some ⟨b4,0,none⟩)),(7,iv ((ftN f (i+j):Int)-ftN f i)),(8,iv ((i+j:Nat):Int))]) (OS:=fun _=>[.blk b4 (LC [iv k.w,iv k.p,iv k.m] 41),.blk b3 (LC [iv n,.slice a f.length c] 24)])
  (VS:=fun j V'=>V'=V∧j≤w) (μ:=fun j=>w-j) 0 ?_ ?_ ?_ ?_
 ·exact⟨rfl,rfl,rfl,ivs (by rw[Nat.add_zero]; omega),rfl,trivial⟩
 ·exact Pt.zC
 ·exact⟨rfl,Nat.zero_le _⟩
 rintro j V' ks' O' ⟨rfl,hj⟩ hk2 hO hl
 subst hk2 hO
 have hft:=ftN_succ f (i+j)
 have hfl:=ftN_le f (i+j)
 have hfm:=ftN_mono f (i:=i) (j:=i+j) (by omega)
 refine At.nrm ?_
 refine At.zh (.q 0 (.q 1 (.q 2 (.q 3 (.q 4 (.q 5 .done)))))) ?_
 refine AtT.zf ?_
 refine AtT.zf ?_
 first | refine AtT.zk zQ ?_ | with_reducible refine AtT.zm zQ ?_ | refine AtT.zo zQ ?_
 first | refine AtT.zn tk3 ?_ | refine AtT.zq tk3 ?_
 first | refine AtT.ql ?_ | refine AtT.zP ?_
 refine AtT.qd ?_
 refine AtT.done ?_
 refine At.nrm ?_
 refine At.qb rfl (fun hp=>?_) (fun hp=>?_)
 ·refine At.nrm ?_
  refine At.zh (.q 0 (.q 1 (.n false 2 .done))) ?_
  first | refine AtT.zL qR ?_ | refine AtT.zS qR ?_ | refine AtT.zK qR ?_
  refine AtT.zf ?_
  refine AtT.zR rfl rfl ok48 (isFault_f n a f c _ _ hs) ?_
  rintro _ rfl
  refine AtT.done ?_
  refine At.nrm ?_
  refine At.qb rfl (fun hq=>?_) (fun hq=>?_)
  ·rw[if_pos hq]at hft
   refine At.nrm ?_
   refine At.zh (.q 0 (.q 1 (.q 2 .done))) ?_
   refine AtT.zf ?_
   first | refine AtT.ql ?_ | refine AtT.zP ?_
   refine AtT.zg ?_
   refine AtT.done ?_
   refine At.nrm ?_
   refine At.nrm ?_
   refine At.zh (.q 0 (.q 1 (.q 2 .done))) ?_
   refine AtT.zf ?_
   first | refine AtT.ql ?_ | refine AtT.zP ?_
   refine AtT.zg ?_
   refine AtT.done ?_
   refine At.nrm ?_
   refine At.round (j+1) ?_ ?_ ?_ ?_
   ·show w-(j+1)<w-j; omega
   ·exact⟨rfl,by omega⟩
   ·exact⟨rfl,rfl,rfl,ivs (by rw[←Nat.add_assoc,hft]; push_cast; omega),ivs (by push_cast; omega),trivial⟩
   ·exact Pt.zC
  ·rw[if_neg hq]at hft
   refine At.nrm ?_
   refine At.zh (.q 0 (.q 1 (.q 2 .done))) ?_
   refine AtT.zf ?_
   first | refine AtT.ql ?_ | refine AtT.zP ?_
   refine AtT.zg ?_
   refine AtT.done ?_
   refine At.nrm ?_
   refine At.round (j+1) ?_ ?_ ?_ ?_
   ·show w-(j+1)<w-j; omega
   ·exact⟨rfl,by omega⟩
   ·exact⟨rfl,rfl,rfl,ivs (by rw[←Nat.add_assoc,hft]; push_cast; omega),ivs (by push_cast; omega),trivial⟩
   ·exact Pt.zC
 ·obtain rfl:j=w:=by omega
  refine At.nrm ?_
  refine At.zh (.q 0 (.q 1 (.q 2 (.q 3 (.q 4 .done))))) ?_
  refine AtT.zf ?_
  first | refine AtT.zk zT ?_ | with_reducible refine AtT.zm zT ?_ | refine AtT.zo zT ?_
  first | refine AtT.zn tk3 ?_ | refine AtT.zq tk3 ?_
  refine AtT.kleq ?_
  refine AtT.zg ?_
  refine AtT.done ?_
  refine At.nrm ?_
  refine At.qf rfl (.tmp rfl) ?_
  rw[hb,show k.w.toNat=j by omega]
  exact congrArg Value.bool (decide_eq_decide.2 ⟨fun h=>⟨by omega,h⟩,fun h=>h.2⟩)
end Go.Proofs.YtmdcedioddchfaaGreatDoor.C
end
section
set_option linter.unusedVariables false
set_option linter.unusedSimpArgs false
namespace Go.Lw
open Go.RowKit
section
variable {cx:Cx} {n:Nat} {ks:List (Nat×Value)} {O O' R:List Own} {V V0:View} {P:Program} {ops:Array Oper} {Qn:Act→World→Prop} {t:Tr} {i d:Nat} {T:TypeId} {pos:String} {after:Array Edge} {gd:Option (Nat×Bool)} {x y:Operand} {u v:Value} {wr:Bool} {ro:Option Nat} {Q:Exit→Act→World→Prop} {K:Act→World→Prop}
 {l j:Nat} {J:Nat→World→Prop} {E:World→Prop} {ys:List (List Value)}
theorem At.rangeFuncD {g:Operand} {ps:Array Tmp} {assign body:Code} {f:FuncId} {caps:List Value} {Vi:View} {ι:Type} (idx:ι→Nat) (OS:ι→List Own) (VS:ι→View→Prop) (XS:Code→List Own→View→Prop)
  (hg:ev ks g=some (.func (.func f) #[] caps.toArray)) (hok:zy P f) (g0:ι) (hg0:idx g0=0) (hp:Pt (OS g0) O) (hv:VS g0 V) (hit:It P f caps Vi ys) (hVi:∀ g V',VS g V'→Le Vi V')
  (hps:∀ p∈ps.toList,p<n) (hlen:∀ y∈ys,y.length=ps.size)
  (hround:∀ i y l D r V' ks' O',ys[idx i]? = some y→VS i V'→Le cx.V0 V'→ks'=bindK ps.toList y ks→O'=OS i→At { cx with ds:=[] } n ks' (.blk l (.loop { r with state:=.ready,pending:=none })::.blk D (.deferred (some []))::O') V'
   (assign.wpIn (FW (some l)) 0 P (Exit.then (fun a₁ w₁=>∃ w₂,(Instr.beginRound l).run P w₁=.ok () w₂∧body.wpIn (FW (some l)) 0 P (roundPost P l (RR { cx with ds:=[] } l D r idx OS VS XS (idx i))) a₁ w₂) (fun _ _ _=>False))))
  (hend:∀ i D V' O',idx i=ys.length→VS i V'→Le cx.V0 V'→O'=OS i→At { cx with ds:=mkD D::cx.ds } n ks (.blk D (.deferred (some []))::O') V' (Q .normal))
  (hexit:∀ D c O' V',XS c O' V'→Le cx.V0 V'→At { cx with ds:=mkD D::cx.ds } n ks (.blk D (.deferred (some []))::O') V' (c.wpIn (FW none) 0 P Q)) :
  At cx n ks O V ((Code.rangeFunc g ps assign body).wpIn (FW none) 0 P Q):=fun a w hk hm=>by
 refine wpIn_rangeFunc fun fn _=>?_
 let D:=w.heap.size
 let r:Loop:={ state:=.ready,pending:=none,fn:=fn,tmps:=a.tmps,params:=ps,assign:=assign,body:=body,defers:=D }
 let w1:=(w.alloc (.deferred (some []))).alloc (.loop r)
 have hm1:Mem { cx with ds:=[] } (.blk (D+1) (.loop r)::.blk D (.deferred (some []))::OS g0) V w1:=by
  have h1:=((hm.part hp.part).ds []).alloc (.deferred (some []))
  have h2:=h1.alloc (.loop r)
  rwa[World.size_alloc]at h2
 have H:Yd P (D+1) (RJ { cx with ds:=[] } (D+1) D r idx OS VS) (RE { cx with ds:=[] } (D+1) D r XS) Vi ys:=by
  refine⟨fun j w w' h hb=>h.ext hb,fun w w' h hb=>h.ext hb,fun j w h=>?_,fun j y w hy h=>?_⟩
  ·obtain⟨g',V',h0,h1,h2⟩:=h
   exact(hVi _ _ h1).trans h2.view
  ·obtain⟨g',V',rfl,h1,h2⟩:=h
   have hl:=hlen y (List.mem_of_getElem? hy)
   refine⟨_,_,_,_,run_yield h2.blk (by simpa using hl),?_⟩
   rw[foldl_zip]
   refine roundIn_of_wpIn trivial ?_
   refine hround g' y (D+1) D r V' _ _ hy h1 h2.le0 rfl rfl _ w ?_ h2
   have:Kn { cx with ds:=[] } n ks { tmps:=a.tmps,defers:=[] }:=⟨rfl,hk.size,hk.known⟩
   have:=Kn.bind ps.toList y ks a.tmps (by simpa using hl.symm) hps this
   exact⟨this.defers,this.size,this.known⟩
 refine⟨D+1,[mkD D],w1,{ target:=.fn (.func f) caps.toArray,args:=#[.func (.yield (D+1)) #[] #[]] },w1,f,(Value.func (.yield (D+1)) #[] #[]::caps).toArray,w1,run_enterLoop_outer _ _ _ _ _,?_,fun _ _=>trivial,?_,FW_dep none,?_⟩
 ·have e1:a.eval (.const (.func (.yield (D+1)) #[] #[]))=.func (.yield (D+1)) #[] #[]:=rfl
  simp[resolve,hk.ev hg,Deferred.ofValue,e1]
 ·have e:(#[Value.func (.yield (D+1)) #[] #[]]++caps.toArray)=(Value.func (.yield (D+1)) #[] #[]::caps).toArray:=by simp
  simp only[invoke,e]
  exact hok _ _
 ·refine jB.2 ((hit (D+1) _ _ w1 H ⟨g0,V,hg0,hv,hm1⟩).mono fun e w' ⟨v,he,hh⟩=>?_)
  subst he
  have hk':Kn { cx with ds:=mkD D::cx.ds } n ks { a with defers:=[mkD D]++a.defers }:=⟨by show [mkD D]++a.defers=mkD D::cx.ds; rw[hk.defers]; rfl,hk.size,hk.known⟩
  rcases hh with ⟨g',V',h0,h1,h2⟩ | ⟨c,O',V',h1,h2⟩
  ·exact⟨none,_,run_endLoop h2.blk (by simp),hend g' D V' _ h0 h1 h2.le0 rfl _ _ hk' (h2.put.drop.kT rfl rfl)⟩
  ·exact⟨some c,_,run_endLoop h2.blk (by simp),hexit D c O' V' h1 h2.le0 _ _ hk' (h2.put.drop.kT rfl rfl)⟩
theorem At.lpD {ι:Type} {c:Code} (DS:ι→List Deferred) (KS:ι→List (Nat×Value)) (OS:ι→List Own) (VS:ι→View→Prop) (μ:ι→Nat) (i0:ι)
  (hd:cx.ds=DS i0) (hs:Sub (KS i0) ks) (hp:Pt (OS i0) O) (hv:VS i0 V)
  (hbody:∀ i V' ks' O',VS i V'→ks'=KS i→O'=OS i→Le cx.V0 V'→At { cx with ds:=DS i } n ks' O' V' (c.wpIn (FW ro) 0 P (Exit.then (fun a w=>∃ i' V'',μ i'<μ i∧VS i' V''∧Kn { cx with ds:=DS i' } n (KS i') a∧Mem cx (OS i') V'' w) Q))) :
  At cx n ks O V ((Code.loop c).wpIn (FW ro) 0 P Q):=fun a w hk hm=>
 wpIn_loop_ghost (fun(i:ι) a w=>∃ V',VS i V'∧Kn { cx with ds:=DS i } n (KS i) a∧Mem cx (OS i) V' w) μ
  (fun i a w ⟨V',hV,hk,hm⟩=>wpIn_mono (hbody i V' _ _ hV rfl rfl hm.le0 a w hk (hm.ds _)) (fun e a' w' hq=>by
   cases e with
   | normal=>
    obtain⟨i',V'',hlt,hV',hk',hm'⟩:=hq
    exact⟨i',⟨V'',hV',hk',hm'⟩,hlt⟩
   | exit id=>exact hq
   | goto l=>exact hq
   | ret=>exact hq
   | panic ch=>exact hq
   | outgrown=>exact hq)) i0 a w ⟨V,hv,⟨hk.defers.trans hd,hk.size,(hk.sub hs).known⟩,hm.part hp.part⟩
theorem At.roundD {ι:Type} {DS:ι→List Deferred} {KS:ι→List (Nat×Value)} {OS:ι→List Own} {VS:ι→View→Prop} {μ:ι→Nat} {i:ι} {ds:List Deferred} (i':ι) (hμ:μ i'<μ i) (hv:VS i' V) (hd:ds=DS i') (hs:Sub (KS i') ks) (hp:Pt (OS i') O) :
  At { cx with ds:=ds } n ks O V (fun a w=>∃ i' V'',μ i'<μ i∧VS i' V''∧Kn { cx with ds:=DS i' } n (KS i') a∧Mem cx (OS i') V'' w):=fun a w hk hm=>⟨i',V,hμ,hv,⟨hk.defers.trans hd,hk.size,(hk.sub hs).known⟩,(hm.part hp.part).ds'⟩
abbrev dfB (D:Nat):Own:=.blk D (.deferred (some []))
theorem leaves_marks {fn:Func} {R':Ending→World→Prop} {tmps:Array Value} {u:FrameMode} (hu:u≠.run):∀ (Ds:List Nat) (w:World),Mem cx (Ds.map dfB++R) V w→(∀ w',Mem cx R V w'→LeavesInM (FW none) 0 P fn tmps R' [] u w')→LeavesInM (FW none) 0 P fn tmps R' (Ds.map mkD) u w
 | [],w,hm,h=>h w hm
 | D::Ds,w,hm,h=>by
  refine⟨hu,.inl ⟨D,_,rfl,run_takeDeferred (Mem.blk hm),?_⟩⟩
  exact leaves_marks hu Ds _ (Mem.put (o':=.deferred none) hm).drop h
theorem At.unmarks {fn:Func} {R':Ending→World→Prop} {e:Exit} (Ds:List Nat) (he:e=.ret∨e=.normal) (hd:cx.ds=Ds.map mkD) (hp:O.Perm (Ds.map dfB++R)) (h:At { cx with ds:=[] } n ks R V (bodyPost P fn R' e)) :
  At cx n ks O V (bodyPostM (FW none) 0 P fn R' e):=fun a w hk hm=>by
 have key:∀ w',Mem cx R V w'→LeavesInM (FW none) 0 P fn a.tmps R' [] .returning w':=fun w' hm'=>by
  have:=h { a with defers:=[] } w' ⟨rfl,hk.size,hk.known⟩ (hm'.ds [])
  rcases he with rfl | rfl
  all_goals
   obtain⟨_,h2⟩:=this
   exact h2
 rcases he with rfl | rfl
 all_goals
  show LeavesInM _ _ _ _ _ _ a.defers _ _
  rw[hk.defers,hd]
  exact leaves_marks (by simp) Ds w (hm.perm hp) key
end
end Go.Lw
end
section
set_option linter.unusedVariables false
set_option linter.unusedSimpArgs false
namespace Go.Lw
open Go.RowKit
structure YdW (P:Program) (l:Nat) (J:Nat→World→Prop) (E:World→Prop) (VI:View→Prop) (ys:List (List Value)):Prop where
 stJ:∀ j w w',J j w→Below w.heap.size w w'→J j w'
 stE:∀ w w',E w→Below w.heap.size w w'→E w'
 view:∀ j w,J j w→VI (hp w)
 rnd:∀ j y w,ys[j]? = some y→J j w→Rnd P l y J E j w
def ItW (P:Program) (f:FuncId) (caps:List Value) (VI:View→Prop) (ys:List (List Value)):Prop:=
 ∀ (l:Nat) (J:Nat→World→Prop) (E:World→Prop) (w:World),YdW P l J E VI ys→J 0 w→
  Calls P f (Value.func (.yield l) #[] #[]::caps).toArray w fun e w'=>∃ v,e=.returned v∧(J ys.length w'∨E w')
section
variable {cx:Cx} {n:Nat} {ks:List (Nat×Value)} {O O' R:List Own} {V V0:View} {P:Program} {ops:Array Oper} {Qn:Act→World→Prop} {t:Tr} {i d:Nat} {T:TypeId} {pos:String} {after:Array Edge} {gd:Option (Nat×Bool)} {x y:Operand} {u v:Value} {wr:Bool} {ro:Option Nat} {Q:Exit→Act→World→Prop} {K:Act→World→Prop}
 {l j:Nat} {J:Nat→World→Prop} {E:World→Prop} {ys:List (List Value)} {VI:View→Prop}
theorem AtT.yieldW {c:Operand} {args:List Operand} {ts:Array TypeId} {y:List Value} (ho:ops[i]? = some ⟨some d,.call ⟨.value c,args.toArray,ts⟩,T,pos,after,gd⟩) (hg:Gd ks ops gd) (hc:ev ks c=some (.func (.yield l) #[] #[])) (ha:evs ks args=some y) (H:YdW P l J E VI ys)
  (hy:ys[j]? = some y) (hJ:J j cx.w0) (hn:d<n)
  (next1:∀ w,J (j+1) w∧VI (hp w)→AtT ⟨w,hp w,cx.ds⟩ n ((d,.bool true)::ks) [] (hp w) P ops Qn t)
  (next2:∀ w,E w→AtT ⟨w,fun _=>none,cx.ds⟩ n ((d,.bool false)::ks) [] (fun _=>none) P ops Qn t):AtT cx n ks O V P ops Qn (.n true i t):=
 .xx ho hg fun a w hk hm=>by
  have e:args.toArray.map a.eval=y.toArray:=by rw[←xB hk args y ha]; simp
  obtain⟨f,tmps,assign,body,h1,h2⟩:=H.rnd j y w hy (H.stJ j _ _ hJ hm.below)
  simp only[opW,execOp,resolve,e,hk.ev hc,Deferred.ofValue,Sem.run_bind,Sem.run_pure,Result.andThen_ok,invoke,Array.empty_append,h1]
  refine h2.mono fun e w' hh=>?_
  rcases hh with ⟨rfl,h⟩ | ⟨rfl,h⟩
  ·exact⟨⟨w',hp w',cx.ds⟩,_,[],hp w',(hk.put hn _).kT rfl,Mem.start _ (Le.refl _),next1 w' ⟨h,H.view _ _ h⟩⟩
  ·exact⟨⟨w',fun _=>none,cx.ds⟩,_,[],fun _=>none,(hk.put hn _).kT rfl,Mem.start _ (fun k o hk=>by cases hk),next2 w' h⟩
theorem At.lpW (H:YdW P l J E VI ys) {ι:Type} {c:Code} (I:ι→Prop) (KS:ι→List (Nat×Value)) (idx:ι→Nat) (μ:ι→Nat) (i0:ι) (hI:I i0) (hs:Sub (KS i0) ks) (hJ:J (idx i0) cx.w0)
  (hbody:∀ i w ks',I i→VI (hp w)→J (idx i) w→ks'=KS i→At ⟨w,hp w,cx.ds⟩ n ks' [] (hp w) (c.wpIn (FW ro) 0 P (Exit.then (fun a' w'=>∃ i',μ i'<μ i∧I i'∧Kn cx n (KS i') a'∧J (idx i') w') Q))) :
  At cx n ks O V ((Code.loop c).wpIn (FW ro) 0 P Q):=fun a w hk hm=>
 wpIn_loop_ghost (fun(i:ι) a w=>I i∧Kn cx n (KS i) a∧J (idx i) w) μ
  (fun i a w ⟨hI,hk,hJ⟩=>wpIn_mono (hbody i w _ hI (H.view _ _ hJ) hJ rfl a w (hk.kT rfl) (Mem.start _ (Le.refl _))) (fun e a' w' hq=>by
   cases e with
   | normal=>
    obtain⟨i',hlt,hI',hk',hJ'⟩:=hq
    exact⟨i',⟨hI',hk',hJ'⟩,hlt⟩
   | exit id=>exact hq
   | goto l=>exact hq
   | ret=>exact hq
   | panic ch=>exact hq
   | outgrown=>exact hq)) i0 a w ⟨hI,hk.sub hs,H.stJ _ _ _ hJ hm.below⟩
theorem At.roundW (H:YdW P l J E VI ys) {cx':Cx} {ι:Type} {I:ι→Prop} {KS:ι→List (Nat×Value)} {idx:ι→Nat} {μ:ι→Nat} {i:ι} (i':ι) (hμ:μ i'<μ i) (hI:I i') (hs:Sub (KS i') ks) (hJ:J (idx i') cx.w0) (hd:cx'.ds=cx.ds:=by rfl) :
  At cx n ks O V (fun a w=>∃ i',μ i'<μ i∧I i'∧Kn cx' n (KS i') a∧J (idx i') w):=fun a w hk hm=>⟨i',hμ,hI,(hk.sub hs).kT hd,H.stJ _ _ _ hJ hm.below⟩
theorem itW_of {f:FuncId} {fn:Func} {c:Code} {caps:List Value} {n:Nat} (hf:P.funcs[f]? = some fn) (hb:fn.body=some c) (hn:fn.ntmps=n) (hl:caps.length+1≤n) (hr:fn.results=#[])
  (h:∀ l J E w,YdW P l J E VI ys→VI (hp w)→J 0 w→At ⟨w,hp w,[]⟩ n (frame (Value.func (.yield l) #[] #[]::caps) 0) [] (hp w) (c.wpIn (FW none) 0 P (fun e a w'=>a.defers=[]∧(e=.normal∨e=.ret)∧(J ys.length w'∨E w')))):ItW P f caps VI ys:=fun l J E w H hJ=>by
 refine(jB (ro:=none) (n:=0)).1 (callsIn_of_wp hf hb trivial (wpIn_mono (h l J E w H (H.view _ _ hJ) hJ _ w ⟨rfl,?_,fun i v hi=>?_⟩ (Mem.start _ (Le.refl _))) fun e a w' hq=>?_) rfl)
 ·simp[hn]; omega
 ·have:=(kZ (Value.func (.yield l) #[] #[]::caps) 0 i v hi).2
  simp only[Nat.sub_zero]at this
  have hlt:=(List.getElem?_eq_some_iff.1 this).1
  rw[Array.getElem?_append_left (by simpa using hlt)]
  simpa using this
 ·obtain⟨h1,h2 | h2,h3⟩:=hq<;>subst h2<;>exact⟨h1,_,results_none hr _ _ _,_,rfl,h3⟩
theorem At.itEndW (H:YdW P l J E VI ys) {e:Exit} (he:e=.normal∨e=.ret) (hd:cx.ds=[]) (h:J ys.length cx.w0∨E cx.w0):At cx n ks O V (fun a w'=>a.defers=[]∧(e=.normal∨e=.ret)∧(J ys.length w'∨E w')):=fun a w hk hm=>
 ⟨hk.defers.trans hd,he,h.imp (fun h=>H.stJ _ _ _ h hm.below) (fun h=>H.stE _ _ h hm.below)⟩
theorem Mem.at {b:Nat} {o:Obj} {w:World} (h:Mem cx O V w) (hp':zM (.blk b o) O R):hp w b=some o:=(h.pick hp').blk
theorem At.rangeFuncW {g:Operand} {ps:Array Tmp} {assign body:Code} {f:FuncId} {caps:List Value} {ι:Type} (idx:ι→Nat) (OS:ι→List Own) (VS:ι→View→Prop) (XS:Code→List Own→View→Prop)
  (hg:ev ks g=some (.func (.func f) #[] caps.toArray)) (hok:zy P f) (g0:ι) (hg0:idx g0=0) (hp:Pt (OS g0) O) (hv:VS g0 V) (hit:ItW P f caps VI ys) (hVi:∀ g V' w,VS g V'→Mem { cx with ds:=[] } (OS g) V' w→VI (Go.Lw.hp w))
  (hps:∀ p∈ps.toList,p<n) (hlen:∀ y∈ys,y.length=ps.size)
  (hround:∀ i y l D r V' ks' O',ys[idx i]? = some y→VS i V'→Le cx.V0 V'→ks'=bindK ps.toList y ks→O'=OS i→At { cx with ds:=[] } n ks' (.blk l (.loop { r with state:=.ready,pending:=none })::.blk D (.deferred (some []))::O') V'
   (assign.wpIn (FW (some l)) 0 P (Exit.then (fun a₁ w₁=>∃ w₂,(Instr.beginRound l).run P w₁=.ok () w₂∧body.wpIn (FW (some l)) 0 P (roundPost P l (RR { cx with ds:=[] } l D r idx OS VS XS (idx i))) a₁ w₂) (fun _ _ _=>False))))
  (hend:∀ i D V' O',idx i=ys.length→VS i V'→Le cx.V0 V'→O'=OS i→At { cx with ds:=mkD D::cx.ds } n ks (.blk D (.deferred (some []))::O') V' (Q .normal))
  (hexit:∀ D c O' V',XS c O' V'→Le cx.V0 V'→At { cx with ds:=mkD D::cx.ds } n ks (.blk D (.deferred (some []))::O') V' (c.wpIn (FW none) 0 P Q)) :
  At cx n ks O V ((Code.rangeFunc g ps assign body).wpIn (FW none) 0 P Q):=fun a w hk hm=>by
 refine wpIn_rangeFunc fun fn _=>?_
 let D:=w.heap.size
 let r:Loop:={ state:=.ready,pending:=none,fn:=fn,tmps:=a.tmps,params:=ps,assign:=assign,body:=body,defers:=D }
 let w1:=(w.alloc (.deferred (some []))).alloc (.loop r)
 have hm1:Mem { cx with ds:=[] } (.blk (D+1) (.loop r)::.blk D (.deferred (some []))::OS g0) V w1:=by
  have h1:=((hm.part hp.part).ds []).alloc (.deferred (some []))
  have h2:=h1.alloc (.loop r)
  rwa[World.size_alloc]at h2
 have H:YdW P (D+1) (RJ { cx with ds:=[] } (D+1) D r idx OS VS) (RE { cx with ds:=[] } (D+1) D r XS) VI ys:=by
  refine⟨fun j w w' h hb=>h.ext hb,fun w w' h hb=>h.ext hb,fun j w h=>?_,fun j y w hy h=>?_⟩
  ·obtain⟨g',V',h0,h1,h2⟩:=h
   exact hVi g' V' w h1 h2.drop.drop
  ·obtain⟨g',V',rfl,h1,h2⟩:=h
   have hl:=hlen y (List.mem_of_getElem? hy)
   refine⟨_,_,_,_,run_yield h2.blk (by simpa using hl),?_⟩
   rw[foldl_zip]
   refine roundIn_of_wpIn trivial ?_
   refine hround g' y (D+1) D r V' _ _ hy h1 h2.le0 rfl rfl _ w ?_ h2
   have:Kn { cx with ds:=[] } n ks { tmps:=a.tmps,defers:=[] }:=⟨rfl,hk.size,hk.known⟩
   have:=Kn.bind ps.toList y ks a.tmps (by simpa using hl.symm) hps this
   exact⟨this.defers,this.size,this.known⟩
 refine⟨D+1,[mkD D],w1,{ target:=.fn (.func f) caps.toArray,args:=#[.func (.yield (D+1)) #[] #[]] },w1,f,(Value.func (.yield (D+1)) #[] #[]::caps).toArray,w1,run_enterLoop_outer _ _ _ _ _,?_,fun _ _=>trivial,?_,FW_dep none,?_⟩
 ·have e1:a.eval (.const (.func (.yield (D+1)) #[] #[]))=.func (.yield (D+1)) #[] #[]:=rfl
  simp[resolve,hk.ev hg,Deferred.ofValue,e1]
 ·have e:(#[Value.func (.yield (D+1)) #[] #[]]++caps.toArray)=(Value.func (.yield (D+1)) #[] #[]::caps).toArray:=by simp
  simp only[invoke,e]
  exact hok _ _
 ·refine jB.2 ((hit (D+1) _ _ w1 H ⟨g0,V,hg0,hv,hm1⟩).mono fun e w' ⟨v,he,hh⟩=>?_)
  subst he
  have hk':Kn { cx with ds:=mkD D::cx.ds } n ks { a with defers:=[mkD D]++a.defers }:=⟨by show [mkD D]++a.defers=mkD D::cx.ds; rw[hk.defers]; rfl,hk.size,hk.known⟩
  rcases hh with ⟨g',V',h0,h1,h2⟩ | ⟨c,O',V',h1,h2⟩
  ·exact⟨none,_,run_endLoop h2.blk (by simp),hend g' D V' _ h0 h1 h2.le0 rfl _ _ hk' (h2.put.drop.kT rfl rfl)⟩
  ·exact⟨some c,_,run_endLoop h2.blk (by simp),hexit D c O' V' h1 h2.le0 _ _ hk' (h2.put.drop.kT rfl rfl)⟩
end
end Go.Lw
end
section
set_option linter.unusedVariables false
namespace Go.Proofs.YtmdcedioddchfaaGreatDoor.C
open Go.Lw Go.Ps Go.Cc Go.RowKit
open Go.Gl (iv ivs qy)
theorem cRibbon_f (n:Int) (a:Option Addr) (f:List Int) (c:Nat) (hf:RbOk n f) (V:View) (hs:SlI V (.slice a f.length c) f):Fnc Tryz.prog 43 [rbv n a f c] V fun r _=>r=iv 0:=by
 have hlen:=hs.qV
 have hn:=hf.nb
 refine qa Tryz.func43 rfl Tryz.ntmps43 (Nat.le_of_ble_eq_true rfl) ?_
 intro w0 hw0
 refine At.nrm ?_
 refine At.zh (.n false 0 (.q 1 .done)) ?_
 refine AtT.jA ?_
 intro b1
 refine AtT.zg ?_
 refine AtT.done ?_
 refine At.nrm ?_
 refine At.zh (.q 0 (.q 1 (.n false 2 (.n false 3 (.q 4 .done))))) ?_
 first | refine AtT.zk zI ?_ | with_reducible refine AtT.zm zI ?_ | refine AtT.zo zI ?_
 first | refine AtT.zn tk3 ?_ | refine AtT.zq tk3 ?_
 refine AtT.qz (bs22_1_0 _) ?_
 intro q8 V8 hV8 hq8
 have g8:Le V V8:=by first | exact hV8 | exact Le.trans (by assumption) hV8
 refine AtT.zR rfl rfl ok92 (jJ 1 24 n _ _ (Sl.lit hq8 rfl (by simp))) ?_
 rintro _ rfl
 refine AtT.knot ?_
 refine AtT.done ?_
 refine At.nrm ?_
 refine At.qh rfl (by rw[decide_eq_true (by omega)]; rfl) ?_
 refine At.nrm ?_
 refine At.zh (.q 0 .done) ?_
 refine AtT.zg ?_
 refine AtT.done ?_
 refine At.nrm ?_
 refine At.zh (.q 0 (.q 1 (.q 2 (.q 3 .done)))) ?_
 first | refine AtT.zk zB ?_ | with_reducible refine AtT.zm zB ?_ | refine AtT.zo zB ?_
 first | refine AtT.zn qH ?_ | refine AtT.zq qH ?_
 first | refine AtT.zW Tryz.underlying22 ?_ | refine AtT.zX Tryz.underlying22 ?_
 refine AtT.zf ?_
 refine AtT.done ?_
 refine At.nrm ?_
 refine At.lp (ι:=Nat×Int) (KS:=fun g=>[(1,.pointer (some ⟨b1,0,none⟩)),(3,iv g.2),(12,.slice a f.length c),(13,iv f.length),(14,iv g.1)]) (OS:=fun _=>[.blk b1 (LC [iv n,.slice a f.length c] 24)])
  (VS:=fun g V'=>Le V V'∧g.1≤f.length∧0≤g.2∧g.2≤1000∧∀ j y,g.1≤j→f[j]? = some y→g.2≤y) (μ:=fun g=>f.length-g.1) (0,0) ?_ ?_ ?_ ?_
 ·exact⟨rfl,rfl,rfl,rfl,rfl,trivial⟩
 ·exact Pt.zC
 ·exact⟨by first | assumption | exact Le.refl _,Nat.zero_le _,Int.le_refl _,by decide,fun j y _ hj=>(hf.fb.bd y (List.mem_of_getElem? hj)).1⟩
 rintro⟨k,nx⟩ V1 ks' O' ⟨hV1,hkl,hn0,hn1,hnx⟩ hk hO hll
 dsimp only at hkl hn0 hn1 hnx hk hO
 subst hk hO
 have hs1:=hs.le hV1
 refine At.nrm ?_
 refine At.zh (.q 0 .done) ?_
 refine AtT.qd ?_
 refine AtT.done ?_
 refine At.nrm ?_
 refine At.qb rfl (fun hp=>?_) (fun hp=>?_)
 ·obtain⟨x,hx⟩:∃ x,f[k]? = some x:=⟨_,List.getElem?_eq_getElem (by omega)⟩
  have hb:=hf.fb.bd x (List.mem_of_getElem? hx)
  have h2:=hnx k x (Nat.le_refl _) hx
  refine At.nrm ?_
  refine At.zh (.q 0 (.q 1 (.q 2 .done))) ?_
  refine AtT.qj Tryz.underlying22 tk3 ?_
  intro p16 e16 he16 hc16
  obtain rfl:x=e16:=by have:f[k]? = some e16:=(by simpa using he16); rw[hx]at this; simpa using this
  first | refine AtT.zn tk3 ?_ | refine AtT.zq tk3 ?_
  refine AtT.zg ?_
  refine AtT.done ?_
  refine At.nrm ?_
  refine At.zh (.q 0 (.q 1 (.q 2 (.q 3 (.q 4 (.n false 5 (.n false 6 (.q 7 .done)))))))) ?_
  refine AtT.zf ?_
  first | refine AtT.zk zI ?_ | with_reducible refine AtT.zm zI ?_ | refine AtT.zo zI ?_
  first | refine AtT.zn tk3 ?_ | refine AtT.zq tk3 ?_
  first | refine AtT.jD ?_ | refine AtT.jE ?_
  refine AtT.zf ?_
  refine AtT.qz (bs22_1_0 _) ?_
  intro q23 V23 hV23 hq23
  have g23:Le V V23:=by first | exact hV23 | exact Le.trans (by assumption) hV23
  refine AtT.zR rfl rfl ok92 (jJ nx (n-1) x _ _ (Sl.lit hq23 rfl (by simp))) ?_
  rintro _ rfl
  refine AtT.knot ?_
  refine AtT.done ?_
  refine At.nrm ?_
  refine At.qh rfl (by rw[decide_eq_true (by omega)]; rfl) ?_
  refine At.nrm ?_
  refine At.zh (.q 0 (.q 1 (.q 2 .done))) ?_
  refine AtT.zf ?_
  first | refine AtT.ql ?_ | refine AtT.zP ?_
  refine AtT.zg ?_
  refine AtT.done ?_
  refine At.nrm ?_
  refine At.nrm ?_
  refine At.zh (.q 0 (.q 1 .done)) ?_
  first | refine AtT.ql ?_ | refine AtT.zP ?_
  refine AtT.zf ?_
  refine AtT.done ?_
  refine At.nrm ?_
  refine At.round (k+1,x+1) ?_ ?_ ?_ ?_
  ·show f.length-(k+1)<f.length-k; omega
  ·refine⟨hV1.trans hV23,by dsimp only; omega,by dsimp only; omega,by dsimp only; omega,fun j y hj hy=>?_⟩
   have:=up_at hf.fb.up hx hy (by dsimp only at hj; omega)
   dsimp only; omega
  ·exact⟨rfl,rfl,rfl,rfl,ivs (by dsimp only; omega),trivial⟩
  ·exact Pt.zC
 ·refine At.nrm ?_
  refine At.zh (.q 0 .done) ?_
  refine AtT.zg ?_
  refine AtT.done ?_
  refine At.nrm ?_
  exact At.qf rfl (.tmp rfl) rfl
theorem kstray_f (k:Kd) (hk:1≤k.w∧k.w≤24∧1≤k.p∧k.p≤1000∧0≤k.m∧k.m≤24) (V:View):Fnc Tryz.prog 93 ([]++[.agg #[iv k.w,iv k.p,iv k.m]]++[]) V fun r _=>r=.bool false:=by
 refine qa Tryz.func93 rfl Tryz.ntmps93 (Nat.le_of_ble_eq_true rfl) ?_
 intro w0 hw0
 refine At.nrm ?_
 refine At.zh (.n false 0 (.q 1 .done)) ?_
 refine AtT.jA ?_
 intro b1
 refine AtT.zg ?_
 refine AtT.done ?_
 refine At.nrm ?_
 refine At.zh (.q 0 (.q 1 (.n false 2 (.n false 3 (.q 4 (.q 5 (.q 6 (.q 7 (.q 8 (.q 9 (.q 10 (.q 11 (.q 12 (.q 13 (.q 14 (.q 15 (.q 16 (.q 17 (.n false 18 (.n false 19 (.q 20 (.q 21 (.q 22 .done))))))))))))))))))))))) ?_
 first | refine AtT.zk zQ ?_ | with_reducible refine AtT.zm zQ ?_ | refine AtT.zo zQ ?_
 first | refine AtT.zn tk3 ?_ | refine AtT.zq tk3 ?_
 refine AtT.qz (bs22_1_0 _) ?_
 intro q5 V5 hV5 hq5
 have g5:Le V V5:=by first | exact hV5 | exact Le.trans (by assumption) hV5
 refine AtT.zR rfl rfl ok92 (jJ 1 24 k.w _ _ (Sl.lit hq5 rfl (by simp))) ?_
 rintro _ rfl
 refine AtT.knot ?_
 refine AtT.setB (d:=7) rfl ((show(!decide (1≤k.w∧k.w≤24))=false by rw[decide_eq_true (by omega)]; rfl)) ?_
 refine AtT.zf ?_
 all_goals (first | refine AtT.kL 8 ?_ | refine AtT.zF (d:=8) rfl (fun hg8=>?_) (fun hg8=>?_) | refine AtT.zD (d:=8) rfl (fun hg8=>?_) (fun hg8=>?_))
 all_goals first|refine AtT.zi ?_|refine AtT.ze ?_|(first | refine AtT.zk zA ?_ | with_reducible refine AtT.zm zA ?_ | refine AtT.zo zA ?_)
 all_goals first|refine AtT.zi ?_|refine AtT.ze ?_|(first | refine AtT.zn tk2 ?_ | refine AtT.zq tk2 ?_)
 all_goals first|refine AtT.zi ?_|refine AtT.ze ?_|(refine AtT.qd ?_)
 all_goals (refine AtT.qx (d:=11) rfl ((by omega)) ?_)
 all_goals (refine AtT.zH ?_)
 all_goals (refine AtT.zf ?_)
 all_goals (first | refine AtT.kL 13 ?_ | refine AtT.zF (d:=13) rfl (fun hg13=>?_) (fun hg13=>?_) | refine AtT.zD (d:=13) rfl (fun hg13=>?_) (fun hg13=>?_))
 all_goals first|refine AtT.zi ?_|refine AtT.ze ?_|(first | refine AtT.zk zA ?_ | with_reducible refine AtT.zm zA ?_ | refine AtT.zo zA ?_)
 all_goals first|refine AtT.zi ?_|refine AtT.ze ?_|(first | refine AtT.zn tk2 ?_ | refine AtT.zq tk2 ?_)
 all_goals first|refine AtT.zi ?_|refine AtT.ze ?_|(refine AtT.qA ?_)
 all_goals (refine AtT.qx (d:=16) rfl ((by omega)) ?_)
 all_goals (refine AtT.zH ?_)
 all_goals (refine AtT.zf ?_)
 all_goals (first | refine AtT.kL 18 ?_ | refine AtT.zF (d:=18) rfl (fun hg18=>?_) (fun hg18=>?_) | refine AtT.zD (d:=18) rfl (fun hg18=>?_) (fun hg18=>?_))
 all_goals first|refine AtT.zi ?_|refine AtT.ze ?_|(first | refine AtT.zk zT ?_ | with_reducible refine AtT.zm zT ?_ | refine AtT.zo zT ?_)
 all_goals first|refine AtT.zi ?_|refine AtT.ze ?_|(first | refine AtT.zn tk3 ?_ | refine AtT.zq tk3 ?_)
 all_goals first|refine AtT.jq ?_|refine AtT.qP ?_|((refine AtT.qz (bs22_1_0 _) ?_);(intro q21 V21 hV21 hq21);(have g21:Le V V21:=by first | exact hV21 | exact Le.trans (by assumption) hV21))
 all_goals first|refine AtT.jq ?_|refine AtT.qP ?_|((refine AtT.zR rfl rfl ok92 (jJ 0 24 k.m _ _ (Sl.lit hq21 rfl (by simp))) ?_);(rintro _ rfl))
 all_goals first|refine AtT.zi ?_|refine AtT.ze ?_|(refine AtT.knot ?_)
 all_goals (refine AtT.setB (d:=23) rfl ((show(!decide (0≤k.m∧k.m≤24))=false by rw[decide_eq_true (by omega)]; rfl)) ?_)
 all_goals (refine AtT.zH ?_)
 all_goals (refine AtT.zg ?_)
 all_goals refine AtT.done ?_
 all_goals (refine At.nrm ?_)
 exact At.qf rfl (.tmp rfl) rfl
theorem kindex_f (ks:List Kd) (hks:KdOk ks) (V:View) (vl:Value) (hs:Sl V kde 3 vl ks):Fnc Tryz.prog 153 [vl,.func (.func 93) #[] #[]] V fun v _=>v=iv (-1):=by
 have hlen:=hs.qV
 refine qa Tryz.func153 rfl Tryz.ntmps153 (Nat.le_of_ble_eq_true rfl) ?_
 intro w0 hw0
 refine At.nrm ?_
 refine At.zh (.q 0 .done) ?_
 refine AtT.zg ?_
 refine AtT.done ?_
 refine At.nrm ?_
 refine At.zh (.q 0 (.q 1 (.q 2 .done))) ?_
 refine AtT.zf ?_
 first | refine AtT.zW Tryz.underlying25 ?_ | refine AtT.zX Tryz.underlying25 ?_
 refine AtT.zf ?_
 refine AtT.done ?_
 refine At.nrm ?_
 refine At.lp (ι:=Nat) (KS:=fun k=>[(0,vl),(1,.func (.func 93) #[] #[]),(4,iv 0),(7,iv ks.length),(8,iv k)]) (OS:=fun _=>[])
  (VS:=fun k V'=>V'=V∧k≤ks.length) (μ:=fun k=>ks.length-k) 0 ?_ ?_ ?_ ?_
 ·exact⟨rfl,rfl,rfl,rfl,rfl,trivial⟩
 ·exact Pt.zC
 ·exact⟨rfl,Nat.zero_le _⟩
 rintro k V' ks' O' ⟨rfl,hkl⟩ hk hO hl
 subst hk hO
 refine At.nrm ?_
 refine At.zh (.q 0 .done) ?_
 refine AtT.qd ?_
 refine AtT.done ?_
 refine At.nrm ?_
 refine At.qb rfl (fun hp=>?_) (fun hp=>?_)
 ·refine At.nrm ?_
  refine At.zh (.q 0 (.q 1 .done)) ?_
  refine AtT.zf ?_
  refine AtT.zg ?_
  refine AtT.done ?_
  refine At.nrm ?_
  refine At.zh (.q 0 (.q 1 (.q 2 (.q 3 (.q 4 (.n false 5 .done)))))) ?_
  refine AtT.zf ?_
  refine AtT.zf ?_
  refine AtT.zf ?_
  refine AtT.qj Tryz.underlying25 kw ?_
  intro p14 e14 he14 hc14
  first | refine AtT.zL kw ?_ | refine AtT.zS kw ?_ | refine AtT.zK kw ?_
  refine AtT.kcallV rfl rfl rfl ok93 (kstray_f e14 (hks.k e14 (List.mem_of_getElem? he14)) _) ?_
  rintro _ rfl
  refine AtT.done ?_
  refine At.nrm ?_
  refine At.qh rfl rfl ?_
  refine At.nrm ?_
  refine At.zh (.q 0 (.q 1 .done)) ?_
  first | refine AtT.ql ?_ | refine AtT.zP ?_
  refine AtT.zf ?_
  refine AtT.done ?_
  refine At.nrm ?_
  refine At.round (k+1) ?_ ?_ ?_ ?_
  ·show ks.length-(k+1)<ks.length-k; omega
  ·exact⟨rfl,by omega⟩
  ·exact⟨rfl,rfl,rfl,rfl,rfl,trivial⟩
  ·exact Pt.zC
 ·refine At.nrm ?_
  refine At.zh (.q 0 .done) ?_
  refine AtT.zg ?_
  refine AtT.done ?_
  refine At.nrm ?_
  exact At.qf rfl (.tmp rfl) rfl
theorem cKinds_f (ks:List Kd) (hks:KdOk ks) (V:View) (vl:Value) (hs:Sl V kde 3 vl ks):Fnc Tryz.prog 44 [vl] V fun v _=>v=iv 0:=by
 have hlen:=hs.qV
 have hn:=hks.n
 obtain⟨a,cc,rfl,k1,k2,_⟩:=id hs
 clear k1 k2
 have hcon:∀ V',Le V V'→Fnc Tryz.prog 94 [.slice a ks.length cc,.func (.func 93) #[] #[]] V' fun v _=>v=.bool false:=fun V' hV'=>by
  refine qa Tryz.func94 rfl Tryz.ntmps94 (Nat.le_of_ble_eq_true rfl) ?_
  intro w0 hw0
  refine At.nrm ?_
  refine At.zh (.q 0 .done) ?_
  refine AtT.zg ?_
  refine AtT.done ?_
  refine At.nrm ?_
  refine At.zh (.q 0 (.q 1 (.n false 2 (.q 3 (.q 4 .done))))) ?_
  refine AtT.zf ?_
  refine AtT.zf ?_
  refine AtT.zR rfl rfl ok153 (kindex_f ks hks _ _ (hs.le hV')) ?_
  rintro _ rfl
  refine AtT.kgeq ?_
  refine AtT.zg ?_
  refine AtT.done ?_
  refine At.nrm ?_
  exact At.qf rfl (.tmp rfl) rfl
 refine qa Tryz.func44 rfl Tryz.ntmps44 (Nat.le_of_ble_eq_true rfl) ?_
 intro w0 hw0
 refine At.nrm ?_
 refine At.zh (.q 0 .done) ?_
 refine AtT.zg ?_
 refine AtT.done ?_
 refine At.nrm ?_
 refine At.zh (.q 0 .done) ?_
 refine AtT.zg ?_
 refine AtT.done ?_
 refine At.nrm ?_
 refine At.nrm ?_
 refine At.zh (.q 0 (.q 1 (.n false 2 (.n false 3 (.q 4 (.q 5 .done)))))) ?_
 refine AtT.zf ?_
 first | refine AtT.zW Tryz.underlying25 ?_ | refine AtT.zX Tryz.underlying25 ?_
 refine AtT.qz (bs22_1_0 _) ?_
 intro q7 V7 hV7 hq7
 have g7:Le V V7:=by first | exact hV7 | exact Le.trans (by assumption) hV7
 refine AtT.zR rfl rfl ok92 (jJ 1 6 ks.length _ _ (Sl.lit hq7 rfl (by simp))) ?_
 rintro _ rfl
 refine AtT.knot ?_
 refine AtT.zg ?_
 refine AtT.done ?_
 refine At.nrm ?_
 refine At.qh rfl (by rw[decide_eq_true (by omega)]; rfl) ?_
 refine At.nrm ?_
 refine At.zh (.q 0 (.q 1 (.n false 2 (.q 3 .done)))) ?_
 refine AtT.zf ?_
 refine AtT.zf ?_
 refine AtT.zR rfl rfl ok94 (hcon _ hV7) ?_
 rintro _ rfl
 refine AtT.zg ?_
 refine AtT.done ?_
 refine At.nrm ?_
 refine At.qh rfl rfl ?_
 refine At.nrm ?_
 refine At.zh (.q 0 .done) ?_
 refine AtT.zg ?_
 refine AtT.done ?_
 refine At.nrm ?_
 exact At.qf rfl (.tmp rfl) rfl
theorem index_f (l:List Int) (x:Int) (V:View) (v:Value) (hs:SlI V v l):Fnc Tryz.prog 154 [v,iv x] V fun r _=>∃ j:Int,r=iv j∧(0≤j↔x∈l):=by
 have hlen:=hs.qV
 obtain⟨a,cc,rfl,k1,k2,_⟩:=id hs
 clear k1 k2
 refine qa Tryz.func154 rfl Tryz.ntmps154 (Nat.le_of_ble_eq_true rfl) ?_
 intro w0 hw0
 refine At.nrm ?_
 refine At.zh (.q 0 .done) ?_
 refine AtT.zg ?_
 refine AtT.done ?_
 refine At.nrm ?_
 refine At.zh (.q 0 (.q 1 (.q 2 .done))) ?_
 refine AtT.zf ?_
 first | refine AtT.zW Tryz.underlying22 ?_ | refine AtT.zX Tryz.underlying22 ?_
 refine AtT.zf ?_
 refine AtT.done ?_
 refine At.nrm ?_
 refine At.lp (ι:=Nat) (KS:=fun k=>[(0,.slice a l.length cc),(1,iv x),(7,iv l.length),(8,iv k)]) (OS:=fun _=>[])
  (VS:=fun k V'=>V'=V∧k≤l.length∧x∉l.take k) (μ:=fun k=>l.length-k) 0 ?_ ?_ ?_ ?_
 ·exact⟨rfl,rfl,rfl,rfl,trivial⟩
 ·exact Pt.zC
 ·exact⟨rfl,Nat.zero_le _,by simp⟩
 rintro k V' ks' O' ⟨rfl,hkl,hup⟩ hk hO hl
 subst hk hO
 refine At.nrm ?_
 refine At.zh (.q 0 .done) ?_
 refine AtT.qd ?_
 refine AtT.done ?_
 refine At.nrm ?_
 refine At.qb rfl (fun hp=>?_) (fun hp=>?_)
 ·have hkl1:k<l.length:=by omega
  refine At.nrm ?_
  refine At.zh (.q 0 (.q 1 .done)) ?_
  refine AtT.zf ?_
  refine AtT.zg ?_
  refine AtT.done ?_
  refine At.nrm ?_
  refine At.zh (.q 0 (.q 1 (.q 2 (.q 3 (.q 4 (.q 5 .done)))))) ?_
  refine AtT.zf ?_
  refine AtT.zf ?_
  refine AtT.zf ?_
  refine AtT.qj Tryz.underlying22 tk3 ?_
  intro p14 e14 he14 hc14
  obtain rfl:l[k]=e14:=by have:l[k]? = some e14:=(by simpa using he14); rw[List.getElem?_eq_getElem hkl1]at this; simpa using this
  first | refine AtT.zn tk3 ?_ | refine AtT.zq tk3 ?_
  refine AtT.keqI ?_
  refine AtT.done ?_
  refine At.nrm ?_
  refine At.qb rfl (fun hq=>?_) (fun hq=>?_)
  ·refine At.nrm ?_
   refine At.zh (.q 0 (.q 1 .done)) ?_
   refine AtT.zf ?_
   refine AtT.zg ?_
   refine AtT.done ?_
   refine At.nrm ?_
   exact At.qf rfl (.tmp rfl) ⟨k,rfl,fun _=>by rw[hq]; exact List.getElem_mem hkl1,fun _=>by omega⟩
  ·refine At.nrm ?_
   refine At.zh (.q 0 (.q 1 .done)) ?_
   first | refine AtT.ql ?_ | refine AtT.zP ?_
   refine AtT.zf ?_
   refine AtT.done ?_
   refine At.nrm ?_
   refine At.round (k+1) ?_ ?_ ?_ ?_
   ·show l.length-(k+1)<l.length-k; omega
   ·refine⟨rfl,hkl1,fun h=>?_⟩
    rw[List.take_succ_eq_append_getElem hkl1]at h
    rcases List.mem_append.1 h with h | h
    ·exact hup h
    ·exact hq (by simpa using h)
   ·exact⟨rfl,rfl,rfl,rfl,trivial⟩
   ·exact Pt.zC
 ·obtain rfl:k=l.length:=by omega
  rw[List.take_length]at hup
  refine At.nrm ?_
  refine At.zh (.q 0 .done) ?_
  refine AtT.zg ?_
  refine AtT.done ?_
  refine At.nrm ?_
  exact At.qf rfl (.tmp rfl) ⟨-1,rfl,fun h=>absurd h (by decide),fun h=>absurd h hup⟩
theorem contains_f (l:List Int) (x:Int) (V:View) (v:Value) (hs:SlI V v l):Fnc Tryz.prog 95 [v,iv x] V fun r _=>r=.bool (decide (x∈l)):=by
 refine qa Tryz.func95 rfl Tryz.ntmps95 (Nat.le_of_ble_eq_true rfl) ?_
 intro w0 hw0
 refine At.nrm ?_
 refine At.zh (.q 0 .done) ?_
 refine AtT.zg ?_
 refine AtT.done ?_
 refine At.nrm ?_
 refine At.zh (.q 0 (.q 1 (.n false 2 (.q 3 (.q 4 .done))))) ?_
 refine AtT.zf ?_
 refine AtT.zf ?_
 refine AtT.zR rfl rfl ok154 (index_f l x _ _ hs) ?_
 rintro _ ⟨j,rfl,hj⟩
 refine AtT.kgeq ?_
 refine AtT.zg ?_
 refine AtT.done ?_
 refine At.nrm ?_
 exact At.qf rfl (.tmp rfl) (congrArg Value.bool (decide_eq_decide.2 hj))
abbrev sv2 (i j:Nat):Value:=.agg #[iv i,iv j]
abbrev tbc (n:Int) (a:Option Addr) (f:List Int) (c:Nat) (kv:Value) (F A B:List Int):List Value:=iv n::.slice a f.length c::kv::(flat ei F++(flat ei A++flat ei B))
theorem tbc_f {n:Int} {a:Option Addr} {f:List Int} {c:Nat} {kv:Value} {F A B:List Int} {i:Nat} {x:Int} (h:F[i]? = some x):(tbc n a f c kv F A B)[0+3+i*1]? = some (iv x):=by
 have hi:=(List.getElem?_eq_some_iff.1 h).1
 rw[show 0+3+i*1=i+1+1+1 by omega]
 simp only[List.getElem?_cons_succ]
 rw[List.getElem?_append_left (by rw[zJ Lw.zZ]; omega),qw,List.getElem?_map,h]; rfl
theorem tbc_a {n:Int} {a:Option Addr} {f:List Int} {c:Nat} {kv:Value} {F A B:List Int} {i:Nat} {x:Int} (hF:F.length=25) (h:A[i]? = some x):(tbc n a f c kv F A B)[0+28+i*1]? = some (iv x):=by
 have hi:=(List.getElem?_eq_some_iff.1 h).1
 rw[show 0+28+i*1=(25+i)+1+1+1 by omega]
 simp only[List.getElem?_cons_succ]
 rw[List.getElem?_append_right (by rw[zJ Lw.zZ]; omega),zJ Lw.zZ,hF,show 25+i-25*1=i by omega,List.getElem?_append_left (by rw[zJ Lw.zZ]; omega),qw,List.getElem?_map,h]; rfl
theorem tbc_b {n:Int} {a:Option Addr} {f:List Int} {c:Nat} {kv:Value} {F A B:List Int} {i:Nat} {x:Int} (hF:F.length=25) (hA:A.length=25) (h:B[i]? = some x):(tbc n a f c kv F A B)[0+53+i*1]? = some (iv x):=by
 have hi:=(List.getElem?_eq_some_iff.1 h).1
 rw[show 0+53+i*1=(50+i)+1+1+1 by omega]
 simp only[List.getElem?_cons_succ]
 rw[List.getElem?_append_right (by rw[zJ Lw.zZ]; omega),zJ Lw.zZ,hF,List.getElem?_append_right (by rw[zJ Lw.zZ]; omega),zJ Lw.zZ,hA,show 50+i-25*1-25*1=i by omega,qw,List.getElem?_map,h]; rfl
theorem tbs_f {n:Int} {a:Option Addr} {f:List Int} {c:Nat} {kv:Value} {F A B:List Int} {i:Nat} (x:Int) (hi:i<F.length):SetAt (tbc n a f c kv F A B) (0+3+i*1) (iv x) (tbc n a f c kv (F.set i x) A B):=by
 refine setAt_of (by simp only[List.length_cons,List.length_append]; rw[zJ Lw.zZ]; omega) ?_
 rw[show 0+3+i*1=i+1+1+1 by omega,List.set_cons_succ,List.set_cons_succ,List.set_cons_succ]
 show _::_::_::(flat ei F++(flat ei A++flat ei B)).set i (iv x)=_::_::_::(flat ei (F.set i x)++(flat ei A++flat ei B))
 rw[List.set_append_left _ _ (by rw[zJ Lw.zZ]; omega),qw F,qw (F.set i x),List.map_set]
theorem tbs_a {n:Int} {a:Option Addr} {f:List Int} {c:Nat} {kv:Value} {F A B:List Int} {i:Nat} (x:Int) (hF:F.length=25) (hi:i<A.length):SetAt (tbc n a f c kv F A B) (0+28+i*1) (iv x) (tbc n a f c kv F (A.set i x) B):=by
 refine setAt_of (by simp only[List.length_cons,List.length_append]; rw[zJ Lw.zZ,zJ Lw.zZ,zJ Lw.zZ]; omega) ?_
 rw[show 0+28+i*1=(25+i)+1+1+1 by omega,List.set_cons_succ,List.set_cons_succ,List.set_cons_succ]
 show _::_::_::(flat ei F++(flat ei A++flat ei B)).set (25+i) (iv x)=_::_::_::(flat ei F++(flat ei (A.set i x)++flat ei B))
 rw[List.set_append_right _ _ (by rw[zJ Lw.zZ]; omega),zJ Lw.zZ,hF,show 25+i-25*1=i by omega,List.set_append_left _ _ (by rw[zJ Lw.zZ]; omega),qw A,qw (A.set i x),List.map_set]
theorem tbs_b {n:Int} {a:Option Addr} {f:List Int} {c:Nat} {kv:Value} {F A B:List Int} {i:Nat} (x:Int) (hF:F.length=25) (hA:A.length=25) (hi:i<B.length):SetAt (tbc n a f c kv F A B) (0+53+i*1) (iv x) (tbc n a f c kv F A (B.set i x)):=by
 refine setAt_of (by simp only[List.length_cons,List.length_append]; rw[zJ Lw.zZ,zJ Lw.zZ,zJ Lw.zZ]; omega) ?_
 rw[show 0+53+i*1=(50+i)+1+1+1 by omega,List.set_cons_succ,List.set_cons_succ,List.set_cons_succ]
 show _::_::_::(flat ei F++(flat ei A++flat ei B)).set (50+i) (iv x)=_::_::_::(flat ei F++(flat ei A++flat ei (B.set i x)))
 rw[List.set_append_right _ _ (by rw[zJ Lw.zZ]; omega),zJ Lw.zZ,hF,List.set_append_right _ _ (by rw[zJ Lw.zZ]; omega),zJ Lw.zZ,hA,show 50+i-25*1-25*1=i by omega,qw B,qw (B.set i x),List.map_set]
def TbV (V:View) (b0:Nat) (n:Nat) (a:Option Addr) (f:List Int) (c:Nat) (kv:Value) (ks:List Kd):Prop:=
 ∃ F A B,V b0=some (LC (tbc n a f c kv F A B) 59)∧F.length=25∧(∀ i,i≤n→F[i]? = some (ftN f i:Int))∧Sl V kde 3 kv ks
theorem vc_of {V:View} {b off:Nat} {cs:List Value} {E:TypeId} {fr:Nat×Nat} (h:V b=some (LC cs E fr)):jd V ⟨b,off,none⟩=cs[off]?:=by
 unfold jd
 rw[h]
 simp[LC]
theorem end_f (b0 n:Nat) (a:Option Addr) (f:List Int) (c:Nat) (kv:Value) (ks:List Kd) (i j:Nat) (k:Kd) (hk:ks[j]? = some k) (hw:1≤k.w∧k.w≤24) (hi:i≤24) (V:View) (hb:TbV V b0 n a f c kv ks):Fnc Tryz.prog 47 [.pointer (some ⟨b0,0,none⟩),sv2 i j] V fun r _=>r=iv ((i+k.w.toNat:Nat):Int):=by
 obtain⟨F,A,B,hb,hF,hft,hs⟩:=hb
 have hlen:=hs.qV
 have hj:=(List.getElem?_eq_some_iff.1 hk).1
 obtain⟨ak,ck,rfl,k1,k2,_⟩:=id hs
 clear k1 k2
 have hkv:jd V ⟨b0,0+2,none⟩=some (.slice ak ks.length ck):=by rw[vc_of hb]; rfl
 refine qa Tryz.func47 rfl Tryz.ntmps47 (Nat.le_of_ble_eq_true rfl) ?_
 intro w0 hw0
 refine At.nrm ?_
 refine At.zh (.n false 0 (.q 1 .done)) ?_
 refine AtT.jA ?_
 intro b3
 refine AtT.zg ?_
 refine AtT.done ?_
 refine At.nrm ?_
 refine At.draw (.q 0 (.q 1 (.q 2 (.q 3 (.q 4 (.q 5 (.q 6 (.q 7 (.q 8 (.q 9 (.q 10 (.q 11 (.q 12 .done))))))))))))) ffm (by kernel_rfl) ?_
 first | refine AtT.zk qW ?_ | with_reducible refine AtT.zm qW ?_ | refine AtT.zo qW ?_
 first | refine AtT.zn tk3 ?_ | refine AtT.zq tk3 ?_
 refine AtT.zf ?_
 refine AtT.qZ ?_
 first | refine AtT.zk jU ?_ | with_reducible refine AtT.zm jU ?_ | refine AtT.zo jU ?_
 refine AtT.load rfl trivial rfl tk25 hkv (by decide) ?_
 first | refine AtT.zk qm ?_ | with_reducible refine AtT.zm qm ?_ | refine AtT.zo qm ?_
 first | refine AtT.zn tk3 ?_ | refine AtT.zq tk3 ?_
 refine AtT.qj Tryz.underlying25 kw ?_
 intro p13 e13 he13 hc13
 obtain rfl:k=e13:=by have:ks[j]? = some e13:=(by simpa using he13); rw[hk]at this; simpa using this
 first | refine AtT.zk zQ ?_ | with_reducible refine AtT.zm zQ ?_ | refine AtT.zo zQ ?_
 first | refine AtT.zn tk3 ?_ | refine AtT.zq tk3 ?_
 first | refine AtT.ql ?_ | refine AtT.zP ?_
 refine AtT.zg ?_
 refine AtT.done ?_
 refine At.nrm ?_
 exact At.qf rfl (.tmp rfl) (by congr 1; omega)
theorem can_f (b0 n:Nat) (a:Option Addr) (f:List Int) (c:Nat) (kv:Value) (ks:List Kd) (i j:Nat) (k:Kd) (hk:ks[j]? = some k) (hw:1≤k.w∧k.w≤24∧0≤k.m) (hn:n≤24) (hi:i≤n) (V:View) (hb:TbV V b0 n a f c kv ks):Fnc Tryz.prog 99 [.pointer (some ⟨b0,0,none⟩),sv2 i j] V fun r _=>r=.bool (canB n f i k):=by
 have hb0:=hb
 obtain⟨F,A,B,hb,hF,hft,hs⟩:=hb
 have hlen:=hs.qV
 have hj:=(List.getElem?_eq_some_iff.1 hk).1
 obtain⟨ak,ck,rfl,k1,k2,_⟩:=id hs
 clear k1 k2
 have hkv:jd V ⟨b0,0+2,none⟩=some (.slice ak ks.length ck):=by rw[vc_of hb]; rfl
 have hnv:jd V ⟨b0,0+0+0,none⟩=some (iv n):=by rw[vc_of hb]; rfl
 have hcb:canB n f i k=decide ((i:Int)+k.w≤n∧(ftN f (i+k.w.toNat):Int)-ftN f i≤k.m):=rfl
 have hfi:=tbc_f (n:=n) (a:=a) (f:=f) (c:=c) (kv:=.slice ak ks.length ck) (A:=A) (B:=B) (hft i hi)
 have f1:=ftN_le f i
 refine qa Tryz.func99 rfl Tryz.ntmps99 (Nat.le_of_ble_eq_true rfl) ?_
 intro w0 hw0
 refine At.nrm ?_
 refine At.zh (.n false 0 (.q 1 .done)) ?_
 refine AtT.jA ?_
 intro b3
 refine AtT.zg ?_
 refine AtT.done ?_
 refine At.nrm ?_
 refine At.zh (.q 0 (.q 1 (.n false 2 (.q 3 .done)))) ?_
 refine AtT.zf ?_
 first | refine AtT.zL qY ?_ | refine AtT.zS qY ?_ | refine AtT.zK qY ?_
 refine AtT.kcallL rfl rfl ok47 (fun VL hVL hOL=>end_f b0 n a f c _ ks i j k hk ⟨hw.1,hw.2.1⟩ (by omega) VL (by obtain⟨F',A',B',h1,h2,h3,h4⟩:=hb0; exact⟨F',A',B',hVL _ _ h1,h2,h3,h4.le hVL⟩)) ?_
 rintro _ rfl
 refine AtT.zg ?_
 refine AtT.done ?_
 refine At.nrm ?_
 by_cases c1:i+k.w.toNat≤n
 ·have hfe:=tbc_f (n:=n) (a:=a) (f:=f) (c:=c) (kv:=.slice ak ks.length ck) (A:=A) (B:=B) (hft _ c1)
  have f2:=ftN_le f (i+k.w.toNat)
  have hve:jd V ⟨b0,0+3+(((i+k.w.toNat:Nat):Int)).toNat*1,none⟩=some (iv (ftN f (i+k.w.toNat))):=by rw[vc_of hb,Int.toNat_natCast]; exact hfe
  have hvi:jd V ⟨b0,0+3+((i:Int)).toNat*1,none⟩=some (iv (ftN f i)):=by rw[vc_of hb,Int.toNat_natCast]; exact hfi
  refine At.draw (.q 0 (.q 1 (.q 2 (.q 3 (.q 4 (.q 5 (.q 6 (.q 7 (.q 8 (.q 9 (.q 10 (.q 11 (.q 12 (.q 13 (.q 14 (.q 15 (.q 16 (.q 17 (.q 18 (.q 19 (.q 20 (.q 21 (.q 22 (.q 23 (.q 24 (.q 25 (.q 26 (.q 27 (.q 28 (.q 29 (.q 30 (.q 31 (.q 32 (.q 33 .done)))))))))))))))))))))))))))))))))) ffm (by kernel_rfl) ?_
  refine AtT.zf ?_
  refine AtT.zf ?_
  refine AtT.qZ ?_
  first | refine AtT.zk fo59_0 ?_ | with_reducible refine AtT.zm fo59_0 ?_ | refine AtT.zo fo59_0 ?_
  first | refine AtT.zk zI ?_ | with_reducible refine AtT.zm zI ?_ | refine AtT.zo zI ?_
  refine AtT.load rfl trivial rfl tk3 hnv (by decide) ?_
  refine AtT.kleq ?_
  refine AtT.kR (d:=15) rfl ((by omega)) ?_
  refine AtT.zf ?_
  all_goals (first | refine AtT.kL 16 ?_ | refine AtT.zF (d:=16) rfl (fun hg16=>?_) (fun hg16=>?_) | refine AtT.zD (d:=16) rfl (fun hg16=>?_) (fun hg16=>?_))
  all_goals first|refine AtT.zi ?_|refine AtT.ze ?_|(refine AtT.zf ?_)
  all_goals first|refine AtT.zi ?_|refine AtT.ze ?_|(refine AtT.zf ?_)
  all_goals first|refine AtT.zi ?_|refine AtT.ze ?_|(refine AtT.qZ ?_)
  all_goals first|refine AtT.zi ?_|refine AtT.ze ?_|(first | refine AtT.zk qK ?_ | with_reducible refine AtT.zm qK ?_ | refine AtT.zo qK ?_)
  all_goals first|refine AtT.zi ?_|refine AtT.ze ?_|(refine AtT.jh Tryz.underlying55 tk3 ?_)
  all_goals first|refine AtT.zi ?_|refine AtT.ze ?_|(refine AtT.load rfl ⟨_,_,rfl,rfl,rfl⟩ rfl tk3 hve (by decide) ?_)
  all_goals first|refine AtT.zi ?_|refine AtT.ze ?_|(refine AtT.zf ?_)
  all_goals first|refine AtT.zi ?_|refine AtT.ze ?_|(first | refine AtT.zk qW ?_ | with_reducible refine AtT.zm qW ?_ | refine AtT.zo qW ?_)
  all_goals first|refine AtT.zi ?_|refine AtT.ze ?_|(first | refine AtT.zn tk3 ?_ | refine AtT.zq tk3 ?_)
  all_goals first|refine AtT.zi ?_|refine AtT.ze ?_|(refine AtT.qZ ?_)
  all_goals first|refine AtT.zi ?_|refine AtT.ze ?_|(first | refine AtT.zk qK ?_ | with_reducible refine AtT.zm qK ?_ | refine AtT.zo qK ?_)
  all_goals first|refine AtT.zi ?_|refine AtT.ze ?_|(refine AtT.jh Tryz.underlying55 tk3 ?_)
  all_goals first|refine AtT.zi ?_|refine AtT.ze ?_|(refine AtT.load rfl ⟨_,_,rfl,rfl,rfl⟩ rfl tk3 hvi (by decide) ?_)
  all_goals first|refine AtT.zi ?_|refine AtT.ze ?_|(first | refine AtT.jD ?_ | refine AtT.jE ?_)
  all_goals first|refine AtT.zi ?_|refine AtT.ze ?_|(refine AtT.zf ?_)
  all_goals first|refine AtT.zi ?_|refine AtT.ze ?_|(refine AtT.qZ ?_)
  all_goals first|refine AtT.zi ?_|refine AtT.ze ?_|(first | refine AtT.zk jU ?_ | with_reducible refine AtT.zm jU ?_ | refine AtT.zo jU ?_)
  all_goals first|refine AtT.zi ?_|refine AtT.ze ?_|(refine AtT.load rfl ⟨_,_,rfl,rfl,rfl⟩ rfl tk25 hkv (by decide) ?_)
  all_goals first|refine AtT.zi ?_|refine AtT.ze ?_|(first | refine AtT.zk qm ?_ | with_reducible refine AtT.zm qm ?_ | refine AtT.zo qm ?_)
  all_goals first|refine AtT.zi ?_|refine AtT.ze ?_|(first | refine AtT.zn tk3 ?_ | refine AtT.zq tk3 ?_)
  all_goals first|refine AtT.zi ?_|refine AtT.ze ?_|(refine AtT.qj Tryz.underlying25 kw ?_);(intro p37 e37 he37 hc37)
  all_goals (obtain rfl:k=e37:=by have:ks[j]? = some e37:=(by simpa using he37); rw[hk]at this; simpa using this)
  all_goals first|refine AtT.zi ?_|refine AtT.ze ?_|(first | refine AtT.zk zT ?_ | with_reducible refine AtT.zm zT ?_ | refine AtT.zo zT ?_)
  all_goals first|refine AtT.zi ?_|refine AtT.ze ?_|(first | refine AtT.zn tk3 ?_ | refine AtT.zq tk3 ?_)
  all_goals first|refine AtT.zi ?_|refine AtT.ze ?_|(refine AtT.kleq ?_)
  all_goals (refine AtT.zH ?_)
  all_goals (refine AtT.zg ?_)
  all_goals refine AtT.done ?_
  all_goals (refine At.nrm ?_)
  refine At.qf rfl (.tmp rfl) ?_
  rw[hcb]
  exact congrArg Value.bool (decide_eq_decide.2 ⟨fun h=>⟨by omega,h⟩,fun h=>h.2⟩)
 ·refine At.draw (.q 0 (.q 1 (.q 2 (.q 3 (.q 4 (.q 5 (.q 6 (.q 7 (.q 8 (.q 9 (.q 10 (.q 11 (.q 12 (.q 13 (.q 14 (.q 15 (.q 16 (.q 17 (.q 18 (.q 19 (.q 20 (.q 21 (.q 22 (.q 23 (.q 24 (.q 25 (.q 26 (.q 27 (.q 28 (.q 29 (.q 30 (.q 31 (.q 32 (.q 33 .done)))))))))))))))))))))))))))))))))) ffm (by kernel_rfl) ?_
  refine AtT.zf ?_
  refine AtT.zf ?_
  refine AtT.qZ ?_
  first | refine AtT.zk fo59_0 ?_ | with_reducible refine AtT.zm fo59_0 ?_ | refine AtT.zo fo59_0 ?_
  first | refine AtT.zk zI ?_ | with_reducible refine AtT.zm zI ?_ | refine AtT.zo zI ?_
  refine AtT.load rfl trivial rfl tk3 hnv (by decide) ?_
  refine AtT.kleq ?_
  refine AtT.qx (d:=15) rfl ((by omega)) ?_
  refine AtT.zf ?_
  all_goals (first | refine AtT.kL 16 ?_ | refine AtT.zF (d:=16) rfl (fun hg16=>?_) (fun hg16=>?_) | refine AtT.zD (d:=16) rfl (fun hg16=>?_) (fun hg16=>?_))
  all_goals first|refine AtT.zi ?_|refine AtT.ze ?_|(refine AtT.zf ?_)
  all_goals first|refine AtT.zi ?_|refine AtT.ze ?_|(refine AtT.zf ?_)
  all_goals first|refine AtT.zi ?_|refine AtT.ze ?_|(refine AtT.qZ ?_)
  all_goals first|refine AtT.zi ?_|refine AtT.ze ?_|(first | refine AtT.zk qK ?_ | with_reducible refine AtT.zm qK ?_ | refine AtT.zo qK ?_)
  all_goals first|refine AtT.zi ?_|refine AtT.ze ?_|(refine AtT.jh Tryz.underlying55 tk3 ?_)
  all_goals first|refine AtT.zi ?_|refine AtT.ze ?_|(first | refine AtT.zn tk3 ?_ | refine AtT.zq tk3 ?_)
  all_goals first|refine AtT.zi ?_|refine AtT.ze ?_|(refine AtT.zf ?_)
  all_goals first|refine AtT.zi ?_|refine AtT.ze ?_|(first | refine AtT.zk qW ?_ | with_reducible refine AtT.zm qW ?_ | refine AtT.zo qW ?_)
  all_goals first|refine AtT.zi ?_|refine AtT.ze ?_|(first | refine AtT.zn tk3 ?_ | refine AtT.zq tk3 ?_)
  all_goals first|refine AtT.zi ?_|refine AtT.ze ?_|(refine AtT.qZ ?_)
  all_goals first|refine AtT.zi ?_|refine AtT.ze ?_|(first | refine AtT.zk qK ?_ | with_reducible refine AtT.zm qK ?_ | refine AtT.zo qK ?_)
  all_goals first|refine AtT.zi ?_|refine AtT.ze ?_|(refine AtT.jh Tryz.underlying55 tk3 ?_)
  all_goals first|refine AtT.zi ?_|refine AtT.ze ?_|(first | refine AtT.zn tk3 ?_ | refine AtT.zq tk3 ?_)
  all_goals first|refine AtT.zi ?_|refine AtT.ze ?_|(first | refine AtT.jD ?_ | refine AtT.jE ?_)
  all_goals first|refine AtT.zi ?_|refine AtT.ze ?_|(refine AtT.zf ?_)
  all_goals first|refine AtT.zi ?_|refine AtT.ze ?_|(refine AtT.qZ ?_)
  all_goals first|refine AtT.zi ?_|refine AtT.ze ?_|(first | refine AtT.zk jU ?_ | with_reducible refine AtT.zm jU ?_ | refine AtT.zo jU ?_)
  all_goals first|refine AtT.zi ?_|refine AtT.ze ?_|(first | refine AtT.zn tk25 ?_ | refine AtT.zq tk25 ?_)
  all_goals first|refine AtT.zi ?_|refine AtT.ze ?_|(first | refine AtT.zk qm ?_ | with_reducible refine AtT.zm qm ?_ | refine AtT.zo qm ?_)
  all_goals first|refine AtT.zi ?_|refine AtT.ze ?_|(first | refine AtT.zn tk3 ?_ | refine AtT.zq tk3 ?_)
  all_goals first|refine AtT.zi ?_|refine AtT.ze ?_|(refine AtT.qj Tryz.underlying25 kw ?_);(intro p37 e37 he37 hc37)
  all_goals first|refine AtT.zi ?_|refine AtT.ze ?_|(first | refine AtT.zk zT ?_ | with_reducible refine AtT.zm zT ?_ | refine AtT.zo zT ?_)
  all_goals first|refine AtT.zi ?_|refine AtT.ze ?_|(first | refine AtT.zn tk3 ?_ | refine AtT.zq tk3 ?_)
  all_goals first|refine AtT.zi ?_|refine AtT.ze ?_|(refine AtT.kleq ?_)
  all_goals (refine AtT.zH ?_)
  all_goals (refine AtT.zg ?_)
  all_goals refine AtT.done ?_
  all_goals (refine At.nrm ?_)
  refine At.qf rfl (.tmp rfl) ?_
  rw[hcb,decide_eq_false (by omega)]
  rfl
theorem more_f (x y:Int) (V:View):Fnc Tryz.prog 96 ([]++[iv x,iv y]++[]) V fun r _=>r=.bool (decide (y<x)):=by
 refine qa Tryz.func96 rfl Tryz.ntmps96 (Nat.le_of_ble_eq_true rfl) ?_
 intro w0 hw0
 refine At.nrm ?_
 refine At.zh (.q 0 .done) ?_
 refine AtT.zg ?_
 refine AtT.done ?_
 refine At.nrm ?_
 refine At.zh (.q 0 (.q 1 (.q 2 (.q 3 .done)))) ?_
 refine AtT.zf ?_
 refine AtT.zf ?_
 refine AtT.qA ?_
 refine AtT.zg ?_
 refine AtT.done ?_
 refine At.nrm ?_
 exact At.qf rfl (.tmp rfl) rfl
theorem best2_f (x y:Int) (V:View) (v:Value) (hs:SlI V v [x,y]):Fnc Tryz.prog 97 [v,.func (.func 96) #[] #[]] V fun r _=>r=iv (max x y):=by
 have h2:([x,y]:List Int).length=2:=rfl
 refine qa Tryz.func97 rfl Tryz.ntmps97 (Nat.le_of_ble_eq_true rfl) ?_
 intro w0 hw0
 refine At.nrm ?_
 refine At.zh (.q 0 .done) ?_
 refine AtT.zg ?_
 refine AtT.done ?_
 refine At.nrm ?_
 refine At.zh (.q 0 (.q 1 (.q 2 (.q 3 .done)))) ?_
 refine AtT.zf ?_
 have hpos:(0:Int)<(([x,y]:List Int).length:Int):=by simp
 refine AtT.qj Tryz.underlying36 tk2 ?_
 intro p9 e9 he9 hc9
 obtain rfl:x=e9:=by simpa using he9
 first | refine AtT.zn tk2 ?_ | refine AtT.zq tk2 ?_
 refine AtT.zg ?_
 refine AtT.done ?_
 refine At.nrm ?_
 refine At.zh (.q 0 (.q 1 (.q 2 (.q 3 .done)))) ?_
 refine AtT.zf ?_
 have hpos1:(1:Int)≤(([x,y]:List Int).length:Int):=by simp
 refine AtT.ktail Tryz.underlying36 tk2 ?_
 intro a12 c12 hs12
 first | refine AtT.zW Tryz.underlying36 ?_ | refine AtT.zX Tryz.underlying36 ?_
 refine AtT.zf ?_
 refine AtT.done ?_
 refine At.nrm ?_
 refine At.lp (ι:=Nat) (KS:=fun k=>[(1,.func (.func 96) #[] #[]),(5,iv (if k=0 then x else max x y)),(12,.slice a12 1 c12),(13,iv 1),(14,iv k)])
  (OS:=fun _=>[]) (VS:=fun k V'=>V'=V∧k≤1) (μ:=fun k=>1-k) 0 ?_ ?_ ?_ ?_
 ·exact⟨rfl,rfl,rfl,rfl,rfl,trivial⟩
 ·exact Pt.zC
 ·exact⟨rfl,by decide⟩
 rintro k V' ks' O' ⟨rfl,hkl⟩ hk hO hll
 subst hk hO
 have hs':SlI V' (.slice a12 1 c12) [y]:=hs12
 refine At.nrm ?_
 refine At.zh (.q 0 .done) ?_
 refine AtT.qd ?_
 refine AtT.done ?_
 refine At.nrm ?_
 refine At.qb rfl (fun hc=>?_) (fun hc=>?_)
 ·obtain rfl:k=0:=by omega
  have h1:((0:Nat):Int)<(([y]:List Int).length:Int):=by simp
  refine At.nrm ?_
  refine At.zh (.q 0 (.q 1 (.q 2 .done))) ?_
  refine AtT.qj Tryz.underlying36 tk2 ?_
  intro p16 e16 he16 hc16
  obtain rfl:y=e16:=by simpa using he16
  first | refine AtT.zn tk2 ?_ | refine AtT.zq tk2 ?_
  refine AtT.zg ?_
  refine AtT.done ?_
  refine At.nrm ?_
  refine At.zh (.q 0 (.q 1 (.q 2 (.n false 3 .done)))) ?_
  refine AtT.zf ?_
  refine AtT.zf ?_
  refine AtT.zf ?_
  refine AtT.kcallV rfl rfl rfl ok96 (more_f y x _) ?_
  rintro _ rfl
  refine AtT.done ?_
  refine At.nrm ?_
  refine At.qb rfl (fun hq=>?_) (fun hq=>?_)
  ·refine At.nrm ?_
   refine At.zh (.q 0 (.q 1 .done)) ?_
   refine AtT.zf ?_
   refine AtT.zg ?_
   refine AtT.done ?_
   refine At.nrm ?_
   refine At.nrm ?_
   refine At.zh (.q 0 (.q 1 .done)) ?_
   first | refine AtT.ql ?_ | refine AtT.zP ?_
   refine AtT.zf ?_
   refine AtT.done ?_
   refine At.nrm ?_
   refine At.round 1 ?_ ?_ ?_ ?_
   ·show 1-1<1-0; omega
   ·exact⟨rfl,by decide⟩
   ·exact⟨rfl,ivs (by rw[if_neg (by decide)]; omega),rfl,rfl,rfl,trivial⟩
   ·exact Pt.zC
  ·refine At.nrm ?_
   refine At.zh (.q 0 (.q 1 .done)) ?_
   first | refine AtT.ql ?_ | refine AtT.zP ?_
   refine AtT.zf ?_
   refine AtT.done ?_
   refine At.nrm ?_
   refine At.round 1 ?_ ?_ ?_ ?_
   ·show 1-1<1-0; omega
   ·exact⟨rfl,by decide⟩
   ·exact⟨rfl,ivs (by rw[if_pos rfl,if_neg (by decide)]; omega),rfl,rfl,rfl,trivial⟩
   ·exact Pt.zC
 ·obtain rfl:k=1:=by omega
  refine At.nrm ?_
  refine At.zh (.q 0 (.q 1 .done)) ?_
  refine AtT.zf ?_
  refine AtT.zg ?_
  refine AtT.done ?_
  refine At.nrm ?_
  exact At.qf rfl (.tmp rfl) rfl
theorem sheets_f (b0 i:Nat) (V:View):Fnc Tryz.prog 46 [.pointer (some ⟨b0,0,none⟩),iv i] V fun r V'=>∃ q2 q3:Addr,r=.func (.func 98) #[] #[.pointer (some q2),.pointer (some q3)]∧Cells V' q2 [.pointer (some ⟨b0,0,none⟩)]∧Cells V' q3 [iv i]:=by
 refine qa Tryz.func46 rfl Tryz.ntmps46 (Nat.le_of_ble_eq_true rfl) ?_
 intro w0 hw0
 refine At.nrm ?_
 refine At.zh (.n false 0 (.n false 1 (.q 2 .done))) ?_
 refine AtT.jA ?_
 intro b2
 refine AtT.jA ?_
 intro b3
 refine AtT.zg ?_
 refine AtT.done ?_
 refine At.nrm ?_
 refine At.giveB (b:=b2) zM.zC ?_
 intro V1 hV1 hb1
 refine At.giveB (b:=b3) zM.zC ?_
 intro V2 hV2 hb2
 refine At.zh (.q 0 (.q 1 .done)) ?_
 refine AtT.kfn ?_
 refine AtT.zg ?_
 refine AtT.done ?_
 refine At.nrm ?_
 exact At.qf rfl (.tmp rfl) ⟨_,_,rfl,(qp hb1).le hV2,qp hb2⟩
def ysC (n:Nat) (f:List Int) (ks:List Kd) (i:Nat):List (List Value):=(shL n f ks i ks.length).map fun j=>[sv2 i j]
theorem iterC_f (b0 n:Nat) (a:Option Addr) (f:List Int) (c:Nat) (kv:Value) (ks:List Kd) (hks:KdOk ks) (hn:n≤24) (i:Nat) (hi:i≤n) (q2 q3:Addr) :
  ItW Tryz.prog 98 [.pointer (some q2),.pointer (some q3)] (fun V=>Cells V q2 [.pointer (some ⟨b0,0,none⟩)]∧Cells V q3 [iv i]∧TbV V b0 n a f c kv ks) (ysC n f ks i):=by
 refine itW_of Tryz.func98 rfl Tryz.ntmps98 (Nat.le_of_ble_eq_true rfl) rfl ?_
 rintro l J E w0 H ⟨hq2,hq3,F,A,B,hb,hF,hft,hs⟩ hJ
 have hkn:=hks.n
 obtain⟨ak,ck,rfl,k1,k2,_⟩:=id hs
 clear k1 k2
 have hkv:jd (hp w0) ⟨b0,0+2,none⟩=some (.slice ak ks.length ck):=by rw[vc_of hb]; rfl
 refine At.nrm ?_
 refine At.zh (.q 0 (.q 1 (.q 2 (.q 3 (.q 4 (.q 5 .done)))))) ?_
 first | refine AtT.zn qD ?_ | refine AtT.zq qD ?_
 refine AtT.qZ ?_
 first | refine AtT.zk jU ?_ | with_reducible refine AtT.zm jU ?_ | refine AtT.zo jU ?_
 refine AtT.load rfl trivial rfl tk25 hkv (by decide) ?_
 first | refine AtT.zW Tryz.underlying25 ?_ | refine AtT.zX Tryz.underlying25 ?_
 refine AtT.zf ?_
 refine AtT.done ?_
 refine At.nrm ?_
 refine At.lpW H (ι:=Nat) (fun k=>k≤ks.length) (fun k=>[(0,.func (.yield l) #[] #[]),(1,.pointer (some q2)),(2,.pointer (some q3)),(10,iv ks.length),(11,iv k)]) (fun k=>(shL n f ks i k).length) (fun k=>ks.length-k) 0 (Nat.zero_le _) ⟨rfl,rfl,rfl,rfl,rfl,trivial⟩ hJ ?_
 rintro m w ks' hkl ⟨hq2',hq3',hb'⟩ hJ rfl
 refine At.nrm ?_
 refine At.zh (.q 0 .done) ?_
 refine AtT.qd ?_
 refine AtT.done ?_
 refine At.nrm ?_
 refine At.qb rfl (fun hp=>?_) (fun hp=>?_)
 rotate_left
 ·obtain rfl:m=ks.length:=by omega
  refine At.nrm ?_
  exact At.itEndW H (.inl rfl) rfl (.inl (by rw[ysC,List.length_map]; exact hJ))
 obtain⟨k,hk⟩:∃ k,ks[m]? = some k:=⟨_,List.getElem?_eq_getElem (by omega)⟩
 have hkb:=hks.k k (List.mem_of_getElem? hk)
 have hsn:=shL_succ n f ks i m k hk
 have hp':m<ks.length:=by omega
 refine At.nrm ?_
 refine At.zh (.q 0 (.q 1 .done)) ?_
 refine AtT.zf ?_
 refine AtT.zg ?_
 refine AtT.done ?_
 refine At.nrm ?_
 refine At.nrm ?_
 refine At.zh (.q 0 (.q 1 (.q 2 (.n false 3 (.n true 4 .done))))) ?_
 first | refine AtT.zn tk3 ?_ | refine AtT.zq tk3 ?_
 refine AtT.zf ?_
 refine AtT.kbuild (bd43_0_1 _ _) ?_
 refine AtT.qE z43 ?_
 intro b5
 refine AtT.zU qY ?_
 refine AtT.done ?_
 refine At.nrm ?_
 by_cases hc:canB n f i k=true
 ·rw[if_pos hc]at hsn
  have hlen:(shL n f ks i (m+1)).length=(shL n f ks i m).length+1:=by rw[hsn,List.length_append]; rfl
  have hys:(ysC n f ks i)[(shL n f ks i m).length]? = some [sv2 i m]:=by
   rw[ysC,List.getElem?_map,shL_at hp' hk hc]; rfl
  refine At.zh (.q 0 (.q 1 (.n false 2 (.q 3 (.q 4 (.q 5 (.n true 6 (.q 7 (.q 8 .done))))))))) ?_
  first | refine AtT.zn qD ?_ | refine AtT.zq qD ?_
  first | refine AtT.zL qY ?_ | refine AtT.zS qY ?_ | refine AtT.zK qY ?_
  refine AtT.kcallL rfl rfl ok99 (fun VL hVL hOL=>can_f b0 n a f c _ ks i m k hk ⟨hkb.1,hkb.2.1,hkb.2.2.2.2.1⟩ hn hi VL (by obtain⟨F',A',B',h1,h2,h3,h4⟩:=hb'; exact⟨F',A',B',hVL _ _ h1,h2,h3,h4.le hVL⟩)) ?_
  rintro _ rfl
  refine AtT.setB (d:=19) rfl (hc) ?_
  refine AtT.zf ?_
  all_goals (first | refine AtT.kL 20 ?_ | refine AtT.zF (d:=20) rfl (fun hg20=>?_) (fun hg20=>?_) | refine AtT.zD (d:=20) rfl (fun hg20=>?_) (fun hg20=>?_))
  all_goals first|refine AtT.zi ?_|refine AtT.ze ?_|(refine AtT.zf ?_)
  all_goals first|refine AtT.zi ?_|refine AtT.ze ?_|(first | refine AtT.zL qY ?_ | refine AtT.zS qY ?_ | refine AtT.zK qY ?_)
  all_goals (first | refine AtT.jq ?_ | refine AtT.qP ?_ | ((refine AtT.yieldW rfl ⟨_,_,rfl,rfl,rfl⟩ rfl rfl H (hys) (hJ) (by decide) ?_ ?_))<;>(intro w23 hJ23))
  all_goals first|refine AtT.zi ?_|refine AtT.ze ?_|(refine AtT.knot ?_)
  all_goals (refine AtT.zH ?_)
  all_goals refine AtT.done ?_
  all_goals (refine At.nrm ?_)
  rotate_left
  ·refine At.jo rfl rfl ?_
   refine At.nrm ?_
   exact At.itEndW H (.inr rfl) rfl (.inr hJ23)
  refine At.qh rfl rfl ?_
  refine At.nrm ?_
  refine At.zh (.q 0 (.q 1 .done)) ?_
  first | refine AtT.ql ?_ | refine AtT.zP ?_
  refine AtT.zf ?_
  refine AtT.done ?_
  refine At.nrm ?_
  refine At.roundW H (m+1) ?_ (by omega) ?_ (by dsimp only; rw[hlen]; exact hJ23.1)
  ·show ks.length-(m+1)<ks.length-m; omega
  ·exact⟨rfl,rfl,rfl,rfl,ivs (by push_cast; omega),trivial⟩
 ·rw[if_neg hc]at hsn
  have hc':canB n f i k=false:=by simpa using hc
  refine At.zh (.q 0 (.q 1 (.n false 2 (.q 3 (.q 4 (.q 5 (.n false 6 (.q 7 (.q 8 .done))))))))) ?_
  first | refine AtT.zn qD ?_ | refine AtT.zq qD ?_
  first | refine AtT.zL qY ?_ | refine AtT.zS qY ?_ | refine AtT.zK qY ?_
  refine AtT.kcallL rfl rfl ok99 (fun VL hVL hOL=>can_f b0 n a f c _ ks i m k hk ⟨hkb.1,hkb.2.1,hkb.2.2.2.2.1⟩ hn hi VL (by obtain⟨F',A',B',h1,h2,h3,h4⟩:=hb'; exact⟨F',A',B',hVL _ _ h1,h2,h3,h4.le hVL⟩)) ?_
  rintro _ rfl
  refine AtT.setB (d:=19) rfl (hc') ?_
  refine AtT.zf ?_
  all_goals (first | refine AtT.kL 20 ?_ | refine AtT.zF (d:=20) rfl (fun hg20=>?_) (fun hg20=>?_) | refine AtT.zD (d:=20) rfl (fun hg20=>?_) (fun hg20=>?_))
  all_goals first|refine AtT.zi ?_|refine AtT.ze ?_|(refine AtT.zf ?_)
  all_goals first|refine AtT.zi ?_|refine AtT.ze ?_|(first | refine AtT.zL qY ?_ | refine AtT.zS qY ?_ | refine AtT.zK qY ?_)
  all_goals first|refine AtT.jq ?_|refine AtT.qP ?_|((fail))
  all_goals first|refine AtT.zi ?_|refine AtT.ze ?_|(refine AtT.knot ?_)
  all_goals (refine AtT.zH ?_)
  all_goals refine AtT.done ?_
  all_goals (refine At.nrm ?_)
  refine At.qh rfl rfl ?_
  refine At.nrm ?_
  refine At.zh (.q 0 (.q 1 .done)) ?_
  first | refine AtT.ql ?_ | refine AtT.zP ?_
  refine AtT.zf ?_
  refine AtT.done ?_
  refine At.nrm ?_
  refine At.roundW H (m+1) ?_ (by omega) ?_ (by dsimp only; rw[hsn]; exact hJ)
  ·show ks.length-(m+1)<ks.length-m; omega
  ·exact⟨rfl,rfl,rfl,rfl,ivs (by push_cast; omega),trivial⟩
end Go.Proofs.YtmdcedioddchfaaGreatDoor.C
end
section
set_option linter.unusedVariables false
namespace Go.Proofs.YtmdcedioddchfaaGreatDoor.C
open Go.Lw Go.Ps Go.Cc Go.RowKit
open Go.Gl (iv ivs qy)
theorem slice583 (b:Nat) (w:World):(Instr.sliceAt 55 (.pointer (some ⟨b,0+3,none⟩)) none none none).run Tryz.prog w=.ok (.slice (some ⟨b,3,none⟩) 25 25) w:=by kernel_rfl
abbrev jQ:List Int:=List.replicate 25 0
structure FtI (f:List Int) (i:Nat) (F:List Int):Prop where
 len:F.length=25
 at':∀ j,j≤i→F[j]? = some (ftN f j:Int)
theorem FtI.start (f:List Int):FtI f 0 jQ:=⟨rfl,fun j hj=>by rw[show j=0 by omega]; rfl⟩
theorem FtI.step {f F:List Int} {i:Nat} (h:FtI f i F) (hi:i<24):FtI f (i+1) (F.set (i+1) (ftN f (i+1):Int)):=by
 have hl:=h.len
 refine⟨by rw[List.length_set]; exact hl,fun j hj=>?_⟩
 by_cases e:j=i+1
 ·subst e; rw[List.getElem?_set_self (by omega)]
 ·rw[List.getElem?_set_ne (fun c=>e c.symm)]; exact h.at' j (by omega)
set_option maxHeartbeats 3200000 in
theorem newTable_f (n:Nat) (a:Option Addr) (f:List Int) (c:Nat) (hf:RbOk n f) (ks:List Kd) (hks:KdOk ks) (V:View) (kv:Value) (hs:SlI V (.slice a f.length c) f) (hk:Sl V kde 3 kv ks) :
  Fnc Tryz.prog 45 [rbv n a f c,kv] V fun r V'=>∃ b0 F A B,r=.pointer (some ⟨b0,0,none⟩)∧V' b0=some (LC (tbc n a f c kv F A B) 59)∧F.length=25∧(∀ i,i≤n→F[i]? = some (ftN f i:Int))∧AhI n f ks n [] A∧BhP n f ks 0 B:=by
 have hlen:=hs.qV
 have hlenk:=hk.qV
 have hn:=hf.nb
 have hkn:=hks.n
 have hkw:∀ k∈ks,1≤k.w:=fun k hk=>(hks.k k hk).1
 obtain⟨ak,ck,rfl,k1,k2,_⟩:=id hk
 clear k1 k2
 refine fn_ofM Tryz.func45 rfl Tryz.ntmps45 (Nat.le_of_ble_eq_true rfl) ?_
 intro w0 hw0
 refine At.nrm ?_
 refine At.zh (.n false 0 (.n false 1 (.q 2 .done))) ?_
 refine AtT.jA ?_
 intro b2
 refine AtT.jA ?_
 intro b3
 refine AtT.zg ?_
 refine AtT.done ?_
 refine At.nrm ?_
 refine At.zh (.q 0 (.q 1 (.q 2 (.n false 3 (.n false 4 (.n true 5 .done)))))) ?_
 first | refine AtT.zL qR ?_ | refine AtT.zS qR ?_ | refine AtT.zK qR ?_
 first | refine AtT.zn tk25 ?_ | refine AtT.zq tk25 ?_
 refine AtT.kbuild (bd59_0_1 _ _ _ _ _ _ _) ?_
 refine AtT.jA ?_
 intro b16
 refine AtT.qE z52 ?_
 intro b5
 first | refine AtT.qX qD ?_ | refine AtT.zU qD ?_
 refine AtT.done ?_
 refine At.nrm ?_
 refine At.zh (.q 0 (.q 1 (.q 2 (.q 3 (.n true 4 .done))))) ?_
 first | refine AtT.zn qD ?_ | refine AtT.zq qD ?_
 refine AtT.qZ ?_
 first | refine AtT.zk qK ?_ | with_reducible refine AtT.zm qK ?_ | refine AtT.zo qK ?_
 refine AtT.slV rfl trivial rfl (slice583 b16) (by decide) ?_
 refine AtT.clearAt rfl trivial Tryz.underlying22 z3 rfl (by kernel_rfl) (Nat.le_of_ble_eq_true rfl) (by rfl) (by rfl) (by repeat first|exact Upd.here|apply Upd.there) ?_ (us:=flat ei jQ) (cs:=tbc n a f c (.slice ak ks.length ck) jQ jQ jQ) (xs:=tbc n a f c (.slice ak ks.length ck) jQ jQ jQ)
 refine AtT.done ?_
 refine At.nrm ?_
 refine At.zh (.q 0 (.q 1 (.q 2 .done))) ?_
 first | refine AtT.zk zI ?_ | with_reducible refine AtT.zm zI ?_ | refine AtT.zo zI ?_
 first | refine AtT.zn tk3 ?_ | refine AtT.zq tk3 ?_
 refine AtT.zf ?_
 refine AtT.done ?_
 refine At.nrmB ?_
 refine At.cutG (ι:=List Int) (fun _=>[(2,.pointer (some ⟨b2,0,none⟩)),(3,.pointer (some ⟨b3,0,none⟩)),(5,.pointer (some ⟨b5,0,none⟩))])
  (fun F=>[.blk b16 (LC (tbc n a f c (.slice ak ks.length ck) F jQ jQ) 59),.blk b5 (LC [.pointer (some ⟨b16,0,none⟩)] 52),.blk b3 (LC [.slice ak ks.length ck] 25),.blk b2 (LC [iv n,.slice a f.length c] 24)]) (fun F V'=>V'=V∧FtI f n F) ?_ ?_
 ·refine At.nrm ?_
  refine At.lp (ι:=Nat×List Int) (KS:=fun g=>[(2,.pointer (some ⟨b2,0,none⟩)),(3,.pointer (some ⟨b3,0,none⟩)),(5,.pointer (some ⟨b5,0,none⟩)),(22,iv n),(23,iv g.1)])
   (OS:=fun g=>[.blk b16 (LC (tbc n a f c (.slice ak ks.length ck) g.2 jQ jQ) 59),.blk b5 (LC [.pointer (some ⟨b16,0,none⟩)] 52),.blk b3 (LC [.slice ak ks.length ck] 25),.blk b2 (LC [iv n,.slice a f.length c] 24)])
   (VS:=fun g V'=>V'=V∧g.1≤n∧FtI f g.1 g.2) (μ:=fun g=>n-g.1) (0,jQ) ?_ ?_ ?_ ?_
  ·exact⟨rfl,rfl,rfl,rfl,rfl,trivial⟩
  ·exact Pt.zC
  ·exact⟨rfl,Nat.zero_le _,FtI.start f⟩
  rintro⟨i,F⟩ V1 ks' O' ⟨rfl,hi,hF⟩ hk' hO hl
  dsimp only at hi hF hk' hO
  subst hk' hO
  have hFl:=hF.len
  refine At.nrm ?_
  refine At.zh (.q 0 .done) ?_
  refine AtT.qd ?_
  refine AtT.done ?_
  refine At.nrm ?_
  refine At.qb rfl (fun hc=>?_) (fun hc=>?_)
  rotate_left
  ·obtain rfl:i=n:=by omega
   refine At.nrm ?_
   exact At.meetG F ⟨rfl,hF⟩ ⟨rfl,rfl,rfl,trivial⟩ Pt.zC
  have hin:i<n:=by omega
  have e1:(i:Int)+1=((i+1:Nat):Int):=by omega
  have hat:=tbc_f (n:=n) (a:=a) (f:=f) (c:=c) (kv:=.slice ak ks.length ck) (A:=jQ) (B:=jQ) (hF.at' i (Nat.le_refl _))
  have hset:=tbs_f (n:=n) (a:=a) (f:=f) (c:=c) (kv:=.slice ak ks.length ck) (A:=jQ) (B:=jQ) (F:=F) (i:=i+1) (ftN f i:Int) (by omega)
  have hft:=ftN_succ f i
  have hfl:=ftN_le f i
  refine At.nrm ?_
  refine At.zh (.q 0 (.q 1 .done)) ?_
  refine AtT.zf ?_
  refine AtT.zg ?_
  refine AtT.done ?_
  refine At.nrm ?_
  refine At.draw (.q 0 (.q 1 (.q 2 (.q 3 (.q 4 (.q 5 (.q 6 (.q 7 (.q 8 (.q 9 (.q 10 (.q 11 (.n true 12 .done))))))))))))) ffm (by kernel_rfl) ?_
  first | refine AtT.zn qD ?_ | refine AtT.zq qD ?_
  refine AtT.zf ?_
  first | refine AtT.ql ?_ | refine AtT.zP ?_
  rw[e1]
  first | refine AtT.zn qD ?_ | refine AtT.zq qD ?_
  refine AtT.zf ?_
  refine AtT.qZ ?_
  first | refine AtT.zk qK ?_ | with_reducible refine AtT.zm qK ?_ | refine AtT.zo qK ?_
  refine AtT.jh Tryz.underlying55 tk3 ?_
  rw[Int.toNat_natCast]
  refine AtT.jK rfl trivial rfl tk3 zM.zC hat (by decide) ?_
  refine AtT.qZ ?_
  first | refine AtT.zk qK ?_ | with_reducible refine AtT.zm qK ?_ | refine AtT.zo qK ?_
  refine AtT.jh Tryz.underlying55 tk3 ?_
  rw[Int.toNat_natCast]
  refine AtT.store1 rfl trivial rfl rfl tk3 rfl rfl (by repeat first|exact Upd.here|apply Upd.there) hset ?_
  refine AtT.done ?_
  refine At.nrm ?_
  refine At.zh (.q 0 (.q 1 (.q 2 (.n false 3 .done)))) ?_
  first | refine AtT.zk zB ?_ | with_reducible refine AtT.zm zB ?_ | refine AtT.zo zB ?_
  first | refine AtT.zn qH ?_ | refine AtT.zq qH ?_
  refine AtT.zf ?_
  refine AtT.zR rfl rfl ok95 (contains_f f i _ _ hs) ?_
  rintro _ rfl
  refine AtT.done ?_
  refine At.nrmB ?_
  refine At.cutG (ι:=Unit) (fun _=>[(2,.pointer (some ⟨b2,0,none⟩)),(3,.pointer (some ⟨b3,0,none⟩)),(5,.pointer (some ⟨b5,0,none⟩)),(22,iv n),(23,iv i)])
   (fun _=>[.blk b16 (LC (tbc n a f c (.slice ak ks.length ck) (F.set (i+1) (ftN f (i+1):Int)) jQ jQ) 59),.blk b5 (LC [.pointer (some ⟨b16,0,none⟩)] 52),.blk b3 (LC [.slice ak ks.length ck] 25),.blk b2 (LC [iv n,.slice a f.length c] 24)]) (fun _ V'=>V'=V1) ?_ ?_
  ·refine At.qb rfl (fun hm=>?_) (fun hm=>?_)
   ·rw[if_pos hm]at hft
    have hat2:=tbc_f (n:=n) (a:=a) (f:=f) (c:=c) (kv:=.slice ak ks.length ck) (A:=jQ) (B:=jQ) (F:=F.set (i+1) (ftN f i:Int)) (i:=i+1) (x:=(ftN f i:Int)) (List.getElem?_set_self (by omega))
    have hset2:=tbs_f (n:=n) (a:=a) (f:=f) (c:=c) (kv:=.slice ak ks.length ck) (A:=jQ) (B:=jQ) (F:=F.set (i+1) (ftN f i:Int)) (i:=i+1) ((ftN f i:Int)+1) (by rw[List.length_set]; omega)
    refine At.nrm ?_
    refine At.draw (.q 0 (.q 1 (.q 2 (.q 3 (.q 4 (.q 5 (.q 6 (.q 7 (.q 8 (.q 9 (.q 10 (.n true 11 .done)))))))))))) ffm (by kernel_rfl) ?_
    first | refine AtT.zn qD ?_ | refine AtT.zq qD ?_
    refine AtT.zf ?_
    first | refine AtT.ql ?_ | refine AtT.zP ?_
    rw[e1]
    refine AtT.qZ ?_
    first | refine AtT.zk qK ?_ | with_reducible refine AtT.zm qK ?_ | refine AtT.zo qK ?_
    refine AtT.jh Tryz.underlying55 tk3 ?_
    rw[Int.toNat_natCast]
    refine AtT.jK rfl trivial rfl tk3 zM.zC hat2 (by decide) ?_
    first | refine AtT.ql ?_ | refine AtT.zP ?_
    refine AtT.qZ ?_
    first | refine AtT.zk qK ?_ | with_reducible refine AtT.zm qK ?_ | refine AtT.zo qK ?_
    refine AtT.jh Tryz.underlying55 tk3 ?_
    rw[Int.toNat_natCast]
    refine AtT.store1 rfl trivial rfl rfl tk3 rfl rfl (by repeat first|exact Upd.here|apply Upd.there) hset2 ?_
    refine AtT.done ?_
    refine At.nrm ?_
    refine At.meetG () rfl ⟨rfl,rfl,rfl,rfl,rfl,trivial⟩ ?_
    rw[List.set_set,show(ftN f i:Int)+1=(ftN f (i+1):Int) by rw[hft]; push_cast; rfl]
    exact Pt.zC
   ·have hft:ftN f (i+1)=ftN f i:=by rw[hft,if_neg hm]; rfl
    refine At.nrm ?_
    refine At.meetG () rfl ⟨rfl,rfl,rfl,rfl,rfl,trivial⟩ ?_
    rw[hft]
    exact Pt.zC
  rintro _ _ ks' O' rfl hk' hO hl2
  subst hk' hO
  refine At.nrm ?_
  refine At.zh (.q 0 (.q 1 .done)) ?_
  first | refine AtT.ql ?_ | refine AtT.zP ?_
  refine AtT.zf ?_
  refine AtT.done ?_
  refine At.nrm ?_
  refine At.round (i+1,F.set (i+1) (ftN f (i+1):Int)) ?_ ?_ ?_ ?_
  ·show n-(i+1)<n-i; omega
  ·exact⟨rfl,hin,hF.step (by omega)⟩
  ·exact⟨rfl,rfl,rfl,rfl,ivs (by push_cast; omega),trivial⟩
  ·exact Pt.zC
 rintro F V0 ks' O' ⟨hVe,hF⟩ hk' hO hl
 obtain rfl:=hVe.symm
 subst hk' hO
 have hFl:=hF.len
 refine At.nrm ?_
 refine At.zh (.n false 0 (.n true 1 .done)) ?_
 refine AtT.qE z131 ?_
 intro b7
 first | refine AtT.qX tk131 ?_ | refine AtT.zU tk131 ?_
 refine AtT.done ?_
 refine At.nrm ?_
 refine At.zh (.q 0 (.q 1 (.q 2 .done))) ?_
 first | refine AtT.zk zI ?_ | with_reducible refine AtT.zm zI ?_ | refine AtT.zo zI ?_
 first | refine AtT.zn tk3 ?_ | refine AtT.zq tk3 ?_
 refine AtT.zf ?_
 refine AtT.done ?_
 refine At.nrm ?_
 refine At.lpD (ι:=Nat×List Nat×List Int) (DS:=fun g=>g.2.1.map mkD) (KS:=fun g=>[(2,.pointer (some ⟨b2,0,none⟩)),(3,.pointer (some ⟨b3,0,none⟩)),(5,.pointer (some ⟨b5,0,none⟩)),(7,.pointer (some ⟨b7,0,none⟩)),(55,iv n),(56,iv g.1)]) (OS:=fun g=>.blk b16 (LC (tbc n a f c (.slice ak ks.length ck) F g.2.2 jQ) 59)::.blk b5 (LC [.pointer (some ⟨b16,0,none⟩)] 52)::.blk b3 (LC [.slice ak ks.length ck] 25)::.blk b2 (LC [iv n,.slice a f.length c] 24)::.blk b7 (LC [.func (.func 96) #[] #[]] 131)::g.2.1.map dfB)
  (VS:=fun g V'=>Le V V'∧g.1≤n∧AhI n f ks g.1 [] g.2.2) (μ:=fun g=>n-g.1) (0,[],jQ) rfl ?_ ?_ ?_ ?_
 ·exact⟨rfl,rfl,rfl,rfl,rfl,rfl,trivial⟩
 ·exact Pt.qg
 ·exact⟨Le.refl _,Nat.zero_le _,AhI.start n f ks⟩
 rintro⟨i,Ds,A⟩ V1 ks' O' ⟨hV1,hi,hA⟩ hk' hO hl2
 dsimp only at hi hA hk' hO
 subst hk' hO
 have hAl:=hA.len
 have hk1:=hk.le hV1
 refine At.nrm ?_
 refine At.zh (.q 0 .done) ?_
 refine AtT.qd ?_
 refine AtT.done ?_
 refine At.nrm ?_
 refine At.qb rfl (fun hc=>?_) (fun hc=>?_)
 ·have hin:i<n:=by omega
  have e1:(i:Int)+1=((i+1:Nat):Int):=by omega
  obtain⟨x,hx⟩:∃ x,A[i]? = some x:=⟨_,List.getElem?_eq_getElem (by omega)⟩
  obtain⟨y,hy⟩:∃ y,A[i+1]? = some y:=⟨_,List.getElem?_eq_getElem (by omega)⟩
  have hatx:=tbc_a (n:=n) (a:=a) (f:=f) (c:=c) (kv:=.slice ak ks.length ck) (F:=F) (B:=jQ) hFl hx
  have haty:=tbc_a (n:=n) (a:=a) (f:=f) (c:=c) (kv:=.slice ak ks.length ck) (F:=F) (B:=jQ) hFl hy
  have hset:=tbs_a (n:=n) (a:=a) (f:=f) (c:=c) (kv:=.slice ak ks.length ck) (F:=F) (B:=jQ) (A:=A) (i:=i+1) (max y x) hFl (by omega)
  obtain⟨hA1,hA1w⟩:=hA.waste (by omega) hin hx hy hkw
  refine At.nrm ?_
  refine At.zh (.q 0 (.n false 1 (.n true 2 .done))) ?_
  refine AtT.zf ?_
  refine AtT.qE z3 ?_
  intro b8
  first | refine AtT.qX tk3 ?_ | refine AtT.zU tk3 ?_
  refine AtT.done ?_
  refine At.nrm ?_
  refine At.draw (.q 0 (.q 1 (.q 2 (.q 3 (.q 4 (.q 5 (.q 6 (.q 7 (.q 8 (.q 9 (.q 10 (.q 11 (.q 12 (.q 13 (.q 14 (.q 15 (.q 17 (.q 19 (.q 20 (.n false 16 (.n false 18 (.q 21 (.n true 22 .done))))))))))))))))))))))) ffm (by kernel_rfl) ?_
  first | refine AtT.zn qD ?_ | refine AtT.zq qD ?_
  first | refine AtT.zn tk3 ?_ | refine AtT.zq tk3 ?_
  first | refine AtT.ql ?_ | refine AtT.zP ?_
  rw[e1]
  first | refine AtT.zn qD ?_ | refine AtT.zq qD ?_
  first | refine AtT.zn tk3 ?_ | refine AtT.zq tk3 ?_
  first | refine AtT.ql ?_ | refine AtT.zP ?_
  rw[e1]
  refine AtT.qZ ?_
  first | refine AtT.zk jf ?_ | with_reducible refine AtT.zm jf ?_ | refine AtT.zo jf ?_
  refine AtT.jh Tryz.underlying57 tk2 ?_
  rw[Int.toNat_natCast]
  refine AtT.jK rfl trivial rfl tk2 zM.zC haty (by decide) ?_
  first | refine AtT.zn qD ?_ | refine AtT.zq qD ?_
  first | refine AtT.zn tk3 ?_ | refine AtT.zq tk3 ?_
  refine AtT.qZ ?_
  first | refine AtT.zk jf ?_ | with_reducible refine AtT.zm jf ?_ | refine AtT.zo jf ?_
  refine AtT.jh Tryz.underlying57 tk2 ?_
  rw[Int.toNat_natCast]
  refine AtT.jK rfl trivial rfl tk2 zM.zC hatx (by decide) ?_
  first | refine AtT.zn tk131 ?_ | refine AtT.zq tk131 ?_
  refine AtT.qZ ?_
  first | refine AtT.zk jf ?_ | with_reducible refine AtT.zm jf ?_ | refine AtT.zo jf ?_
  refine AtT.qz (bs36_2_0_1 _ _) ?_
  intro q75 V75 hV75 hq75
  have g75:Le V V75:=by first | exact hV75 | exact Le.trans (by assumption) hV75
  refine AtT.zR rfl rfl ok97 (best2_f y x _ _ (Sl.lit hq75 rfl (by simp))) ?_
  rintro _ rfl
  refine AtT.jh Tryz.underlying57 tk2 ?_
  rw[Int.toNat_natCast]
  refine AtT.store1 rfl trivial rfl rfl tk2 rfl rfl (by repeat first|exact Upd.here|apply Upd.there) hset ?_
  refine AtT.done ?_
  refine At.nrm ?_
  refine At.zh (.q 0 (.q 1 (.n false 2 .done))) ?_
  first | refine AtT.zn qD ?_ | refine AtT.zq qD ?_
  first | refine AtT.zn tk3 ?_ | refine AtT.zq tk3 ?_
  refine AtT.jM rfl rfl ok46 (sheets_f b16 i _) ?_
  rintro _ V83 hV83 ⟨q2,q3,rfl,hq2,hq3⟩
  refine AtT.done ?_
  refine At.nrm ?_
  have hV83':=(hV1.trans hV75).trans hV83
  refine At.rangeFuncW (ys:=ysC n f ks i) (VI:=fun V=>Cells V q2 [.pointer (some ⟨b16,0,none⟩)]∧Cells V q3 [iv i]∧TbV V b16 n a f c (.slice ak ks.length ck) ks) (ι:=Nat×List Int) (fun g=>g.1)
   (fun g=>.blk b16 (LC (tbc n a f c (.slice ak ks.length ck) F g.2 jQ) 59)::.blk b8 (LC [iv i] 3)::.blk b5 (LC [.pointer (some ⟨b16,0,none⟩)] 52)::.blk b3 (LC [.slice ak ks.length ck] 25)::.blk b2 (LC [iv n,.slice a f.length c] 24)::.blk b7 (LC [.func (.func 96) #[] #[]] 131)::Ds.map dfB)
   (fun g V'=>Le V83 V'∧AhI n f ks i ((shL n f ks i ks.length).take g.1) g.2∧∀ x y:Int,g.2[i]? = some x→g.2[i+1]? = some y→x≤y) (fun _ _ _=>False) rfl ok98 (0,A.set (i+1) (max y x)) rfl ?_ ⟨Le.refl _,hA1,hA1w⟩ (iterC_f b16 n a f c _ ks hks (by omega) i hi q2 q3)
   (fun g V' w hV hm=>⟨(hq2.le hV.1).le hm.view,(hq3.le hV.1).le hm.view,F,g.2,jQ,Mem.at hm zM.here,hFl,hF.at',((hk.le hV83').le hV.1).le hm.view⟩) (by decide) (fun y hy=>by obtain⟨j,_,rfl⟩:=List.mem_map.1 hy; rfl) ?_ ?_ (fun _ _ _ _ h=>h.elim)
  ·exact Pt.qg
  ·rintro⟨m,A'⟩ y' l D r V6 ks' O' hy' ⟨hV6,hA',hAw⟩ hl rfl rfl
   dsimp only at hy' hA' hAw⊢
   obtain⟨j,hj,rfl⟩:∃ j,(shL n f ks i ks.length)[m]? = some j∧y'=[sv2 i j]:=by
    rw[ysC,List.getElem?_map]at hy'
    cases h:(shL n f ks i ks.length)[m]? with
    | none=>rw[h]at hy'; cases hy'
    | some j=>rw[h]at hy'; exact⟨j,rfl,(Option.some.inj hy').symm⟩
   obtain⟨hjl,k,hkj,hck⟩:=shL_mem.1 (List.mem_of_getElem? hj)
   have hkb:=hks.k k (List.mem_of_getElem? hkj)
   have hke:=jH hck hkb.1
   have hAl':=hA'.len
   have hk6:=(hk.le hV83').le hV6
   obtain⟨x',hx'⟩:∃ x,A'[i]? = some x:=⟨_,List.getElem?_eq_getElem (by omega)⟩
   obtain⟨z,hz⟩:∃ z,A'[i+k.w.toNat]? = some z:=⟨_,List.getElem?_eq_getElem (by omega)⟩
   have hbx:=hA'.bd i x' hx'
   have hatx':=tbc_a (n:=n) (a:=a) (f:=f) (c:=c) (kv:=.slice ak ks.length ck) (F:=F) (B:=jQ) hFl hx'
   have hatz:=tbc_a (n:=n) (a:=a) (f:=f) (c:=c) (kv:=.slice ak ks.length ck) (F:=F) (B:=jQ) hFl hz
   have hset':=tbs_a (n:=n) (a:=a) (f:=f) (c:=c) (kv:=.slice ak ks.length ck) (F:=F) (B:=jQ) (A:=A') (i:=i+k.w.toNat) (max z (x'+k.p)) hFl (by omega)
   show At _ _ ((84,sv2 i j)::_) _ _ _
   refine At.nrm ?_
   refine At.zh (.n false 0 (.n true 1 .done)) ?_
   refine AtT.qE z43 ?_
   intro b9
   refine AtT.zU qY ?_
   refine AtT.done ?_
   refine At.nrm ?_
   refine At.begin zM.zC ?_
   refine At.nrm ?_
   refine At.draw (.q 0 (.q 1 (.q 2 (.q 4 (.q 5 (.q 6 (.q 8 (.q 9 (.q 12 (.q 13 (.q 14 (.q 15 (.q 16 (.q 17 (.q 18 (.q 19 (.q 20 (.q 21 (.q 22 (.q 23 (.q 24 (.q 26 (.q 28 (.q 29 (.n false 3 (.n false 7 (.q 10 (.q 11 (.n false 25 (.n false 27 (.q 30 (.n true 31 .done)))))))))))))))))))))))))))))))) ffm (by kernel_rfl) ?_
   first | refine AtT.zn qD ?_ | refine AtT.zq qD ?_
   first | refine AtT.zn qD ?_ | refine AtT.zq qD ?_
   first | refine AtT.zL qY ?_ | refine AtT.zS qY ?_ | refine AtT.zK qY ?_
   first | refine AtT.zn qD ?_ | refine AtT.zq qD ?_
   first | refine AtT.zn qD ?_ | refine AtT.zq qD ?_
   first | refine AtT.zL qY ?_ | refine AtT.zS qY ?_ | refine AtT.zK qY ?_
   refine AtT.qZ ?_
   first | refine AtT.zk jf ?_ | with_reducible refine AtT.zm jf ?_ | refine AtT.zo jf ?_
   first | refine AtT.zn qD ?_ | refine AtT.zq qD ?_
   first | refine AtT.zn tk3 ?_ | refine AtT.zq tk3 ?_
   refine AtT.qZ ?_
   first | refine AtT.zk jf ?_ | with_reducible refine AtT.zm jf ?_ | refine AtT.zo jf ?_
   refine AtT.jh Tryz.underlying57 tk2 ?_
   rw[Int.toNat_natCast]
   refine AtT.jK rfl trivial rfl tk2 zM.zC hatx' (by decide) ?_
   first | refine AtT.zn tk25 ?_ | refine AtT.zq tk25 ?_
   first | refine AtT.zk qm ?_ | with_reducible refine AtT.zm qm ?_ | refine AtT.zo qm ?_
   first | refine AtT.zn tk3 ?_ | refine AtT.zq tk3 ?_
   refine AtT.qj Tryz.underlying25 kw ?_
   intro p106 e106 he106 hc106
   obtain rfl:k=e106:=by have:ks[j]? = some e106:=(by simpa using he106); rw[hkj]at this; simpa using this
   first | refine AtT.zk zA ?_ | with_reducible refine AtT.zm zA ?_ | refine AtT.zo zA ?_
   first | refine AtT.zn tk2 ?_ | refine AtT.zq tk2 ?_
   first | refine AtT.ql ?_ | refine AtT.zP ?_
   first | refine AtT.zn tk131 ?_ | refine AtT.zq tk131 ?_
   refine AtT.qZ ?_
   first | refine AtT.zk jf ?_ | with_reducible refine AtT.zm jf ?_ | refine AtT.zo jf ?_
   refine AtT.kcallL rfl rfl ok47 (fun VL hVL hOL=>end_f b16 n a f c _ ks i j k hkj ⟨hkb.1,hkb.2.1⟩ (by omega) VL ⟨F,A',jQ,hOL b16 _ (List.mem_cons_of_mem _ (List.mem_cons_of_mem _ (List.mem_cons_of_mem _ (List.mem_cons_self ..)))),hFl,hF.at',hk6.le hVL⟩) ?_
   rintro _ rfl
   refine AtT.kcallL rfl rfl ok47 (fun VL hVL hOL=>end_f b16 n a f c _ ks i j k hkj ⟨hkb.1,hkb.2.1⟩ (by omega) VL ⟨F,A',jQ,hOL b16 _ (List.mem_cons_of_mem _ (List.mem_cons_of_mem _ (List.mem_cons_of_mem _ (List.mem_cons_self ..)))),hFl,hF.at',hk6.le hVL⟩) ?_
   rintro _ rfl
   refine AtT.jh Tryz.underlying57 tk2 ?_
   rw[Int.toNat_natCast]
   refine AtT.jK rfl trivial rfl tk2 zM.zC hatz (by decide) ?_
   refine AtT.qz (bs36_2_0_1 _ _) ?_
   intro q110 V110 hV110 hq110
   have g110:Le V V110:=by first | exact hV110 | exact Le.trans (by assumption) hV110
   refine AtT.zR rfl rfl ok97 (best2_f z (x'+k.p) _ _ (Sl.lit hq110 rfl (by simp))) ?_
   rintro _ rfl
   refine AtT.jh Tryz.underlying57 tk2 ?_
   rw[Int.toNat_natCast]
   refine AtT.store1 rfl trivial rfl rfl tk2 rfl rfl (by repeat first|exact Upd.here|apply Upd.there) hset' ?_
   refine AtT.done ?_
   refine At.nrm ?_
   have htk:(shL n f ks i ks.length).take (m+1)=(shL n f ks i ks.length).take m++[j]:=by
    obtain⟨hml,hmj⟩:=List.getElem?_eq_some_iff.1 hj
    rw[List.take_succ_eq_append_getElem hml,hmj]
   have hnext:=hA'.sheet (by omega) hin hks hkj hck hx' hz
   rw[←htk]at hnext
   have hnw:=keep_w (v:=max z (x'+k.p)) (w:=k.w.toNat) (by omega) hz (by omega) hAw
   all_goals (refine At.roundN (m+1,A'.set (i+k.w.toNat) (max z (x'+k.p))) rfl ⟨hV6.trans hV110,hnext,hnw⟩ zM.zC ?_)
   all_goals exact Pt.qg
  ·rintro⟨m,A'⟩ D V6 O' hm ⟨hV6,hA',hAw⟩ hl rfl
   dsimp only at hm hA' hAw⊢
   rw[ysC,List.length_map]at hm
   subst hm
   rw[List.take_length]at hA'
   refine At.sub (ks':=[(2,.pointer (some ⟨b2,0,none⟩)),(3,.pointer (some ⟨b3,0,none⟩)),(5,.pointer (some ⟨b5,0,none⟩)),(7,.pointer (some ⟨b7,0,none⟩)),(55,iv n),(56,iv i)]) ⟨rfl,rfl,rfl,rfl,rfl,rfl,trivial⟩ ?_
   refine At.nrm ?_
   refine At.zh (.q 0 (.q 1 .done)) ?_
   first | refine AtT.ql ?_ | refine AtT.zP ?_
   refine AtT.zf ?_
   refine AtT.done ?_
   refine At.nrm ?_
   refine At.roundD (cx:=⟨w0,V,[]⟩) (ι:=Nat×List Nat×List Int) (DS:=fun g=>g.2.1.map mkD) (i:=(i,Ds,A)) (i+1,D::Ds,A') ?_ ?_ rfl ?_ ?_
   ·show n-(i+1)<n-i; omega
   ·exact⟨hV83'.trans hV6,hin,hA'.next hAw⟩
   ·exact⟨rfl,rfl,rfl,rfl,rfl,ivs (by push_cast; omega),trivial⟩
   ·exact Pt.qg
 obtain rfl:i=n:=by omega
 have hAok:=hA
 refine At.nrm ?_
 refine At.zh (.q 0 (.q 1 (.q 2 .done))) ?_
 first | refine AtT.zk zI ?_ | with_reducible refine AtT.zm zI ?_ | refine AtT.zo zI ?_
 first | refine AtT.zn tk3 ?_ | refine AtT.zq tk3 ?_
 refine AtT.zf ?_
 refine AtT.done ?_
 refine At.nrm ?_
 refine At.lpD (ι:=Nat×List Nat×List Int) (DS:=fun g=>g.2.1.map mkD) (KS:=fun g=>[(2,.pointer (some ⟨b2,0,none⟩)),(3,.pointer (some ⟨b3,0,none⟩)),(5,.pointer (some ⟨b5,0,none⟩)),(7,.pointer (some ⟨b7,0,none⟩)),(118,iv i),(119,iv g.1)]) (OS:=fun g=>.blk b16 (LC (tbc i a f c (.slice ak ks.length ck) F A g.2.2) 59)::.blk b5 (LC [.pointer (some ⟨b16,0,none⟩)] 52)::.blk b3 (LC [.slice ak ks.length ck] 25)::.blk b2 (LC [iv i,.slice a f.length c] 24)::.blk b7 (LC [.func (.func 96) #[] #[]] 131)::g.2.1.map dfB)
  (VS:=fun g V'=>Le V V'∧g.1≤i∧BhP i f ks (i-g.1) g.2.2) (μ:=fun g=>i-g.1) (0,Ds,jQ) rfl ?_ ?_ ?_ ?_
 ·exact⟨rfl,rfl,rfl,rfl,rfl,rfl,trivial⟩
 ·exact Pt.qg
 ·exact⟨hV1,Nat.zero_le _,BhP.start f ks (by omega)⟩
 rintro⟨d,Es,B⟩ V2 ks' O' ⟨hV2,hd,hB⟩ hk' hO hl3
 dsimp only at hd hB hk' hO
 subst hk' hO
 have hBl:=hB.len
 have hk2:=hk.le hV2
 refine At.nrm ?_
 refine At.zh (.q 0 .done) ?_
 refine AtT.qd ?_
 refine AtT.done ?_
 refine At.nrm ?_
 refine At.qb rfl (fun hc2=>?_) (fun hc2=>?_)
 rotate_left
 ·obtain rfl:d=i:=by omega
  rw[Nat.sub_self]at hB
  refine At.nrm ?_
  refine At.zh (.q 0 (.q 1 .done)) ?_
  first | refine AtT.zn qD ?_ | refine AtT.zq qD ?_
  refine AtT.zg ?_
  refine AtT.done ?_
  refine At.nrm ?_
  refine At.giveB (b:=b16) zM.zC (fun V6 hV6 hb6=>?_)
  refine At.unmarks Es (R:=[.blk b5 (LC [.pointer (some ⟨b16,0,none⟩)] 52),.blk b3 (LC [.slice ak ks.length ck] 25),.blk b2 (LC [iv d,.slice a f.length c] 24),.blk b7 (LC [.func (.func 96) #[] #[]] 131)]) (.inl rfl) rfl (List.perm_append_comm (l₁:=[_,_,_,_])) ?_
  exact At.qf rfl (.tmp rfl) ⟨b16,F,A,B,rfl,hb6,hFl,hF.at',hAok,hB⟩
 obtain⟨e,he⟩:∃ e,e=i-1-d:=⟨_,rfl⟩
 have hei:e+1=i-d:=by omega
 have hein:e<i:=by omega
 rw[←hei]at hB
 have e2:(i:Int)-1-(d:Int)=(e:Int):=by omega
 have e3:(e:Int)+1=((e+1:Nat):Int):=by omega
 obtain⟨y,hy⟩:∃ y,B[e+1]? = some y:=⟨_,List.getElem?_eq_getElem (by omega)⟩
 have haty:=tbc_b (n:=i) (a:=a) (f:=f) (c:=c) (kv:=.slice ak ks.length ck) (F:=F) (A:=A) hFl hAl hy
 have hset:=tbs_b (n:=i) (a:=a) (f:=f) (c:=c) (kv:=.slice ak ks.length ck) (F:=F) (A:=A) (B:=B) (i:=e) y hFl hAl (by omega)
 have hB1:=BhQ.waste hB (by omega) hein hkw hy
 refine At.nrm ?_
 refine At.zh (.q 0 (.q 1 .done)) ?_
 refine AtT.zf ?_
 refine AtT.zg ?_
 refine AtT.done ?_
 refine At.nrm ?_
 refine At.zh (.q 0 (.q 1 (.q 2 (.q 3 (.q 4 (.n false 5 (.n true 6 .done))))))) ?_
 first | refine AtT.zk zI ?_ | with_reducible refine AtT.zm zI ?_ | refine AtT.zo zI ?_
 first | refine AtT.zn tk3 ?_ | refine AtT.zq tk3 ?_
 first | refine AtT.jD ?_ | refine AtT.jE ?_
 refine AtT.zf ?_
 first | refine AtT.jD ?_ | refine AtT.jE ?_
 rw[e2]
 refine AtT.qE z3 ?_
 intro b11
 first | refine AtT.qX tk3 ?_ | refine AtT.zU tk3 ?_
 refine AtT.done ?_
 refine At.nrm ?_
 refine At.draw (.q 0 (.q 1 (.q 2 (.q 3 (.q 4 (.q 5 (.q 6 (.q 7 (.q 8 (.q 9 (.q 10 (.q 11 (.n true 12 .done))))))))))))) ffm (by kernel_rfl) ?_
 first | refine AtT.zn qD ?_ | refine AtT.zq qD ?_
 first | refine AtT.zn tk3 ?_ | refine AtT.zq tk3 ?_
 first | refine AtT.zn qD ?_ | refine AtT.zq qD ?_
 first | refine AtT.zn tk3 ?_ | refine AtT.zq tk3 ?_
 first | refine AtT.ql ?_ | refine AtT.zP ?_
 rw[e3]
 refine AtT.qZ ?_
 first | refine AtT.zk je ?_ | with_reducible refine AtT.zm je ?_ | refine AtT.zo je ?_
 refine AtT.jh Tryz.underlying57 tk2 ?_
 rw[Int.toNat_natCast]
 refine AtT.jK rfl trivial rfl tk2 zM.zC haty (by decide) ?_
 refine AtT.qZ ?_
 first | refine AtT.zk je ?_ | with_reducible refine AtT.zm je ?_ | refine AtT.zo je ?_
 refine AtT.jh Tryz.underlying57 tk2 ?_
 rw[Int.toNat_natCast]
 refine AtT.store1 rfl trivial rfl rfl tk2 rfl rfl (by repeat first|exact Upd.here|apply Upd.there) hset ?_
 refine AtT.done ?_
 refine At.nrm ?_
 refine At.zh (.q 0 (.q 1 (.n false 2 .done))) ?_
 first | refine AtT.zn qD ?_ | refine AtT.zq qD ?_
 first | refine AtT.zn tk3 ?_ | refine AtT.zq tk3 ?_
 refine AtT.jM rfl rfl ok46 (sheets_f b16 e _) ?_
 rintro _ V141 hV141 ⟨q2,q3,rfl,hq2,hq3⟩
 refine AtT.done ?_
 refine At.nrm ?_
 have hV141':=hV2.trans hV141
 refine At.rangeFuncW (ys:=ysC i f ks e) (VI:=fun V=>Cells V q2 [.pointer (some ⟨b16,0,none⟩)]∧Cells V q3 [iv e]∧TbV V b16 i a f c (.slice ak ks.length ck) ks) (ι:=Nat×List Int) (fun g=>g.1)
  (fun g=>.blk b16 (LC (tbc i a f c (.slice ak ks.length ck) F A g.2) 59)::.blk b11 (LC [iv e] 3)::.blk b5 (LC [.pointer (some ⟨b16,0,none⟩)] 52)::.blk b3 (LC [.slice ak ks.length ck] 25)::.blk b2 (LC [iv i,.slice a f.length c] 24)::.blk b7 (LC [.func (.func 96) #[] #[]] 131)::Es.map dfB)
  (fun g V'=>Le V141 V'∧BhQ i f ks e ((shL i f ks e ks.length).take g.1) g.2) (fun _ _ _=>False) rfl ok98 (0,B.set e y) rfl ?_ ⟨Le.refl _,hB1⟩ (iterC_f b16 i a f c _ ks hks (by omega) e (by omega) q2 q3)
  (fun g V' w hV hm=>⟨(hq2.le hV.1).le hm.view,(hq3.le hV.1).le hm.view,F,A,g.2,Mem.at hm zM.here,hFl,hF.at',((hk.le hV141').le hV.1).le hm.view⟩) (by decide) (fun y hy=>by obtain⟨j,_,rfl⟩:=List.mem_map.1 hy; rfl) ?_ ?_ (fun _ _ _ _ h=>h.elim)
 ·exact Pt.qg
 ·rintro⟨m,B'⟩ y' l D r V6 ks' O' hy' ⟨hV6,hB'⟩ hl rfl rfl
  dsimp only at hy' hB'⊢
  obtain⟨j,hj,rfl⟩:∃ j,(shL i f ks e ks.length)[m]? = some j∧y'=[sv2 e j]:=by
   rw[ysC,List.getElem?_map]at hy'
   cases h:(shL i f ks e ks.length)[m]? with
   | none=>rw[h]at hy'; cases hy'
   | some j=>rw[h]at hy'; exact⟨j,rfl,(Option.some.inj hy').symm⟩
  obtain⟨hjl,k,hkj,hck⟩:=shL_mem.1 (List.mem_of_getElem? hj)
  have hkb:=hks.k k (List.mem_of_getElem? hkj)
  have hke:=jH hck hkb.1
  have hBl':=hB'.p.len
  have hk6:=(hk.le hV141').le hV6
  obtain⟨x',hx'⟩:∃ x,B'[e]? = some x:=⟨_,List.getElem?_eq_getElem (by omega)⟩
  obtain⟨z,hz⟩:∃ z,B'[e+k.w.toNat]? = some z:=⟨_,List.getElem?_eq_getElem (by omega)⟩
  have hbz:=hB'.p.bd _ z hz
  have hatx':=tbc_b (n:=i) (a:=a) (f:=f) (c:=c) (kv:=.slice ak ks.length ck) (F:=F) (A:=A) hFl hAl hx'
  have hatz:=tbc_b (n:=i) (a:=a) (f:=f) (c:=c) (kv:=.slice ak ks.length ck) (F:=F) (A:=A) hFl hAl hz
  have hset':=tbs_b (n:=i) (a:=a) (f:=f) (c:=c) (kv:=.slice ak ks.length ck) (F:=F) (A:=A) (B:=B') (i:=e) (max x' (z+k.p)) hFl hAl (by omega)
  show At _ _ ((142,sv2 e j)::_) _ _ _
  refine At.nrm ?_
  refine At.zh (.n false 0 (.n true 1 .done)) ?_
  refine AtT.qE z43 ?_
  intro b12
  refine AtT.zU qY ?_
  refine AtT.done ?_
  refine At.nrm ?_
  refine At.begin zM.zC ?_
  refine At.nrm ?_
  refine At.draw (.q 0 (.q 1 (.q 2 (.q 3 (.q 4 (.q 5 (.q 6 (.q 7 (.q 8 (.q 9 (.q 10 (.q 12 (.q 13 (.q 16 (.q 17 (.q 18 (.q 19 (.q 20 (.q 21 (.q 24 (.q 26 (.q 27 (.n false 11 (.q 14 (.q 15 (.q 22 (.n false 23 (.n false 25 (.q 28 (.n true 29 .done)))))))))))))))))))))))))))))) ffm (by kernel_rfl) ?_
  first | refine AtT.zn qD ?_ | refine AtT.zq qD ?_
  first | refine AtT.zn tk3 ?_ | refine AtT.zq tk3 ?_
  first | refine AtT.zn qD ?_ | refine AtT.zq qD ?_
  first | refine AtT.zn tk3 ?_ | refine AtT.zq tk3 ?_
  refine AtT.qZ ?_
  first | refine AtT.zk je ?_ | with_reducible refine AtT.zm je ?_ | refine AtT.zo je ?_
  refine AtT.jh Tryz.underlying57 tk2 ?_
  rw[Int.toNat_natCast]
  refine AtT.jK rfl trivial rfl tk2 zM.zC hatx' (by decide) ?_
  first | refine AtT.zn qD ?_ | refine AtT.zq qD ?_
  first | refine AtT.zn qD ?_ | refine AtT.zq qD ?_
  first | refine AtT.zL qY ?_ | refine AtT.zS qY ?_ | refine AtT.zK qY ?_
  refine AtT.qZ ?_
  first | refine AtT.zk je ?_ | with_reducible refine AtT.zm je ?_ | refine AtT.zo je ?_
  first | refine AtT.zn tk25 ?_ | refine AtT.zq tk25 ?_
  first | refine AtT.zk qm ?_ | with_reducible refine AtT.zm qm ?_ | refine AtT.zo qm ?_
  first | refine AtT.zn tk3 ?_ | refine AtT.zq tk3 ?_
  refine AtT.qj Tryz.underlying25 kw ?_
  intro p162 e162 he162 hc162
  obtain rfl:k=e162:=by have:ks[j]? = some e162:=(by simpa using he162); rw[hkj]at this; simpa using this
  first | refine AtT.zk zA ?_ | with_reducible refine AtT.zm zA ?_ | refine AtT.zo zA ?_
  first | refine AtT.zn tk2 ?_ | refine AtT.zq tk2 ?_
  first | refine AtT.zn tk131 ?_ | refine AtT.zq tk131 ?_
  refine AtT.qZ ?_
  first | refine AtT.zk je ?_ | with_reducible refine AtT.zm je ?_ | refine AtT.zo je ?_
  refine AtT.kcallL rfl rfl ok47 (fun VL hVL hOL=>end_f b16 i a f c _ ks e j k hkj ⟨hkb.1,hkb.2.1⟩ (by omega) VL ⟨F,A,B',hOL b16 _ (List.mem_cons_of_mem _ (List.mem_cons_of_mem _ (List.mem_cons_of_mem _ (List.mem_cons_self ..)))),hFl,hF.at',hk6.le hVL⟩) ?_
  rintro _ rfl
  refine AtT.jh Tryz.underlying57 tk2 ?_
  rw[Int.toNat_natCast]
  refine AtT.jK rfl trivial rfl tk2 zM.zC hatz (by decide) ?_
  first | refine AtT.ql ?_ | refine AtT.zP ?_
  refine AtT.qz (bs36_2_0_1 _ _) ?_
  intro q166 V166 hV166 hq166
  have g166:Le V V166:=by first | exact hV166 | exact Le.trans (by assumption) hV166
  refine AtT.zR rfl rfl ok97 (best2_f x' (z+k.p) _ _ (Sl.lit hq166 rfl (by simp))) ?_
  rintro _ rfl
  refine AtT.jh Tryz.underlying57 tk2 ?_
  rw[Int.toNat_natCast]
  refine AtT.store1 rfl trivial rfl rfl tk2 rfl rfl (by repeat first|exact Upd.here|apply Upd.there) hset' ?_
  refine AtT.done ?_
  refine At.nrm ?_
  have htk:(shL i f ks e ks.length).take (m+1)=(shL i f ks e ks.length).take m++[j]:=by
   obtain⟨hml,hmj⟩:=List.getElem?_eq_some_iff.1 hj
   rw[List.take_succ_eq_append_getElem hml,hmj]
  have hnext:=hB'.sheet (by omega) hein hks hkj hck hx' hz
  rw[←htk]at hnext
  refine At.roundN (m+1,B'.set e (max x' (z+k.p))) rfl ⟨hV6.trans hV166,hnext⟩ zM.zC ?_
  exact Pt.qg
 ·rintro⟨m,B'⟩ D V6 O' hm ⟨hV6,hB'⟩ hl rfl
  dsimp only at hm hB'⊢
  rw[ysC,List.length_map]at hm
  subst hm
  rw[List.take_length]at hB'
  refine At.sub (ks':=[(2,.pointer (some ⟨b2,0,none⟩)),(3,.pointer (some ⟨b3,0,none⟩)),(5,.pointer (some ⟨b5,0,none⟩)),(7,.pointer (some ⟨b7,0,none⟩)),(118,iv i),(119,iv d)]) ⟨rfl,rfl,rfl,rfl,rfl,rfl,trivial⟩ ?_
  refine At.nrm ?_
  refine At.zh (.q 0 (.q 1 .done)) ?_
  first | refine AtT.ql ?_ | refine AtT.zP ?_
  refine AtT.zf ?_
  refine AtT.done ?_
  refine At.nrm ?_
  refine At.roundD (cx:=⟨w0,V,Ds.map mkD⟩) (ι:=Nat×List Nat×List Int) (DS:=fun g=>g.2.1.map mkD) (i:=(d,Es,B)) (d+1,D::Es,B') ?_ ?_ rfl ?_ ?_
  ·show i-(d+1)<i-d; omega
  ·refine⟨hV141'.trans hV6,by dsimp only; omega,?_⟩
   dsimp only
   rw[show i-(d+1)=e by omega]
   exact hB'.next
  ·exact⟨rfl,rfl,rfl,rfl,rfl,ivs (by push_cast; omega),trivial⟩
  ·exact Pt.qg
end Go.Proofs.YtmdcedioddchfaaGreatDoor.C
end
section
set_option linter.unusedVariables false
namespace Go.Cc
open Go.Lw Go.Ps
inductive CtI (n:Nat) (f:List Int) (ks:List Kd):List Ct→Nat→Int→Prop
 | nil:CtI n f ks [] 0 0
 | snoc {C:List Ct} {e i j:Nat} {p:Int} {k:Kd} (h:CtI n f ks C e p) (he:e≤i) (hi:i<n) (hk:ks[j]? = some k) (hc:canB n f i k=true):CtI n f ks (C++[⟨i,j⟩]) (i+k.w.toNat) (p+k.p)
theorem CtI.len {n:Nat} {f:List Int} {ks:List Kd} (hw:∀ k∈ks,1≤k.w) {C:List Ct} {e:Nat} {p:Int} (h:CtI n f ks C e p):C.length≤e∧e≤n:=by
 induction h with
 | nil=>exact⟨Nat.le_refl _,Nat.zero_le _⟩
 | @snoc C e i j p k h he hi hk hc ih=>
  have:=jH hc (hw k (List.mem_of_getElem? hk))
  rw[List.length_append]
  simp only[List.length_cons,List.length_nil]
  omega
theorem BhP.none {n:Nat} {f:List Int} {ks:List Kd} {B:List Int} {i:Nat} {x:Int} (h:BhP n f ks 0 B) (hi:i<n) (hx:B[i]? = some x) (hno:∀ j∈shL n f ks i ks.length,∀ k,ks[j]? = some k→B[i+k.w.toNat]?≠some (x-k.p)):B[i+1]? = some x:=by
 rcases h.at' i x (Nat.zero_le _) hi hx with c | ⟨k,hk,hc,e⟩
 ·exact c
 ·obtain⟨j,hj,rfl⟩:=List.getElem_of_mem hk
  exact absurd e (hno j (shL_mem.2 ⟨hj,_,List.getElem?_eq_getElem hj,hc⟩) _ (List.getElem?_eq_getElem hj))
end Go.Cc
end
section
set_option linter.unusedVariables false
namespace Go.Lw
open Go.Instr Go.RowKit
abbrev sT (l:List UInt8):Value:=.string ⟨l.toArray⟩
theorem sT_inj {a b:List UInt8} : (⟨a.toArray⟩:ByteArray)=⟨b.toArray⟩↔a=b:=⟨fun h=>congrArg bt h,fun h=>by rw[h]⟩
section
variable {cx:Cx} {n:Nat} {ks:List (Nat×Value)} {O R:List Own} {V:View} {P:Program} {ops:Array Oper} {Qn:Act→World→Prop} {t:Tr} {i d:Nat} {x y:Operand} {T:TypeId} {pos:String} {after:Array Edge} {gd:Option (Nat×Bool)} {X Y:TypeId} {wr:Bool}
theorem AtT.eqT {a b:List UInt8} (ho:ops[i]? = some ⟨some d,.binOp .eql X x y Y,T,pos,after,gd⟩) (hg:Gd ks ops gd) (hx:ev ks x=some (sT a)) (hy:ev ks y=some (sT b)) (hn:d<n)
  (next:AtT cx n ((d,.bool (decide (a=b)))::ks) O V P ops Qn t):AtT cx n ks O V P ops Qn (.q i t):=
 AtT.eqStr ho hg hx hy hn (by rw[show decide ((⟨a.toArray⟩:ByteArray)=⟨b.toArray⟩)=decide (a=b)from decide_eq_decide.2 sT_inj]; exact next)
end
end Go.Lw
end
section
set_option linter.unusedVariables false
namespace Go.Lw
open Go.Instr Go.RowKit
section
variable {cx:Cx} {n:Nat} {ks:List (Nat×Value)} {O R:List Own} {V:View} {P:Program} {ops:Array Oper} {Qn:Act→World→Prop} {t:Tr} {i d:Nat} {x y:Operand} {T:TypeId} {pos:String} {after:Array Edge} {gd:Option (Nat×Bool)} {X Y Z:TypeId} {wr:Bool} {p q:Int} {v:Value}
theorem AtT.slVL {u l:Value} {lo':Operand} (ho:ops[i]? = some ⟨some d,.slice X x (some lo') none none,T,pos,after,gd⟩) (hg:Gd ks ops gd) (hx:ev ks x=some v) (hl:ev ks lo'=some l) (hr:∀ w,(Instr.sliceAt X v (some l) none none).run P w=.ok u w) (hn:d<n)
  (next:AtT cx n ((d,u)::ks) O V P ops Qn t):AtT cx n ks O V P ops Qn (.q i t):=
 .q ho hg rfl hn (fun a w hk hm=>by simp only[execOp,hk.ev hx,hk.ev hl,Option.map_none,Option.map_some,Sem.run_bind,hr,Result.andThen_ok,Sem.run_pure]) next
end
end Go.Lw
end
section
set_option linter.unusedVariables false
namespace Go.Proofs.YtmdcedioddchfaaGreatDoor.C
open Go.Lw Go.Ps Go.Cc Go.RowKit
open Go.Gl (iv ivs qy)
def TbO (V:View) (b0 n:Nat) (a:Option Addr) (f:List Int) (c:Nat) (kv:Value) (ks:List Kd) (A B:List Int):Prop:=
 ∃ F,V b0=some (LC (tbc n a f c kv F A B) 59)∧F.length=25∧(∀ i,i≤n→F[i]? = some (ftN f i:Int))∧AhI n f ks n [] A∧BhP n f ks 0 B∧Sl V kde 3 kv ks
theorem TbO.le {V V':View} {b0 n:Nat} {a:Option Addr} {f:List Int} {c:Nat} {kv:Value} {ks:List Kd} {A B:List Int} (h:TbO V b0 n a f c kv ks A B) (hl:Le V V'):TbO V' b0 n a f c kv ks A B:=by
 obtain⟨F,h1,h2,h3,h4,h5,h6⟩:=h
 exact⟨F,hl _ _ h1,h2,h3,h4,h5,h6.le hl⟩
theorem TbO.v {V:View} {b0 n:Nat} {a:Option Addr} {f:List Int} {c:Nat} {kv:Value} {ks:List Kd} {A B:List Int} (h:TbO V b0 n a f c kv ks A B):TbV V b0 n a f c kv ks:=by
 obtain⟨F,h1,h2,h3,h4,h5,h6⟩:=h
 exact⟨F,A,B,h1,h2,h3,h6⟩
theorem copen_f (n:Nat) (a:Option Addr) (f:List Int) (c:Nat) (hf:RbOk n f) (ks:List Kd) (hks:KdOk ks) (V:View) (kv:Value) (hs:SlI V (.slice a f.length c) f) (hk:Sl V kde 3 kv ks) :
  Fnc Tryz.prog 16 [rbv n a f c,kv] V fun r V'=>∃ b0 A B,r=.tuple #[.pointer (some ⟨b0,0,none⟩),iv 0]∧TbO V' b0 n a f c kv ks A B:=by
 refine qa Tryz.func16 rfl Tryz.ntmps16 (Nat.le_of_ble_eq_true rfl) ?_
 intro w0 hw0
 refine At.nrm ?_
 refine At.zh (.n false 0 (.q 1 (.q 2 .done))) ?_
 refine AtT.jA ?_
 intro b2
 refine AtT.zg ?_
 refine AtT.zg ?_
 refine AtT.done ?_
 refine At.nrm ?_
 refine At.zh (.q 0 (.n false 1 (.q 2 .done))) ?_
 first | refine AtT.zL qR ?_ | refine AtT.zS qR ?_ | refine AtT.zK qR ?_
 refine AtT.zR rfl rfl ok43 (cRibbon_f n a f c hf _ hs) ?_
 rintro _ rfl
 refine AtT.zg ?_
 refine AtT.done ?_
 refine At.nrm ?_
 refine At.zh (.q 0 (.q 1 .done)) ?_
 refine AtT.zf ?_
 refine AtT.jT ?_
 refine AtT.done ?_
 refine At.nrm ?_
 refine At.qh rfl rfl ?_
 refine At.nrm ?_
 refine At.zh (.q 0 (.n false 1 (.q 2 .done))) ?_
 refine AtT.zf ?_
 refine AtT.zR rfl rfl ok44 (cKinds_f ks hks _ _ hk) ?_
 rintro _ rfl
 refine AtT.zg ?_
 refine AtT.done ?_
 refine At.nrm ?_
 refine At.zh (.q 0 (.q 1 .done)) ?_
 refine AtT.zf ?_
 refine AtT.jT ?_
 refine AtT.done ?_
 refine At.nrm ?_
 refine At.qh rfl rfl ?_
 refine At.nrm ?_
 refine At.zh (.q 0 (.q 1 (.n false 2 (.q 3 (.q 4 .done))))) ?_
 first | refine AtT.zL qR ?_ | refine AtT.zS qR ?_ | refine AtT.zK qR ?_
 refine AtT.zf ?_
 refine AtT.jM rfl rfl ok45 (newTable_f n a f c hf ks hks _ _ hs hk) ?_
 rintro _ V20 hV20 ⟨b0,F,A,B,rfl,h1,h2,h3,h4,h5⟩
 refine AtT.zg ?_
 refine AtT.zg ?_
 refine AtT.done ?_
 refine At.nrm ?_
 exact At.ret2 rfl (.tmp rfl) (.tmp rfl) ⟨b0,A,B,rfl,F,h1,h2,h3,h4,h5,hk.le hV20⟩
theorem worth_f (n:Nat) (a:Option Addr) (f:List Int) (c:Nat) (hf:RbOk n f) (ks:List Kd) (hks:KdOk ks) (V:View) (kv:Value) (hs:SlI V (.slice a f.length c) f) (hk:Sl V kde 3 kv ks) :
  Fnc Tryz.prog 7 [rbv n a f c,kv] V fun r _=>∃ x,r=.tuple #[iv x,iv 0]∧∀ B,BhOk n f ks B→x=B 0:=by
 have hn:=hf.nb
 refine qa Tryz.func7 rfl Tryz.ntmps7 (Nat.le_of_ble_eq_true rfl) ?_
 intro w0 hw0
 refine At.nrm ?_
 refine At.zh (.n false 0 (.q 1 (.q 2 .done))) ?_
 refine AtT.jA ?_
 intro b2
 refine AtT.zg ?_
 refine AtT.zg ?_
 refine AtT.done ?_
 refine At.nrm ?_
 refine At.zh (.q 0 (.q 1 (.n false 2 (.q 3 (.q 4 (.q 5 (.q 6 (.q 7 .done)))))))) ?_
 first | refine AtT.zL qR ?_ | refine AtT.zS qR ?_ | refine AtT.zK qR ?_
 refine AtT.zf ?_
 refine AtT.jM rfl rfl ok16 (copen_f n a f c hf ks hks _ _ hs hk) ?_
 rintro _ V11 hV11 ⟨b0,A,B,rfl,F,h1,h2,h3,h4,h5,h6⟩
 refine AtT.zf ?_
 refine AtT.zV ?_
 refine AtT.zV ?_
 refine AtT.zg ?_
 refine AtT.zg ?_
 refine AtT.done ?_
 refine At.nrm ?_
 refine At.zh (.q 0 (.q 1 .done)) ?_
 refine AtT.zf ?_
 refine AtT.jT ?_
 refine AtT.done ?_
 refine At.nrm ?_
 refine At.qh rfl rfl ?_
 have hl:=h4.len
 obtain⟨x,hx⟩:∃ x,A[n]? = some x:=⟨_,List.getElem?_eq_getElem (by omega)⟩
 have hv:jd V11 ⟨b0,0+28+((n:Int)).toNat*1,none⟩=some (iv x):=by rw[vc_of h1,Int.toNat_natCast]; exact tbc_a h2 hx
 refine At.nrm ?_
 refine At.draw (.q 0 (.q 1 (.q 2 (.q 3 (.q 4 (.q 5 (.q 6 (.q 7 (.q 8 .done))))))))) ffm (by kernel_rfl) ?_
 refine AtT.zf ?_
 first | refine AtT.zk zI ?_ | with_reducible refine AtT.zm zI ?_ | refine AtT.zo zI ?_
 first | refine AtT.zn tk3 ?_ | refine AtT.zq tk3 ?_
 refine AtT.qZ ?_
 first | refine AtT.zk jf ?_ | with_reducible refine AtT.zm jf ?_ | refine AtT.zo jf ?_
 refine AtT.jh Tryz.underlying57 tk2 ?_
 refine AtT.load rfl trivial rfl tk2 hv (by decide) ?_
 refine AtT.zg ?_
 refine AtT.zg ?_
 refine AtT.done ?_
 refine At.nrm ?_
 refine At.ret2 rfl (.tmp rfl) (.tmp rfl) ⟨x,rfl,fun B hB=>?_⟩
 have:=ah_bh (fun k hk=>(hks.k k hk).1) (h4.done (by omega) fun k hk=>(hks.k k hk).1) hB
 simp only[hx,Option.getD_some]at this
 exact this
structure FsG where
 i:Nat
 Ds:List Nat
 C:List Ct
 a:Option Addr
 c:Nat
set_option maxHeartbeats 3200000 in
theorem first_f (b0 n:Nat) (a:Option Addr) (f:List Int) (c:Nat) (hf:RbOk n f) (kv:Value) (ks:List Kd) (hks:KdOk ks) (A B:List Int) (V:View) (ht:TbO V b0 n a f c kv ks A B) :
  Fnc Tryz.prog 17 [.pointer (some ⟨b0,0,none⟩)] V fun r V'=>∃ C e p,Sl V' cte 2 r C∧CtI n f ks C e p∧B[0]? = some p:=by
 have hn:=hf.nb
 have hkw:∀ k∈ks,1≤k.w:=fun k hk=>(hks.k k hk).1
 have ht0:=ht
 obtain⟨F,h1,h2,h3,h4,h5,h6⟩:=ht
 have hAl:=h4.len
 have hBl:=h5.len
 have hlenk:=h6.qV
 have hkn:=hks.n
 obtain⟨ak,ck,rfl,k1,k2,_⟩:=id h6
 clear k1 k2
 obtain⟨z0,hz0⟩:∃ z,B[0]? = some z:=⟨_,List.getElem?_eq_getElem (by omega)⟩
 refine fn_ofM Tryz.func17 rfl Tryz.ntmps17 (Nat.le_of_ble_eq_true rfl) ?_
 intro w0 hw0
 refine At.nrm ?_
 refine At.zh (.n false 0 (.q 1 .done)) ?_
 refine AtT.jA ?_
 intro b1
 refine AtT.zg ?_
 refine AtT.done ?_
 refine At.nrm ?_
 refine At.zh (.n false 0 .done) ?_
 refine AtT.qE z32 ?_
 intro b3
 refine AtT.done ?_
 refine At.nrm ?_
 refine At.zh (.n false 0 (.n true 1 .done)) ?_
 refine AtT.qE z3 ?_
 intro b4
 first | refine AtT.qX tk3 ?_ | refine AtT.zU tk3 ?_
 refine AtT.done ?_
 refine At.nrm ?_
 refine At.newRow 43 2 ?_
 refine At.nrm ?_
 refine At.lpD (ι:=FsG) (DS:=fun g=>g.Ds.map mkD) (KS:=fun g=>[(1,.pointer (some ⟨b1,0,none⟩)),(3,.pointer (some ⟨b3,0,none⟩)),(4,.pointer (some ⟨b4,0,none⟩))]) (OS:=fun g=>.blk b4 (LC [iv g.i] 3)::.blk b3 (LC [.slice g.a (g.C).length g.c] 32)::.row (.slice g.a (g.C).length g.c) 43 2 (g.C).length (flat cte (g.C))::.blk b1 (LC [.pointer (some ⟨b0,0,none⟩)] 52)::g.Ds.map dfB)
  (VS:=fun g V'=>Le V V'∧g.i≤n∧∃ e p x,CtI n f ks g.C e p∧e≤g.i∧B[g.i]? = some x∧p+x=z0) (μ:=fun g=>n-g.i) ⟨0,[],[],none,0⟩ rfl ?_ ?_ ?_ ?_
 ·exact⟨rfl,rfl,rfl,trivial⟩
 ·exact Pt.qg
 ·exact⟨Le.refl _,Nat.zero_le _,0,0,z0,.nil,Nat.le_refl _,hz0,by omega⟩
 rintro⟨i,Ds,C,ao,co⟩ V1 ks' O' ⟨hV1,hi,e,p,x,hC,hei,hx,hpx⟩ hk' hO hl
 dsimp only at hi hC hei hx hk' hO
 subst hk' hO
 have ht1:=ht0.le hV1
 have h11:=hV1 _ _ h1
 have h61:=h6.le hV1
 have hnv:jd V1 ⟨b0,0+0+0,none⟩=some (iv n):=by rw[vc_of h11]; rfl
 have hCl:=hC.len hkw
 refine At.nrm ?_
 refine At.draw (.q 0 (.q 1 (.q 2 (.q 3 (.q 4 (.q 5 (.q 6 .done))))))) ffm (by kernel_rfl) ?_
 first | refine AtT.zn tk3 ?_ | refine AtT.zq tk3 ?_
 first | refine AtT.zn qD ?_ | refine AtT.zq qD ?_
 refine AtT.qZ ?_
 first | refine AtT.zk fo59_0 ?_ | with_reducible refine AtT.zm fo59_0 ?_ | refine AtT.zo fo59_0 ?_
 first | refine AtT.zk zI ?_ | with_reducible refine AtT.zm zI ?_ | refine AtT.zo zI ?_
 refine AtT.load rfl trivial rfl tk3 hnv (by decide) ?_
 refine AtT.qd ?_
 refine AtT.done ?_
 refine At.nrm ?_
 refine At.qb rfl (fun hc=>?_) (fun hc=>?_)
 rotate_left
 ·obtain rfl:i=n:=by omega
  rw[h5.z]at hx
  cases hx
  refine At.nrm ?_
  refine At.zh (.q 0 (.q 1 .done)) ?_
  first | refine AtT.zn tk32 ?_ | refine AtT.zq tk32 ?_
  refine AtT.zg ?_
  refine AtT.done ?_
  refine At.nrm ?_
  refine At.giveSl (l:=C) cte_len rfl rfl zM.zC (fun V6 hV6 hs6=>?_)
  refine At.unmarks Ds (R:=[.blk b4 (LC [iv i] 3),.blk b3 (LC [.slice ao C.length co] 32),.blk b1 (LC [.pointer (some ⟨b0,0,none⟩)] 52)]) (.inl rfl) rfl (List.perm_append_comm (l₁:=[_,_,_])) ?_
  exact At.qf rfl (.tmp rfl) ⟨C,e,p,hs6,hC,by rw[hz0]; congr 1; omega⟩
 have hin:i<n:=by omega
 obtain⟨y,hy⟩:∃ y,B[i+1]? = some y:=⟨_,List.getElem?_eq_getElem (by omega)⟩
 refine At.nrm ?_
 refine At.zh (.q 0 (.q 1 (.n false 2 .done))) ?_
 first | refine AtT.zn qD ?_ | refine AtT.zq qD ?_
 first | refine AtT.zn tk3 ?_ | refine AtT.zq tk3 ?_
 refine AtT.jM rfl rfl ok46 (sheets_f b0 i _) ?_
 rintro _ V15 hV15 ⟨q2,q3,rfl,hq2,hq3⟩
 refine AtT.done ?_
 refine At.nrm ?_
 have hV15':=hV1.trans hV15
 have ht15:=ht0.le hV15'
 refine At.rangeFuncW (ys:=ysC n f ks i) (VI:=fun V=>Cells V q2 [.pointer (some ⟨b0,0,none⟩)]∧Cells V q3 [iv i]∧TbV V b0 n a f c (.slice ak ks.length ck) ks) (ι:=Nat) (fun g=>g)
  (fun g=>.blk b4 (LC [iv i] 3)::.blk b3 (LC [.slice ao (C).length co] 32)::.row (.slice ao (C).length co) 43 2 (C).length (flat cte (C))::.blk b1 (LC [.pointer (some ⟨b0,0,none⟩)] 52)::Ds.map dfB)
  (fun g V'=>Le V15 V'∧∀ j∈(shL n f ks i ks.length).take g,∀ k,ks[j]? = some k→B[i+k.w.toNat]?≠some (x-k.p))
  (fun cd O' V'=>Le V15 V'∧cd=.exit 1∧∃ (j:Nat) (k:Kd) (a':Option Addr) (c':Nat),ks[j]? = some k∧canB n f i k=true∧B[i+k.w.toNat]? = some (x-k.p)∧O'=.blk b4 (LC [iv ((i+k.w.toNat:Nat):Int)] 3)::.blk b3 (LC [.slice a' (C++[(⟨i,j⟩:Ct)]).length c'] 32)::.row (.slice a' (C++[(⟨i,j⟩:Ct)]).length c') 43 2 (C++[(⟨i,j⟩:Ct)]).length (flat cte (C++[(⟨i,j⟩:Ct)]))::.blk b1 (LC [.pointer (some ⟨b0,0,none⟩)] 52)::Ds.map dfB) rfl ok98 0 rfl ?_ ⟨Le.refl _,fun j hj=>by cases hj⟩ (iterC_f b0 n a f c _ ks hks (by omega) i hi q2 q3)
  (fun g V' w hV hm=>⟨(hq2.le hV.1).le hm.view,(hq3.le hV.1).le hm.view,((ht15.le hV.1).le hm.view).v⟩) (by decide) (fun y hy=>by obtain⟨j,_,rfl⟩:=List.mem_map.1 hy; rfl) ?_ ?_ ?_
 ·exact Pt.qg
 ·rintro m y' l D r V6 ks' O' hy' ⟨hV6,hno⟩ hl rfl rfl
  dsimp only at hy' hno⊢
  obtain⟨j,hj,rfl⟩:∃ j,(shL n f ks i ks.length)[m]? = some j∧y'=[sv2 i j]:=by
   rw[ysC,List.getElem?_map]at hy'
   cases h:(shL n f ks i ks.length)[m]? with
   | none=>rw[h]at hy'; cases hy'
   | some j=>rw[h]at hy'; exact⟨j,rfl,(Option.some.inj hy').symm⟩
  obtain⟨hjl,k,hkj,hck⟩:=shL_mem.1 (List.mem_of_getElem? hj)
  have hkb:=hks.k k (List.mem_of_getElem? hkj)
  have hke:=jH hck hkb.1
  have ht6:=ht15.le hV6
  have h16:=(hV15'.trans hV6) _ _ h1
  have h66:=h6.le (hV15'.trans hV6)
  obtain⟨z,hz⟩:∃ z,B[i+k.w.toNat]? = some z:=⟨_,List.getElem?_eq_getElem (by omega)⟩
  have hbz:=h5.bd _ z hz
  have hbx:=h5.bd i x hx
  have hkv:jd V6 ⟨b0,0+2,none⟩=some (.slice ak ks.length ck):=by rw[vc_of h16]; rfl
  have hvz:jd V6 ⟨b0,0+53+(((i+k.w.toNat:Nat):Int)).toNat*1,none⟩=some (iv z):=by rw[vc_of h16,Int.toNat_natCast]; exact tbc_b h2 hAl hz
  have hvx:jd V6 ⟨b0,0+53+((i:Int)).toNat*1,none⟩=some (iv x):=by rw[vc_of h16,Int.toNat_natCast]; exact tbc_b h2 hAl hx
  show At _ _ ((16,sv2 i j)::_) _ _ _
  refine At.nrm ?_
  refine At.zh (.n false 0 (.n true 1 .done)) ?_
  refine AtT.qE z43 ?_
  intro b5
  refine AtT.zU qY ?_
  refine AtT.done ?_
  refine At.nrm ?_
  refine At.begin zM.zC ?_
  refine At.nrm ?_
  refine At.draw (.q 0 (.q 1 (.q 2 (.q 3 (.q 4 (.q 5 (.q 6 (.q 7 (.q 8 (.q 9 (.q 10 (.q 11 (.q 13 (.q 14 (.q 18 (.q 19 (.q 20 (.q 21 (.q 22 (.q 23 (.n false 12 (.q 15 (.q 16 (.q 17 (.q 24 .done))))))))))))))))))))))))) ffm (by kernel_rfl) ?_
  first | refine AtT.zn qD ?_ | refine AtT.zq qD ?_
  refine AtT.qZ ?_
  first | refine AtT.zk jU ?_ | with_reducible refine AtT.zm jU ?_ | refine AtT.zo jU ?_
  refine AtT.load rfl trivial rfl tk25 hkv (by decide) ?_
  first | refine AtT.zk qm ?_ | with_reducible refine AtT.zm qm ?_ | refine AtT.zo qm ?_
  first | refine AtT.zn tk3 ?_ | refine AtT.zq tk3 ?_
  refine AtT.qj Tryz.underlying25 kw ?_
  intro p23 e23 he23 hc23
  obtain rfl:k=e23:=by have:ks[j]? = some e23:=(by simpa using he23); rw[hkj]at this; simpa using this
  first | refine AtT.zk zA ?_ | with_reducible refine AtT.zm zA ?_ | refine AtT.zo zA ?_
  first | refine AtT.zn tk2 ?_ | refine AtT.zq tk2 ?_
  first | refine AtT.zn qD ?_ | refine AtT.zq qD ?_
  first | refine AtT.zn qD ?_ | refine AtT.zq qD ?_
  first | refine AtT.zL qY ?_ | refine AtT.zS qY ?_ | refine AtT.zK qY ?_
  refine AtT.qZ ?_
  first | refine AtT.zk je ?_ | with_reducible refine AtT.zm je ?_ | refine AtT.zo je ?_
  first | refine AtT.zn qD ?_ | refine AtT.zq qD ?_
  first | refine AtT.zn tk3 ?_ | refine AtT.zq tk3 ?_
  refine AtT.qZ ?_
  first | refine AtT.zk je ?_ | with_reducible refine AtT.zm je ?_ | refine AtT.zo je ?_
  refine AtT.jh Tryz.underlying57 tk2 ?_
  refine AtT.load rfl trivial rfl tk2 hvx (by decide) ?_
  refine AtT.zR rfl rfl ok47 (end_f b0 n a f c _ ks i j k hkj ⟨hkb.1,hkb.2.1⟩ (by omega) _ ht6.v) ?_
  rintro _ rfl
  refine AtT.jh Tryz.underlying57 tk2 ?_
  refine AtT.load rfl trivial rfl tk2 hvz (by decide) ?_
  first | refine AtT.ql ?_ | refine AtT.zP ?_
  refine AtT.keqI ?_
  refine AtT.done ?_
  refine At.nrm ?_
  refine At.qb rfl (fun hq=>?_) (fun hq=>?_)
  ·have hzx:z=x-k.p:=by omega
   subst hzx
   refine At.nrm ?_
   refine At.zh (.q 0 (.q 1 (.n false 2 (.n true 3 (.n true 4 .done))))) ?_
   first | refine AtT.zn tk32 ?_ | refine AtT.zq tk32 ?_
   first | refine AtT.zL qY ?_ | refine AtT.zS qY ?_ | refine AtT.zK qY ?_
   refine AtT.qz (bs32_1_0 _ _) ?_
   intro q44 V44 hV44 hq44
   have g44:Le V V44:=by first | exact hV44 | exact Le.trans (by assumption) hV44
   first | refine AtT.kappend Tryz.underlying32 rw43 ?_
   intro a45 c45
   first | refine AtT.qX tk32 ?_ | refine AtT.zU tk32 ?_
   refine AtT.done ?_
   refine At.nrm ?_
   refine At.zh (.q 0 (.q 1 (.n false 2 (.n true 3 .done)))) ?_
   first | refine AtT.zn qD ?_ | refine AtT.zq qD ?_
   first | refine AtT.zL qY ?_ | refine AtT.zS qY ?_ | refine AtT.zK qY ?_
   refine AtT.zR rfl rfl ok47 (end_f b0 n a f c _ ks i j k hkj ⟨hkb.1,hkb.2.1⟩ (by omega) _ (ht6.le hV44).v) ?_
   rintro _ rfl
   first | refine AtT.qX tk3 ?_ | refine AtT.zU tk3 ?_
   refine AtT.done ?_
   refine At.nrm ?_
   refine At.roundX (O':=.blk b4 (LC [iv ((i+k.w.toNat:Nat):Int)] 3)::.blk b3 (LC [.slice a45 (C++[(⟨i,j⟩:Ct)]).length c45] 32)::.row (.slice a45 (C++[(⟨i,j⟩:Ct)]).length c45) 43 2 (C++[(⟨i,j⟩:Ct)]).length (flat cte (C++[(⟨i,j⟩:Ct)]))::.blk b1 (LC [.pointer (some ⟨b0,0,none⟩)] 52)::Ds.map dfB) ⟨hV6.trans hV44,rfl,j,k,a45,c45,hkj,hck,hz,rfl⟩ zM.zC ?_
   rw[qy,List.length_append]
   exact Pt.qg
  ·have htk:(shL n f ks i ks.length).take (m+1)=(shL n f ks i ks.length).take m++[j]:=by
    obtain⟨hml,hmj⟩:=List.getElem?_eq_some_iff.1 hj
    rw[List.take_succ_eq_append_getElem hml,hmj]
   refine At.nrm ?_
   refine At.roundN (m+1) rfl ⟨hV6,fun j' hj' k' hk' hB'=>?_⟩ zM.zC ?_
   ·rw[htk]at hj'
    rcases List.mem_append.1 hj' with c' | c'
    ·exact hno j' c' k' hk' hB'
    ·obtain rfl:j'=j:=by simpa using c'
     rw[hkj]at hk'
     cases hk'
     rw[hz]at hB'
     cases hB'
     exact hq (by omega)
   ·exact Pt.qg
 ·rintro m D V6 O' hm ⟨hV6,hno⟩ hl rfl
  dsimp only at hm hno⊢
  rw[ysC,List.length_map]at hm
  subst hm
  rw[List.take_length]at hno
  have hnx:=h5.none hin hx hno
  refine At.nrm ?_
  refine At.zh (.q 0 (.q 1 (.n true 2 .done))) ?_
  first | refine AtT.zn tk3 ?_ | refine AtT.zq tk3 ?_
  first | refine AtT.ql ?_ | refine AtT.zP ?_
  first | refine AtT.qX tk3 ?_ | refine AtT.zU tk3 ?_
  refine AtT.done ?_
  refine At.nrm ?_
  refine At.roundD (cx:=⟨w0,V,[]⟩) (ι:=FsG) (DS:=fun g=>g.Ds.map mkD) (i:=⟨i,Ds,C,ao,co⟩) ⟨i+1,D::Ds,C,ao,co⟩ ?_ ?_ rfl ?_ ?_
  ·show n-(i+1)<n-i; omega
  ·exact⟨hV15'.trans hV6,by dsimp only; omega,e,p,x,hC,by dsimp only; omega,hnx,hpx⟩
  ·exact⟨rfl,rfl,rfl,trivial⟩
  ·dsimp only
   rw[show((i+1:Nat):Int)=(i:Int)+1 by omega]
   exact Pt.qg
 ·rintro D cd O' V6 ⟨hV6,rfl,j,k,a',c',hkj,hck,hBz,rfl⟩ hl
  have hkb:=hks.k k (List.mem_of_getElem? hkj)
  have hke:=jH hck hkb.1
  refine At.nrm ?_
  refine At.roundD (cx:=⟨w0,V,[]⟩) (ι:=FsG) (DS:=fun g=>g.Ds.map mkD) (i:=⟨i,Ds,C,ao,co⟩) ⟨i+k.w.toNat,D::Ds,C++[(⟨i,j⟩:Ct)],a',c'⟩ ?_ ?_ rfl ?_ ?_
  ·show n-(i+k.w.toNat)<n-i; omega
  ·exact⟨hV15'.trans hV6,by dsimp only; omega,i+k.w.toNat,p+k.p,x-k.p,.snoc hC hei hin hkj hck,Nat.le_refl _,hBz,by omega⟩
  ·exact⟨rfl,rfl,rfl,trivial⟩
  ·exact Pt.qg
theorem cuts_f (n:Nat) (a:Option Addr) (f:List Int) (c:Nat) (hf:RbOk n f) (ks:List Kd) (hks:KdOk ks) (V:View) (kv:Value) (hs:SlI V (.slice a f.length c) f) (hk:Sl V kde 3 kv ks) :
  Fnc Tryz.prog 8 [rbv n a f c,kv] V fun r V'=>∃ u C e p,r=.tuple #[u,iv 0]∧Sl V' cte 2 u C∧CtI n f ks C e p∧∃ B,BhOk n f ks B∧p=B 0:=by
 have hn:=hf.nb
 have hkw:∀ k∈ks,1≤k.w:=fun k hk=>(hks.k k hk).1
 refine qa Tryz.func8 rfl Tryz.ntmps8 (Nat.le_of_ble_eq_true rfl) ?_
 intro w0 hw0
 refine At.nrm ?_
 refine At.zh (.n false 0 (.q 1 (.q 2 .done))) ?_
 refine AtT.jA ?_
 intro b2
 refine AtT.zg ?_
 refine AtT.zg ?_
 refine AtT.done ?_
 refine At.nrm ?_
 refine At.zh (.q 0 (.q 1 (.n false 2 (.q 3 (.q 4 (.q 5 (.q 6 (.q 7 .done)))))))) ?_
 first | refine AtT.zL qR ?_ | refine AtT.zS qR ?_ | refine AtT.zK qR ?_
 refine AtT.zf ?_
 refine AtT.jM rfl rfl ok16 (copen_f n a f c hf ks hks _ _ hs hk) ?_
 rintro _ V13 hV13 ⟨b0,A,B,rfl,ht⟩
 refine AtT.zf ?_
 refine AtT.zV ?_
 refine AtT.zV ?_
 refine AtT.zg ?_
 refine AtT.zg ?_
 refine AtT.done ?_
 refine At.nrm ?_
 refine At.zh (.q 0 (.q 1 .done)) ?_
 refine AtT.zf ?_
 refine AtT.jT ?_
 refine AtT.done ?_
 refine At.nrm ?_
 refine At.qh rfl rfl ?_
 refine At.nrm ?_
 refine At.zh (.q 0 (.n false 1 (.q 2 .done))) ?_
 refine AtT.zf ?_
 refine AtT.jM rfl rfl ok17 (first_f b0 n a f c hf _ ks hks A B _ ht) ?_
 rintro v20 V20 hV20 ⟨C,e,p,hC,hCt,hB0⟩
 refine AtT.zg ?_
 refine AtT.done ?_
 refine At.nrm ?_
 have hCl:=hCt.len hkw
 have hBh:BhOk n f ks fun j=>(B[j]?).getD 0:=by
  obtain⟨F,h1,h2,h3,h4,h5,h6⟩:=ht
  exact h5.done (by omega) hkw
 obtain⟨aC,cC,rfl,k1,k2,_⟩:=id hC
 clear k1 k2
 refine At.zh (.q 0 (.q 1 (.n false 2 (.q 3 .done)))) ?_
 refine AtT.zf ?_
 first | refine AtT.zW Tryz.underlying32 ?_ | refine AtT.zX Tryz.underlying32 ?_
 refine AtT.makeSl rfl trivial cte rfl Tryz.underlying32 rw43 rfl rfl (by decide) rfl rfl (by omega) (by omega) (by decide) (m:=C.length) (za:=(⟨0,0⟩:Ct)) ?_
 intro b23
 refine AtT.zg ?_
 refine AtT.done ?_
 refine At.nrm ?_
 have hlen0:(flat cte (List.replicate C.length (⟨0,0⟩:Ct))).length=C.length*2:=by rw[zJ cte_len,List.length_replicate]
 refine At.zh (.q 0 (.q 1 (.n true 2 .done))) ?_
 refine AtT.zf ?_
 refine AtT.zf ?_
 refine AtT.copyO rfl trivial Tryz.underlying32 qY rfl rfl hC cte_len (fun _=>rfl) hlen0 (by repeat first|exact Upd.here|apply Upd.there) (by decide) ?_
 refine AtT.done ?_
 refine At.nrm ?_
 refine At.giveB (b:=b23) zM.zC (fun V6 hV6 hb6=>?_)
 refine At.zh (.q 0 (.q 1 (.q 2 .done))) ?_
 refine AtT.zf ?_
 refine AtT.zg ?_
 refine AtT.zg ?_
 refine AtT.done ?_
 refine At.nrm ?_
 exact At.ret2 rfl (.tmp rfl) (.tmp rfl) ⟨_,C,e,p,rfl,Sl.of_cells (l:=C) cte_len (qp hb6) (Nat.le_refl _) (by unfold maxLen; omega),hCt,_,hBh,by show p=(B[0]?).getD 0; rw[hB0]; rfl⟩
end Go.Proofs.YtmdcedioddchfaaGreatDoor.C
end
section
set_option linter.unusedVariables false
namespace Go.Gr
open Go.Lw Go.Ps
structure Od where
 g:Int
 m:Int
abbrev ode (o:Od):List Value:=[.int .i64 o.g,.int .i64 o.m]
theorem ode_len (o:Od):(ode o).length=2:=rfl
structure Sp where
 st:List Int
 pr:List Int
 os:List Od
structure SpOk (s:Sp):Prop where
 n:1≤s.st.length∧s.st.length≤5
 p:s.pr.length=s.st.length
 o:s.os.length≤8
 sb:∀ x∈s.st,0≤x∧x≤50
 pb:∀ x∈s.pr,0≤x∧x≤100
 ob:∀ o∈s.os,0≤o.g∧o.g<s.st.length∧0≤o.m∧o.m≤20
 pd:∀ (i:Nat) (a b:Int),s.pr[i]? = some a→s.pr[i+1]? = some b→b≤a
structure StB (S:List Int):Prop where
 len:S.length=5
 bd:∀ x∈S,0≤x∧x≤51
theorem StB.at {S:List Int} (h:StB S) (k:Nat):0≤S.getD k 0∧S.getD k 0≤51:=by
 by_cases c:k<S.length
 ·rw[List.getD_eq_getElem?_getD,List.getElem?_eq_getElem c]; exact h.bd _ (List.getElem_mem c)
 ·rw[List.getD_eq_getElem?_getD,List.getElem?_eq_none (by omega)]; exact⟨by decide,by decide⟩
def ordLe (os:List Od) (g:Int):Int:=(os.map fun o=>if o.g≤g then o.m else 0).sum
theorem ordLe_snoc (os:List Od) (o:Od) (g:Int):ordLe (os++[o]) g=ordLe os g+if o.g≤g then o.m else 0:=by
 unfold ordLe; rw[List.map_append,List.sum_append]; simp
theorem sumI_snoc (l:List Int) (x:Int):(l++[x]).sum=l.sum+x:=by rw[List.sum_append]; simp
theorem sum_bd {B:Int} (hB:0≤B):∀ {l:List Int},(∀ x∈l,0≤x∧x≤B)→0≤l.sum∧l.sum≤B*l.length
 | [],_=>by simp
 | x::l,h=>by
  have h1:=h x (by simp)
  have h2:=sum_bd hB (l:=l) fun y hy=>h y (List.mem_cons_of_mem _ hy)
  rw[List.sum_cons,List.length_cons]; push_cast; rw[Int.mul_add]; omega
theorem ordLe_bd {os:List Od} {g:Int} (h:∀ o∈os,0≤o.m∧o.m≤20):0≤ordLe os g∧ordLe os g≤20*os.length:=by
 have:=sum_bd (B:=20) (by decide) (l:=os.map fun o=>if o.g≤g then o.m else 0) fun x hx=>by
  obtain⟨o,ho,rfl⟩:=List.mem_map.1 hx
  have:=h o ho
  split<;>omega
 rwa[List.length_map]at this
def shrt (os:List Od) (S:List Int) (g:Nat):Int:=ordLe os g-(S.take (g+1)).sum
def canF (n:Nat) (os:List Od) (S:List Int):Bool:=(List.range n).all fun g=>decide (shrt os S g≤0)
theorem canF_iff {n:Nat} {os:List Od} {S:List Int} : canF n os S=true↔∀ g,g<n→shrt os S g≤0:=by
 unfold canF; rw[List.all_eq_true]
 exact⟨fun h g hg=>of_decide_eq_true (h g (List.mem_range.2 hg)),fun h g hg=>decide_eq_true (h g (List.mem_range.1 hg))⟩
def dn:Nat→List Nat
 | 0=>[]
 | g+1=>g::dn g
theorem dn_len:∀ g,(dn g).length=g
 | 0=>rfl
 | g+1=>by rw[dn,List.length_cons,dn_len g]
theorem dn_at:∀ {g j:Nat},j<g→(dn g)[j]? = some (g-1-j)
 | g+1,0,_=>rfl
 | g+1,j+1,h=>by rw[dn,List.getElem?_cons_succ,dn_at (by omega)]; congr 1; omega
def tk1 (p:List Int×Int) (h:Nat):Int:=min p.2 (p.1.getD h 0)
def stp (p:List Int×Int) (h:Nat):List Int×Int:=(p.1.set h (p.1.getD h 0-tk1 p h),p.2-tk1 p h)
def rnS (p:List Int×Int) (l:List Nat):List Int×Int:=l.foldl stp p
theorem rnS_snoc (p:List Int×Int) (l:List Nat) (h:Nat):rnS p (l++[h])=stp (rnS p l) h:=by unfold rnS; rw[List.foldl_append]; rfl
def fil (S:List Int) (o:Od):List Int:=(rnS (S,o.m) (dn (o.g.toNat+1))).1
def filL (S:List Int) (os:List Od):List Int:=os.foldl fil S
theorem filL_snoc (S:List Int) (os:List Od) (o:Od):filL S (os++[o])=fil (filL S os) o:=by unfold filL; rw[List.foldl_append]; rfl
structure RnB (p:List Int×Int):Prop where
 st:StB p.1
 w:0≤p.2∧p.2≤20
theorem RnB.tk {p:List Int×Int} (hp:RnB p) (h:Nat):0≤tk1 p h∧tk1 p h≤p.2∧tk1 p h≤p.1.getD h 0:=by
 have:=hp.st.at h
 have:=hp.w
 unfold tk1; omega
theorem RnB.stp {p:List Int×Int} (hp:RnB p) (h:Nat):RnB (Gr.stp p h):=by
 have h1:=hp.tk h
 have h2:=hp.st.at h
 have h3:=hp.w
 refine⟨⟨by unfold Gr.stp; rw[List.length_set]; exact hp.st.len,fun x hx=>?_⟩,?_⟩
 ·rcases List.mem_or_eq_of_mem_set hx with h | h
  ·exact hp.st.bd x h
  ·omega
 ·show 0≤p.2-tk1 p h∧p.2-tk1 p h≤20; omega
theorem RnB.rn {p:List Int×Int} (hp:RnB p):∀ l:List Nat,RnB (rnS p l):=fun l=>by
 induction l generalizing p with
 | nil=>exact hp
 | cons h l ih=>exact ih (hp.stp h)
theorem StB.fil {S:List Int} (hS:StB S) {o:Od} (ho:0≤o.m∧o.m≤20):StB (Gr.fil S o):=(RnB.rn (p:=(S,o.m)) ⟨hS,ho⟩ _).st
theorem StB.filL {S:List Int} (hS:StB S) {os:List Od} (ho:∀ o∈os,0≤o.m∧o.m≤20):StB (Gr.filL S os):=by
 unfold Gr.filL
 induction os generalizing S with
 | nil=>exact hS
 | cons o os ih=>exact ih (hS.fil (ho o (by simp))) fun o ho'=>ho o (by simp[ho'])
theorem getD_set (l:List Int) (i j:Nat) (x:Int) (hi:i<l.length):(l.set i x).getD j 0=if j=i then x else l.getD j 0:=by
 rw[List.getD_eq_getElem?_getD,List.getD_eq_getElem?_getD]
 by_cases c:j=i
 ·subst c; rw[if_pos rfl,List.getElem?_set_self hi]; rfl
 ·rw[if_neg c,List.getElem?_set_ne (fun e=>c e.symm)]
abbrev GM:=MM (Int×Int) Int
def sumG (N:GM) (h:Nat):Int:=(N.map fun e=>if e.1.2=(h:Int)then e.2.1 else 0).sum
theorem sumG_snoc (N:GM) (e:(Int×Int)×Int×Nat) (h:Nat):sumG (N++[e]) h=sumG N h+if e.1.2=(h:Int)then e.2.1 else 0:=by
 unfold sumG; rw[List.map_append,List.sum_append]; simp
theorem sumG_filter (N:GM) (h:Nat):sumG (N.filter fun e=>!decide (e.2.1=0)) h=sumG N h:=by
 unfold sumG
 induction N with
 | nil=>rfl
 | cons e N ih=>
  by_cases c:e.2.1=0
  ·rw[List.filter_cons,if_neg (by simp[c]),ih,List.map_cons,List.sum_cons,c]; simp
  ·rw[List.filter_cons,if_pos (by simp[c]),List.map_cons,List.map_cons,List.sum_cons,List.sum_cons,ih]
theorem sum_one {γ:Type} (k:γ→Nat) (F G:γ→Int):∀ {N:List γ} {e:γ},(N.map k).Nodup→e∈N→(∀ x∈N,k x≠k e→F x=G x)→(N.map F).sum=(N.map G).sum+F e-G e
 | b::N,e,hn,he,h=>by
  simp only[List.map_cons,List.nodup_cons,List.sum_cons]at hn⊢
  rcases List.mem_cons.1 he with rfl | he'
  ·have:N.map F=N.map G:=List.map_congr_left fun x hx=>h x (by simp[hx]) (fun c=>hn.1 (by rw[←c]; exact List.mem_map_of_mem hx))
   rw[this]; omega
  ·have h1:=sum_one k F G hn.2 he' (fun x hx=>h x (by simp[hx]))
   have hb:F b=G b:=h b (by simp) (fun c=>hn.1 (by rw[c]; exact List.mem_map_of_mem he'))
   omega
def sumU (N:GM) (seen:Array Nat) (h:Nat):Int:=(N.map fun e=>if e.1.2=(h:Int)∧seen.contains e.2.2=false then e.2.1 else 0).sum
theorem sumU_nil (N:GM) (h:Nat):sumU N #[] h=sumG N h:=by unfold sumU sumG; congr 1; refine List.map_congr_left fun e _=>?_; simp
theorem sum_nonneg:∀ {l:List Int},(∀ x∈l,0≤x)→0≤l.sum
 | [],_=>by simp
 | x::l,h=>by
  have:=h x (by simp)
  have:=sum_nonneg (l:=l) fun y hy=>h y (by simp[hy])
  rw[List.sum_cons]; omega
theorem sumU_nonneg {N:GM} (hN:∀ e∈N,0≤e.2.1) (seen:Array Nat) (h:Nat):0≤sumU N seen h:=sum_nonneg fun x hx=>by
 obtain⟨e,he,rfl⟩:=List.mem_map.1 hx
 have:=hN e he
 split<;>omega
theorem sumU_push {N:GM} (hb:(N.map (·.2.2)).Nodup) {e:(Int×Int)×Int×Nat} (he:e∈N) {seen:Array Nat} (hs:e.2.2∉seen) (h:Nat) :
  sumU N seen h=sumU N (seen.push e.2.2) h+if e.1.2=(h:Int)then e.2.1 else 0:=by
 have hs':seen.contains e.2.2=false:=by simpa using hs
 have:=sum_one (fun e:(Int×Int)×Int×Nat=>e.2.2) (fun e=>if e.1.2=(h:Int)∧seen.contains e.2.2=false then e.2.1 else 0) (fun x=>if x.1.2=(h:Int)∧(seen.push e.2.2).contains x.2.2=false then x.2.1 else 0) hb he (fun x hx hne=>by
  have:(seen.push e.2.2).contains x.2.2=seen.contains x.2.2:=by
   have hne':¬ x.2.2=e.2.2:=hne
   have h3:(e.2.2 == x.2.2)=false:=beq_eq_false_iff_ne.2 fun c=>hne' c.symm
   have h4:(x.2.2 == e.2.2)=false:=beq_eq_false_iff_ne.2 hne'
   rw[Array.contains_push]; simp[h3,h4,hne']
  rw[this])
 unfold sumU
 rw[this]
 simp only[hs',and_true]
 have h2:(seen.push e.2.2).contains e.2.2=true:=by simp
 simp only[h2,Bool.true_eq_false,and_false,if_false]
 omega
theorem sumU_end {N:GM} {seen:Array Nat} (h:∀ e∈N,e.2.2∈seen) (g:Nat):sumU N seen g=0:=by
 unfold sumU
 rw[List.map_congr_left (g:=fun _=>(0:Int)) fun e he=>?_]
 ·induction N with
  | nil=>rfl
  | cons e N ih=>rw[List.map_cons,List.sum_cons,ih fun e he=>h e (by simp[he])]; rfl
 ·have:seen.contains e.2.2=true:=by simpa using h e he
  simp only[this,Bool.true_eq_false,and_false,if_false]
def kF (pr T:List Int) (k:Nat):Int:=((List.range k).map fun g=>pr.getD g 0*T.getD g 0).sum
theorem costK_succ (pr T:List Int) (k:Nat):kF pr T (k+1)=kF pr T k+pr.getD k 0*T.getD k 0:=by
 unfold kF; rw[List.range_succ,List.map_append,List.sum_append]; simp
theorem mul_bd {a b A B:Int} (h1:0≤a∧a≤A) (h2:0≤b∧b≤B):0≤a*b∧a*b≤A*B:=
 ⟨Int.mul_nonneg h1.1 h2.1,Int.mul_le_mul h1.2 h2.2 h2.1 (by omega)⟩
theorem costK_bd {pr T:List Int} (hp:∀ x∈pr,0≤x∧x≤100) (hT:StB T) (k:Nat):0≤kF pr T k∧kF pr T k≤5100*k:=by
 induction k with
 | zero=>exact⟨Int.le_refl 0,Int.le_refl 0⟩
 | succ k ih=>
  have h1:0≤pr.getD k 0∧pr.getD k 0≤100:=by
   by_cases c:k<pr.length
   ·rw[List.getD_eq_getElem?_getD,List.getElem?_eq_getElem c]; exact hp _ (List.getElem_mem c)
   ·rw[List.getD_eq_getElem?_getD,List.getElem?_eq_none (by omega)]; exact⟨by decide,by decide⟩
  have h2:=mul_bd h1 (hT.at k)
  rw[costK_succ]; push_cast; omega
structure Spn (S:List Int) (os:List Od) (T:List Int):Prop where
 st:StB T
 ex:∃ os':List Od,os'.Perm os∧os'.Pairwise (fun a b=>a.g≤b.g)∧∀ h,h<5→T.getD h 0=S.getD h 0-(filL S os').getD h 0
end Go.Gr
end
section
set_option linter.unusedVariables false
namespace Go.Gr
open Go.Lw
structure InsK (K:Int→Int) (d:List Int) (j i:Nat):Prop where
 le:∀ (p q:Nat) (x y:Int),p<q→q≤i→q≠j→d[p]? = some x→d[q]? = some y→K x≤K y
structure SrtK (K:Int→Int) (d:List Int) (i:Nat):Prop where
 le:∀ (p q:Nat) (x y:Int),p<q→q<i→d[p]? = some x→d[q]? = some y→K x≤K y
theorem SrtK.start {K:Int→Int} {d:List Int} {i:Nat} (h:SrtK K d i):InsK K d i i:=⟨fun p q x y h1 h2 h3=>h.le p q x y h1 (by omega)⟩
theorem InsK.stop {K:Int→Int} {d:List Int} {j i:Nat} (h:InsK K d j i) (hi:i<d.length) (hj:j≤i) (hs:j=0∨∀ x y,d[j-1]? = some x→d[j]? = some y→K x≤K y):SrtK K d (i+1):=⟨fun p q x y h1 h2 hx hy=>by
 by_cases c:q=j
 ·subst c
  rcases hs with rfl | hs
  ·omega
  obtain⟨z,hz⟩:∃ z,d[q-1]? = some z:=⟨_,List.getElem?_eq_getElem (by omega)⟩
  have h5:=hs z y hz hy
  by_cases c2:p=q-1
  ·subst c2; rw[hx]at hz; cases hz; exact h5
  ·have:=h.le p (q-1) x z (by omega) (by omega) (by omega) hx hz
   omega
 ·exact h.le p q x y h1 (by omega) c hx hy⟩
theorem InsK.swap {K:Int→Int} {d:List Int} {j i:Nat} {x y:Int} (h:InsK K d j i) (h0:0<j) (hj:j≤i) (hi:i<d.length) (hx:d[j-1]? = some x) (hy:d[j]? = some y) (hl:K y≤K x):InsK K ((d.set j x).set (j-1) y) (j-1) i:=⟨fun p q u v h1 h2 h3 hu hv=>by
 have gt:∀ (k:Nat) (w:Int),((d.set j x).set (j-1) y)[k]? = some w→(k=j-1∧w=y)∨(k=j∧w=x)∨(k≠j∧k≠j-1∧d[k]? = some w):=fun k w hw=>by
  by_cases c:k=j-1
  ·subst c
   rw[List.getElem?_set_self (by rw[List.length_set]; omega)]at hw
   exact .inl ⟨rfl,(Option.some.inj hw).symm⟩
  ·rw[List.getElem?_set_ne (fun e=>c e.symm)]at hw
   by_cases c2:k=j
   ·subst c2
    rw[List.getElem?_set_self (by omega)]at hw
    exact .inr (.inl ⟨rfl,(Option.some.inj hw).symm⟩)
   ·rw[List.getElem?_set_ne (fun e=>c2 e.symm)]at hw
    exact .inr (.inr ⟨c2,c,hw⟩)
 rcases gt q v hv with ⟨e,_⟩ | ⟨rfl,rfl⟩ | ⟨c1,c2,hv'⟩
 ·exact absurd e h3
 ·rcases gt p u hu with ⟨rfl,rfl⟩ | ⟨e,_⟩ | ⟨d1,d2,hu'⟩
  ·exact hl
  ·omega
  ·exact h.le p (q-1) u v (by omega) (by omega) (by omega) hu' hx
 ·rcases gt p u hu with ⟨rfl,rfl⟩ | ⟨rfl,rfl⟩ | ⟨d1,d2,hu'⟩
  ·exact h.le j q u v (by omega) h2 c1 hy hv'
  ·exact h.le (p-1) q u v (by omega) h2 c1 hx hv'
  ·exact h.le p q u v h1 h2 c1 hu' hv'⟩
theorem swapI_perm {L:List Int} {k:Nat} {x y:Int} (hk:0<k) (hx:L[k-1]? = some x) (hy:L[k]? = some y):((L.set k x).set (k-1) y).Perm L:=by
 obtain⟨h1,rfl⟩:=List.getElem?_eq_some_iff.1 hx
 obtain⟨h2,rfl⟩:=List.getElem?_eq_some_iff.1 hy
 exact List.set_set_perm h2 h1
theorem SrtK.pw {K:Int→Int} {d:List Int} (h:SrtK K d d.length):d.Pairwise fun a b=>K a≤K b:=by
 rw[List.pairwise_iff_getElem]
 intro i j hi hj hij
 exact h.le i j _ _ hij hj (List.getElem?_eq_getElem hi) (List.getElem?_eq_getElem hj)
def kG (os:List Od) (i:Int):Int:=(os[i.toNat]?).elim 0 (·.g)
end Go.Gr
end
section
set_option linter.unusedVariables false
namespace Go.Gr
open Go.Lw
def oA (os:List Od) (i:Int):Od:=(os[i.toNat]?).getD ⟨0,0⟩
theorem oA_at {os:List Od} {i:Nat} {o:Od} (h:os[i]? = some o):oA os (i:Int)=o:=by unfold oA; rw[Int.toNat_natCast,h]; rfl
theorem oA_g (os:List Od) (i:Int):kG os i=(oA os i).g:=by
 unfold kG oA
 cases os[i.toNat]?<;>rfl
abbrev orL (n:Nat):List Int:=(List.range n).map fun(i:Nat)=>(i:Int)
theorem orL_len (n:Nat):(orL n).length=n:=by simp[orL]
theorem orL_succ (n:Nat):orL (n+1)=orL n++[(n:Int)]:=by unfold orL; rw[List.range_succ,List.map_append]; rfl
theorem orL_mem {n:Nat} {x:Int} : x∈orL n↔∃ i:Nat,i<n∧x=i:=by
 unfold orL
 rw[List.mem_map]
 exact⟨fun⟨i,hi,e⟩=>⟨i,List.mem_range.1 hi,e.symm⟩,fun⟨i,hi,e⟩=>⟨i,List.mem_range.2 hi,e.symm⟩⟩
theorem orL_nodup (n:Nat):(orL n).Nodup:=List.pairwise_map.2 ((List.nodup_range (n:=n)).imp fun {a b} h e=>h (Int.ofNat.inj e))
theorem orL_os (os:List Od):(orL os.length).map (oA os)=os:=by
 apply List.ext_getElem
 ·simp
 ·intro i h1 h2
  simp only[orL,List.map_map,List.getElem_map,List.getElem_range,Function.comp]
  exact oA_at (List.getElem?_eq_getElem h2)
structure RI (S0:List Int) (N:GM) (c:Nat) (T:List Int):Prop where
 ok:MOk N c
 bd:∀ e∈N,0≤e.1.2∧e.1.2<5∧0≤e.2.1
 st:StB T
 sum:∀ h,h<5→sumG N h=S0.getD h 0-T.getD h 0
theorem RI.nil {S:List Int} (hS:StB S):RI S [] 0 S:=⟨MOk.nil 0,fun e he=>(by cases he),hS,fun h _=>by show(0:Int)=_; omega⟩
theorem RI.step {S0:List Int} {N:GM} {c h:Nat} {i:Int} {p:List Int×Int} (hR:RI S0 N c p.1) (hp:RnB p) (hh:h<5) (hk:∀ e∈N,e.1≠(i,(h:Int))):RI S0 (N++[((i,(h:Int)),tk1 p h,c)]) (c+1) (stp p h).1:=by
 have ht:=hp.tk h
 have hl:=hR.st.len
 refine⟨⟨?_,?_,fun e he=>?_⟩,fun e he=>?_,(hp.stp h).st,fun g hg=>?_⟩
 ·rw[List.map_append]
  exact List.nodup_append.2 ⟨hR.ok.keys,by simp,fun x hx y hy=>by
   rw[List.map_cons,List.map_nil,List.mem_singleton]at hy
   obtain⟨e,he,rfl⟩:=List.mem_map.1 hx
   rw[hy]; exact hk e he⟩
 ·rw[List.map_append]
  exact List.nodup_append.2 ⟨hR.ok.borns,by simp,fun x hx y hy=>by
   rw[List.map_cons,List.map_nil,List.mem_singleton]at hy
   obtain⟨e,he,rfl⟩:=List.mem_map.1 hx
   have:=hR.ok.lt e he
   rw[hy]; show e.2.2≠c; omega⟩
 ·rcases List.mem_append.1 he with h1 | h1
  ·have:=hR.ok.lt e h1; omega
  ·rw[List.mem_singleton]at h1; subst h1; exact Nat.lt_succ_self _
 ·rcases List.mem_append.1 he with h1 | h1
  ·exact hR.bd e h1
  ·rw[List.mem_singleton]at h1; subst h1
   exact⟨Int.natCast_nonneg _,by show(h:Int)<5; omega,ht.1⟩
 ·rw[sumG_snoc,hR.sum g hg]
  show _+(if (h:Int)=(g:Int)then tk1 p h else 0)=S0.getD g 0-(p.1.set h (p.1.getD h 0-tk1 p h)).getD g 0
  rw[getD_set _ _ _ _ (by omega)]
  by_cases c1:g=h
  ·subst c1; rw[if_pos rfl,if_pos rfl]; omega
  ·rw[if_neg (fun e=>c1 (by omega)),if_neg c1]; omega
end Go.Gr
end
section
set_option linter.unusedVariables false
namespace Go.Cx
open Go.Lw Go.Gr Go.Cc
theorem set_same (l:List Int) (h:Nat):l.set h (l.getD h 0-0)=l:=by
 apply List.ext_getElem?
 intro j
 by_cases c:j=h
 ·subst c
  by_cases d:j<l.length
  ·rw[List.getElem?_set_self d,List.getD_eq_getElem?_getD,List.getElem?_eq_getElem d,Option.getD_some,Int.sub_zero]
  ·rw[List.getElem?_eq_none (by rw[List.length_set]; omega),List.getElem?_eq_none (by omega)]
 ·rw[List.getElem?_set_ne (fun e=>c e.symm)]
theorem rnS_zero {S:List Int} (hS:StB S):∀ l:List Nat,rnS (S,0) l=(S,0)
 | []=>rfl
 | h::l=>by
  have h1:tk1 (S,0) h=0:=by have:=hS.at h; show min 0 (S.getD h 0)=0; omega
  have h2:stp (S,0) h=(S,0):=by
   unfold stp; rw[h1]
   show(S.set h (S.getD h 0-0),(0:Int)-0)=_
   rw[set_same]; rfl
  show rnS (stp (S,0) h) l=_
  rw[h2]; exact rnS_zero hS l
theorem set_ok {S:List Int} (hS:StB S) {g:Nat} {x:Int} (hx:0≤x∧x≤51):StB (S.set g x):=⟨by rw[List.length_set]; exact hS.len,fun y hy=>by
 rcases List.mem_or_eq_of_mem_set hy with h | h
 ·exact hS.bd y h
 ·rw[h]; exact hx⟩
theorem fil_own {S:List Int} {g:Nat} {m:Int} (hS:StB S) (hm:0≤m∧m≤S.getD g 0):fil S ⟨(g:Int),m⟩=S.set g (S.getD g 0-m):=by
 have hb:=hS.at g
 have h1:tk1 (S,m) g=m:=by show min m (S.getD g 0)=m; omega
 have h2:stp (S,m) g=(S.set g (S.getD g 0-m),0):=by
  unfold stp; rw[h1]
  show(S.set g (S.getD g 0-m),m-m)=_
  rw[Int.sub_self]
 unfold fil
 show(rnS (S,m) (dn ((g:Int).toNat+1))).1=_
 rw[Int.toNat_natCast]
 show(rnS (stp (S,m) g) (dn g)).1=_
 rw[h2,rnS_zero (set_ok hS (by omega))]
def osL (st:List Int) (k:Nat):List Od:=(List.range k).map fun(i:Nat)=>⟨(i:Int),st.getD i 0⟩
theorem osL_len (st:List Int) (k:Nat):(osL st k).length=k:=by simp[osL]
theorem osL_succ (st:List Int) (k:Nat):osL st (k+1)=osL st k++[⟨(k:Int),st.getD k 0⟩]:=by unfold osL; rw[List.range_succ,List.map_append]; rfl
theorem osL_app (st:List Int) (x:Int):∀ k,k≤st.length→osL (st++[x]) k=osL st k:=fun k hk=>by
 unfold osL
 refine List.map_congr_left fun i hi=>?_
 have:=List.mem_range.1 hi
 rw[List.getD_eq_getElem?_getD,List.getD_eq_getElem?_getD,List.getElem?_append_left (by omega)]
theorem osL_snoc (st:List Int) (x:Int):osL (st++[x]) (st.length+1)=osL st st.length++[⟨(st.length:Int),x⟩]:=by
 rw[osL_succ,osL_app _ _ _ (Nat.le_refl _)]
 congr 3
 simp[List.getD_eq_getElem?_getD]
theorem osL_mem {st:List Int} {k:Nat} {o:Od} (h:o∈osL st k):∃ i:Nat,i<k∧o=⟨(i:Int),st.getD i 0⟩:=by
 obtain⟨i,hi,rfl⟩:=List.mem_map.1 h
 exact⟨i,List.mem_range.1 hi,rfl⟩
theorem osL_pw (st:List Int) (k:Nat):(osL st k).Pairwise fun a b=>a.g<b.g:=List.pairwise_map.2 ((List.pairwise_lt_range (n:=k)).imp fun {a b} h=>by show(a:Int)<(b:Int); omega)
theorem perm_os {st:List Int} {k:Nat} {os':List Od} (hp:os'.Perm (osL st k)) (hw:os'.Pairwise fun a b=>a.g≤b.g):os'=osL st k:=by
 refine hp.eq_of_pairwise (le:=fun a b=>a.g≤b.g) (fun a b ha hb h1 h2=>?_) hw ((osL_pw st k).imp fun h=>Int.le_of_lt h)
 obtain⟨i,_,rfl⟩:=osL_mem (hp.mem_iff.1 ha)
 obtain⟨j,_,rfl⟩:=osL_mem hb
 dsimp only at h1 h2
 rw[show i=j by omega]
theorem filL_own {S st:List Int} (hS:StB S) (h0:∀ i,0≤st.getD i 0):∀ k,k≤5→(∀ i,i<k→st.getD i 0≤S.getD i 0)→StB (filL S (osL st k))∧∀ h,(filL S (osL st k)).getD h 0=S.getD h 0-if h<k then st.getD h 0 else 0
 | 0,_,_=>⟨hS,fun h=>by rw[if_neg (by omega),Int.sub_zero]; rfl⟩
 | k+1,hk,hle=>by
  obtain⟨h1,h2⟩:=filL_own hS h0 k (by omega) fun i hi=>hle i (by omega)
  have h3:=h2 k
  rw[if_neg (by omega),Int.sub_zero]at h3
  have h4:=hle k (by omega)
  have h5:=h0 k
  have h6:=h1.at k
  have h7:=h1.len
  rw[osL_succ,filL_snoc,fil_own h1 (by omega)]
  refine⟨set_ok h1 (by omega),fun h=>?_⟩
  rw[getD_set _ _ _ _ (by omega)]
  by_cases c:h=k
  ·subst c; rw[if_pos rfl,if_pos (by omega),h3]
  ·rw[if_neg c,h2 h]
   by_cases d:h<k
   ·rw[if_pos d,if_pos (by omega)]
   ·rw[if_neg d,if_neg (by omega)]
theorem spn_own {S st T:List Int} (hS:StB S) (h0:∀ i,0≤st.getD i 0) (hn:st.length≤5) (hle:∀ i,i<st.length→st.getD i 0≤S.getD i 0) (h:Spn S (osL st st.length) T):∀ g,g<5→T.getD g 0=st.getD g 0:=fun g hg=>by
 obtain⟨os',hp,hw,hs⟩:=h.ex
 rw[perm_os hp hw]at hs
 rw[hs g hg,(filL_own hS h0 _ hn hle).2 g]
 by_cases c:g<st.length
 ·rw[if_pos c]; omega
 ·rw[if_neg c,List.getD_eq_getElem?_getD (l:=st),List.getElem?_eq_none (by omega)]
  show _-(_-0)=(0:Int); omega
theorem costK_congr {pr T U:List Int} {n:Nat} (h:∀ g,g<n→T.getD g 0=U.getD g 0):kF pr T n=kF pr U n:=by
 unfold kF
 congr 1
 refine List.map_congr_left fun g hg=>?_
 rw[h g (List.mem_range.1 hg)]
theorem ordLe_os (st:List Int) (g:Nat):∀ k,ordLe (osL st k) g=((List.range k).map fun i=>if i≤g then st.getD i 0 else 0).sum
 | 0=>rfl
 | k+1=>by
  rw[osL_succ,ordLe_snoc,ordLe_os st g k,List.range_succ,List.map_append,List.sum_append]
  simp only[List.map_cons,List.map_nil,List.sum_cons,List.sum_nil,Int.add_zero]
  by_cases c:k≤g
  ·rw[if_pos (by omega),if_pos c]
  ·rw[if_neg (by omega),if_neg c]
theorem take_sum (S:List Int):∀ k,(S.take k).sum=((List.range k).map fun i=>S.getD i 0).sum
 | 0=>rfl
 | k+1=>by
  rw[List.take_add_one,List.sum_append,take_sum S k,List.range_succ,List.map_append,List.sum_append]
  congr 1
  simp only[List.map_cons,List.map_nil,List.getD_eq_getElem?_getD]
  cases S[k]?<;>simp
end Go.Cx
end
section
set_option linter.unusedVariables false
namespace Go.Cx
open Go.Lw Go.Gr Go.Cc
def prA (ks:List Kd) (j:Nat):Int:=(ks[j]?).elim 0 (·.p)
theorem prA_at {ks:List Kd} {j:Nat} {k:Kd} (h:ks[j]? = some k):prA ks j=k.p:=by unfold prA; rw[h]; rfl
def xe (C:List Ct) (j:Nat):Int:=((C.filter fun c=>decide (c.k=(j:Int))).length:Int)
theorem cntK_snoc (C:List Ct) (c:Ct) (j:Nat):xe (C++[c]) j=xe C j+if c.k=(j:Int)then 1 else 0:=by
 unfold xe
 rw[List.filter_append,List.length_append]
 by_cases h:c.k=(j:Int)
 ·rw[if_pos h]; simp[h]
 ·rw[if_neg h]; simp[h]
theorem cntK_bd (C:List Ct) (j:Nat):0≤xe C j∧xe C j≤C.length:=by
 have:=List.length_filter_le (fun c:Ct=>decide (c.k=(j:Int))) C
 unfold xe; omega
structure CtR (n:Nat) (f:List Int) (ks:List Kd) (C:List Ct) (E:Nat→Nat) (W:Nat→Int):Prop where
 e0:E 0=0
 w0:W 0=0
 st:∀ t,t<C.length→∃ (i j:Nat) (k:Kd),C[t]? = some ⟨(i:Int),(j:Int)⟩∧ks[j]? = some k∧i<n∧canB n f i k=true∧E t≤i∧E (t+1)=i+k.w.toNat∧W (t+1)=W t+k.p
theorem CtI.run {n:Nat} {f:List Int} {ks:List Kd} {C:List Ct} {e:Nat} {p:Int} (h:CtI n f ks C e p):∃ E W,CtR n f ks C E W∧E C.length=e∧W C.length=p:=by
 induction h with
 | nil=>exact⟨fun _=>0,fun _=>0,⟨rfl,rfl,fun t ht=>(by cases ht)⟩,rfl,rfl⟩
 | @snoc C e i j p k h he hi hk hc ih=>
  obtain⟨E,W,hR,hE,hW⟩:=ih
  refine⟨fun t=>if t≤C.length then E t else i+k.w.toNat,fun t=>if t≤C.length then W t else p+k.p,⟨?_,?_,fun t ht=>?_⟩,?_,?_⟩
  ·show(if 0≤C.length then E 0 else _)=0
   rw[if_pos (Nat.zero_le _)]; exact hR.e0
  ·show(if 0≤C.length then W 0 else _)=0
   rw[if_pos (Nat.zero_le _)]; exact hR.w0
  ·rw[List.length_append,List.length_singleton]at ht
   by_cases c:t<C.length
   ·obtain⟨i',j',k',h1,h2,h3,h4,h5,h6,h7⟩:=hR.st t c
    refine⟨i',j',k',by rw[List.getElem?_append_left c]; exact h1,h2,h3,h4,?_,?_,?_⟩
    ·rw[if_pos (by omega)]; exact h5
    ·rw[if_pos (by omega)]; exact h6
    ·rw[if_pos (by omega),if_pos (by omega)]; exact h7
   ·obtain rfl:t=C.length:=by omega
    refine⟨i,j,k,by simp,hk,hi,hc,?_,?_,?_⟩
    ·rw[if_pos (Nat.le_refl _),hE]; exact he
    ·rw[if_neg (by omega)]
    ·rw[if_neg (by omega),if_pos (Nat.le_refl _),hW]
  ·dsimp only; rw[List.length_append,List.length_singleton,if_neg (by omega)]
  ·dsimp only; rw[List.length_append,List.length_singleton,if_neg (by omega)]
theorem CtR.wbd {n:Nat} {f:List Int} {ks:List Kd} {C:List Ct} {E:Nat→Nat} {W:Nat→Int} (h:CtR n f ks C E W) (hks:KdOk ks):∀ t,t≤C.length→0≤W t∧W t≤1000*t
 | 0,_=>by rw[h.w0]; exact⟨Int.le_refl _,Int.le_refl _⟩
 | t+1,ht=>by
  have h1:=CtR.wbd h hks t (by omega)
  obtain⟨i,j,k,_,h2,_,_,_,_,h3⟩:=h.st t (by omega)
  have h4:=hks.k k (List.mem_of_getElem? h2)
  rw[h3]; push_cast; omega
theorem CtI.tot {n:Nat} {f:List Int} {ks:List Kd} {C:List Ct} {e:Nat} {p:Int} (h:CtI n f ks C e p):((List.range ks.length).map fun j=>prA ks j*xe C j).sum=p:=by
 induction h with
 | nil=>
  have:∀ m:Nat,((List.range m).map fun j=>prA ks j*xe [] j).sum=0:=fun m=>by
   induction m with
   | zero=>rfl
   | succ m ih=>rw[List.range_succ,List.map_append,List.sum_append,ih]; simp[xe]
  exact this _
 | @snoc C e i j p k h he hi hk hc ih=>
  have hj:=(List.getElem?_eq_some_iff.1 hk).1
  have key:∀ m:Nat,((List.range m).map fun x=>prA ks x*xe (C++[⟨(i:Int),(j:Int)⟩]) x).sum=((List.range m).map fun x=>prA ks x*xe C x).sum+if j<m then k.p else 0:=fun m=>by
   induction m with
   | zero=>rfl
   | succ m ihm=>
    rw[List.range_succ,List.map_append,List.map_append,List.sum_append,List.sum_append,ihm]
    simp only[List.map_cons,List.map_nil,List.sum_cons,List.sum_nil,Int.add_zero]
    rw[cntK_snoc]
    by_cases c:j=m
    ·subst c
     rw[if_pos rfl,if_neg (Nat.lt_irrefl _),if_pos (Nat.lt_succ_self _),Int.mul_add,Int.mul_one,prA_at hk]; omega
    ·have e1:(if (⟨(i:Int),(j:Int)⟩:Ct).k=(m:Int)then (1:Int)else 0)=0:=if_neg (fun h=>c (Int.ofNat.inj h))
     have e2:(if j<m+1 then k.p else 0)=if j<m then k.p else 0:=by
      by_cases d:j<m
      ·rw[if_pos d,if_pos (by omega)]
      ·rw[if_neg d,if_neg (by omega)]
     rw[e1,e2,Int.add_zero]; omega
  rw[key,ih,if_pos hj]
theorem perm_sum {l m:List Int} (h:l.Perm m):l.sum=m.sum:=by
 induction h with
 | nil=>rfl
 | cons x _ ih=>rw[List.sum_cons,List.sum_cons,ih]
 | swap x y l=>rw[List.sum_cons,List.sum_cons,List.sum_cons,List.sum_cons]; omega
 | trans _ _ h1 h2=>rw[h1,h2]
structure SelI (ks:List Kd) (P:List Nat):Prop where
 nd:P.Nodup
 lt:∀ k∈P,k<ks.length
 top:∀ (i x:Nat),P[i]? = some x→∀ y,y<ks.length→y∉P.take (i+1)→prA ks y≤prA ks x
theorem SelI.nil (ks:List Kd):SelI ks []:=⟨List.nodup_nil,fun k hk=>(by cases hk),fun i x h=>(by simp at h)⟩
theorem SelI.step {ks:List Kd} {P:List Nat} {b:Nat} (h:SelI ks P) (hb:b<ks.length) (hn:b∉P) (ht:∀ y,y<ks.length→y∉P→prA ks y≤prA ks b):SelI ks (P++[b]):=by
 refine⟨List.nodup_append.2 ⟨h.nd,by simp,fun x hx y hy=>by rw[List.mem_singleton]at hy; subst hy; intro e; subst e; exact hn hx⟩,fun k hk=>?_,fun i x hx y hy hm=>?_⟩
 ·rcases List.mem_append.1 hk with h1 | h1
  ·exact h.lt k h1
  ·rw[List.mem_singleton]at h1; omega
 ·by_cases c:i<P.length
  ·rw[List.getElem?_append_left c]at hx
   rw[List.take_append_of_le_length (by omega)]at hm
   exact h.top i x hx y hy hm
  ·have hi:i=P.length:=by
    have:=(List.getElem?_eq_some_iff.1 hx).1
    rw[List.length_append,List.length_singleton]at this; omega
   subst hi
   simp at hx
   subst hx
   rw[List.take_of_length_le (by simp)]at hm
   exact ht y hy fun e=>hm (List.mem_append_left _ e)
theorem SelI.len {ks:List Kd} {P:List Nat} (h:SelI ks P):P.length≤ks.length:=by
 have:=h.nd.length_le_of_subset (l₂:=List.range ks.length) fun x hx=>List.mem_range.2 (h.lt x hx)
 rwa[List.length_range]at this
theorem SelI.left {ks:List Kd} {P:List Nat} (hl:P.length<ks.length):∃ y,y<ks.length∧y∉P:=by
 refine Classical.byContradiction fun hc=>?_
 have:=(List.nodup_range (n:=ks.length)).length_le_of_subset (l₂:=P) fun x hx=>Classical.byContradiction fun hn=>hc ⟨x,List.mem_range.1 hx,hn⟩
 rw[List.length_range]at this; omega
theorem SelI.perm {ks:List Kd} {P:List Nat} (h:SelI ks P) (hl:P.length=ks.length):P.Perm (List.range ks.length):=by
 refine(List.perm_ext_iff_of_nodup h.nd List.nodup_range).2 fun x=>⟨fun hx=>List.mem_range.2 (h.lt x hx),fun hx=>Classical.byContradiction fun hn=>?_⟩
 have h1:=List.Nodup.length_le_of_subset (List.nodup_cons.2 ⟨hn,h.nd⟩) (l₂:=List.range ks.length) fun y hy=>by
  rcases List.mem_cons.1 hy with rfl | hy
  ·exact hx
  ·exact List.mem_range.2 (h.lt y hy)
 rw[List.length_cons,List.length_range]at h1; omega
def BsV (ks:List Kd) (P:List Nat) (m:Nat) (v:Int):Prop:=(v = -1∧∀ y,y<m→y∈P)∨∃ b:Nat,v=b∧b<m∧b∉P∧∀ y,y<m→y∉P→prA ks y≤prA ks b
def dnL (n:Nat) (P:List Nat):List Int:=(List.range n).map fun k=>if k∈P then 1 else 0
theorem dnL_len (n:Nat) (P:List Nat):(dnL n P).length=n:=by simp[dnL]
theorem dnL_at {n:Nat} {P:List Nat} {k:Nat} (h:k<n):(dnL n P)[k]? = some (if k∈P then 1 else 0):=by
 unfold dnL
 rw[List.getElem?_map,List.getElem?_range h]; rfl
theorem dnL_nil (n:Nat):dnL n []=List.replicate n 0:=by
 apply List.ext_getElem?
 intro k
 by_cases c:k<n
 ·rw[dnL_at c,List.getElem?_replicate,if_pos c]; simp
 ·rw[List.getElem?_eq_none (by rw[dnL_len]; omega),List.getElem?_eq_none (by simp; omega)]
theorem dnL_set {n:Nat} {P:List Nat} {b:Nat} (h:b<n):(dnL n P).set b 1=dnL n (P++[b]):=by
 apply List.ext_getElem?
 intro k
 by_cases c:k<n
 ·by_cases d:k=b
  ·subst d
   rw[List.getElem?_set_self (by rw[dnL_len]; exact h),dnL_at c,if_pos (by simp)]
  ·rw[List.getElem?_set_ne (fun e=>d e.symm),dnL_at c,dnL_at c]
   simp[d]
 ·rw[List.getElem?_eq_none (by rw[List.length_set,dnL_len]; omega),List.getElem?_eq_none (by rw[dnL_len]; omega)]
theorem costK_map (a b:Nat→Int):∀ {P:List Nat} (k:Nat),k≤P.length→kF (P.map a) (P.map b) k=((P.take k).map fun i=>a i*b i).sum
 | P,0,_=>rfl
 | P,k+1,h=>by
  have hx:P[k]? = some P[k]:=List.getElem?_eq_getElem (by omega)
  rw[costK_succ,costK_map a b k (by omega),List.take_add_one,hx,List.map_append,List.sum_append,List.getD_eq_getElem?_getD,List.getD_eq_getElem?_getD,List.getElem?_map,List.getElem?_map,hx]
  simp
def shS (ks:List Kd) (C:List Ct) (P:List Nat):Sp:=⟨P.map (xe C),P.map (prA ks),osL (P.map (xe C)) P.length⟩
theorem shS_snoc (ks:List Kd) (C:List Ct) (P:List Nat) (b:Nat):(shS ks C (P++[b])).st=(shS ks C P).st++[xe C b]∧(shS ks C (P++[b])).pr=(shS ks C P).pr++[prA ks b]∧(shS ks C (P++[b])).os=(shS ks C P).os++[⟨(P.length:Int),xe C b⟩]:=by
 refine⟨by simp[shS],by simp[shS],?_⟩
 show osL ((P++[b]).map (xe C)) (P++[b]).length=osL (P.map (xe C)) P.length++[_]
 have:=osL_snoc (P.map (xe C)) (xe C b)
 rw[List.length_map]at this
 rw[List.map_append,List.length_append]; exact this
theorem shS_ok {ks:List Kd} {C:List Ct} {P:List Nat} (h:SelI ks P) (hl:P.length=ks.length) (hks:KdOk ks) (h5:ks.length≤5) (hm:∀ b∈P,prA ks b≤100∧xe C b≤20):SpOk (shS ks C P):=by
 have hn:=hks.n
 have hp0:∀ b,b<ks.length→0≤prA ks b:=fun b hb=>by
  rw[prA_at (List.getElem?_eq_getElem hb)]
  have:=hks.k ks[b] (List.getElem_mem hb); omega
 refine⟨by simp[shS]; omega,by simp[shS],by simp[shS,osL_len]; omega,fun x hx=>?_,fun x hx=>?_,fun o ho=>?_,fun i a b ha hb=>?_⟩
 ·obtain⟨b,hb,rfl⟩:=List.mem_map.1 hx
  have:=(hm b hb).2
  have:=cntK_bd C b
  omega
 ·obtain⟨b,hb,rfl⟩:=List.mem_map.1 hx
  exact⟨hp0 b (h.lt b hb),(hm b hb).1⟩
 ·obtain⟨i,hi,rfl⟩:=osL_mem ho
  have e:(P.map (xe C)).getD i 0=xe C P[i]:=by rw[List.getD_eq_getElem?_getD,List.getElem?_map,List.getElem?_eq_getElem hi]; rfl
  have:=(hm P[i] (List.getElem_mem hi)).2
  have:=cntK_bd C P[i]
  dsimp only
  rw[e]
  exact⟨Int.natCast_nonneg _,by simp[shS]; omega,by omega,by omega⟩
 ·simp only[shS,List.getElem?_map]at ha hb
  cases hx:P[i]? with
  | none=>rw[hx]at ha; cases ha
  | some x=>
   cases hy:P[i+1]? with
   | none=>rw[hy]at hb; cases hb
   | some y=>
    rw[hx]at ha; rw[hy]at hb
    obtain rfl:prA ks x=a:=Option.some.inj ha
    obtain rfl:prA ks y=b:=Option.some.inj hb
    refine h.top i x hx y (h.lt y (List.mem_of_getElem? hy)) fun hmm=>?_
    have h1:=h.nd.sublist (List.take_sublist (i+2) P)
    rw[List.take_add_one,hy]at h1
    exact(List.nodup_append.1 h1).2.2 _ hmm _ (by simp) rfl
end Go.Cx
end
section
set_option linter.unusedVariables false
namespace Go.Proofs.YtmdcedioddchfaaGreatDoor.C
open Go.Lw Go.Ps Go.Cc Go.Cx Go.RowKit
open Go.Gl (iv ivs qy)
theorem rRib0_f (n:Int) (a:Option Addr) (f:List Int) (c:Nat) (hf:RbOk n f) (V:View) (hs:SlI V (.slice a f.length c) f):Fnc Tryz.prog 4 [rbv n a f c] V fun r _=>r=iv 0:=
 (rRibbon_f n a f c V hs).mono fun r V' _ ⟨e,h1,h2⟩=>by rw[h1,h2.2 hf]
theorem rKin0_f (ks:List Kd) (hks:KdOk ks) (V:View) (v:Value) (hs:Sl V kde 3 v ks):Fnc Tryz.prog 5 [v] V fun r _=>r=iv 0:=
 (rKinds_f ks V v hs).mono fun r V' _ ⟨e,h1,h2⟩=>by rw[h1,h2.2 hks]
theorem both_f (n:Int) (a:Option Addr) (f:List Int) (c:Nat) (hf:RbOk n f) (ks:List Kd) (hks:KdOk ks) (V:View) (kv:Value) (hs:SlI V (.slice a f.length c) f) (hk:Sl V kde 3 kv ks):Fnc Tryz.prog 18 [rbv n a f c,kv] V fun r _=>r=iv 0:=by
 refine qa Tryz.func18 rfl Tryz.ntmps18 (Nat.le_of_ble_eq_true rfl) ?_
 intro w0 hw0
 refine At.nrm ?_
 refine At.zh (.n false 0 (.q 1 .done)) ?_
 refine AtT.jA ?_
 intro b2
 refine AtT.zg ?_
 refine AtT.done ?_
 refine At.nrm ?_
 refine At.zh (.q 0 (.n false 1 (.q 2 .done))) ?_
 first | refine AtT.zL qR ?_ | refine AtT.zS qR ?_ | refine AtT.zK qR ?_
 refine AtT.zR rfl rfl ok4 (rRib0_f n a f c hf _ hs) ?_
 rintro _ rfl
 refine AtT.jT ?_
 refine AtT.done ?_
 refine At.nrm ?_
 refine At.qh rfl rfl ?_
 refine At.nrm ?_
 refine At.zh (.q 0 (.n false 1 (.q 2 .done))) ?_
 refine AtT.zf ?_
 refine AtT.zR rfl rfl ok5 (rKin0_f ks hks _ _ hk) ?_
 rintro _ rfl
 refine AtT.zg ?_
 refine AtT.done ?_
 refine At.nrm ?_
 exact At.qf rfl (.tmp rfl) rfl
set_option maxHeartbeats 3200000 in
theorem checkCuts_f (n:Nat) (a:Option Addr) (f:List Int) (c:Nat) (hf:RbOk n f) (ks:List Kd) (hks:KdOk ks) (C:List Ct) (E:Nat→Nat) (W:Nat→Int) (hC:CtR n f ks C E W) (hCn:C.length≤n) (V:View) (kv cv:Value) (hs:SlI V (.slice a f.length c) f) (hk:Sl V kde 3 kv ks) (hc:Sl V cte 2 cv C) :
  Fnc Tryz.prog 9 [rbv n a f c,kv,cv] V fun r _=>∃ w,r=.tuple #[iv w,iv 0]:=by
 have hn:=hf.nb
 have hlk:=hk.qV
 have hlc:=hc.qV
 have hkn:=hks.n
 obtain⟨ak,ck,rfl,k1,k2,_⟩:=id hk
 obtain⟨ac,cc,rfl,k3,k4,_⟩:=id hc
 clear k1 k2 k3 k4
 refine qa Tryz.func9 rfl Tryz.ntmps9 (Nat.le_of_ble_eq_true rfl) ?_
 intro w0 hw0
 refine At.nrm ?_
 refine At.zh (.n false 0 (.q 1 (.q 2 .done))) ?_
 refine AtT.jA ?_
 intro b3
 refine AtT.zg ?_
 refine AtT.zg ?_
 refine AtT.done ?_
 refine At.nrm ?_
 refine At.zh (.q 0 (.q 1 (.n false 2 (.q 3 .done)))) ?_
 first | refine AtT.zL qR ?_ | refine AtT.zS qR ?_ | refine AtT.zK qR ?_
 refine AtT.zf ?_
 refine AtT.zR rfl rfl ok18 (both_f n a f c hf ks hks _ _ hs hk) ?_
 rintro _ rfl
 refine AtT.jT ?_
 refine AtT.done ?_
 refine At.nrm ?_
 refine At.qh rfl rfl ?_
 refine At.nrm ?_
 refine At.zh (.q 0 (.q 1 (.q 2 (.q 3 (.q 4 .done))))) ?_
 refine AtT.zf ?_
 first | refine AtT.zW Tryz.underlying32 ?_ | refine AtT.zX Tryz.underlying32 ?_
 first | refine AtT.zk zI ?_ | with_reducible refine AtT.zm zI ?_ | refine AtT.zo zI ?_
 first | refine AtT.zn tk3 ?_ | refine AtT.zq tk3 ?_
 refine AtT.qA ?_
 refine AtT.done ?_
 refine At.nrm ?_
 refine At.qh rfl (by rw[decide_eq_false (by omega)]) ?_
 refine At.nrm ?_
 refine At.zh (.q 0 .done) ?_
 refine AtT.zg ?_
 refine AtT.done ?_
 refine At.nrmB ?_
 refine At.cutG (ι:=Unit) (fun _=>[(1,.slice ak ks.length ck),(2,.slice ac C.length cc),(3,.pointer (some ⟨b3,0,none⟩))]) (fun _=>[.blk b3 (LC [iv n,.slice a f.length c] 24)]) (fun _ V'=>V'=V) ?_ ?_
 ·refine At.nrm ?_
  refine At.lp (ι:=Nat) (KS:=fun t=>[(1,.slice ak ks.length ck),(2,.slice ac C.length cc),(3,.pointer (some ⟨b3,0,none⟩)),(8,iv t)]) (OS:=fun _=>[.blk b3 (LC [iv n,.slice a f.length c] 24)])
   (VS:=fun t V'=>V'=V∧t≤C.length) (μ:=fun t=>C.length-t) 0 ?_ ?_ ?_ ?_
  ·exact⟨rfl,rfl,rfl,rfl,trivial⟩
  ·exact Pt.zC
  ·exact⟨rfl,Nat.zero_le _⟩
  rintro t V1 ks' O' ⟨rfl,ht⟩ hk' hO hl
  subst hk' hO
  refine At.nrm ?_
  refine At.zh (.q 0 (.q 1 (.q 2 (.q 3 .done)))) ?_
  refine AtT.zf ?_
  refine AtT.zf ?_
  first | refine AtT.zW Tryz.underlying32 ?_ | refine AtT.zX Tryz.underlying32 ?_
  refine AtT.qd ?_
  refine AtT.done ?_
  refine At.nrm ?_
  refine At.qb rfl (fun hp=>?_) (fun hp=>?_)
  ·obtain⟨i,j,k,h1,h2,h3,h4,h5,h6,h7⟩:=hC.st t (by omega)
   have hj:=(List.getElem?_eq_some_iff.1 h2).1
   refine At.nrm ?_
   refine At.draw (.q 0 (.q 1 (.q 2 (.q 3 (.q 4 (.q 5 (.q 6 (.q 7 (.q 8 (.q 9 (.q 10 (.q 11 (.q 12 (.q 13 (.q 14 (.q 15 (.q 16 (.q 17 (.q 18 (.q 19 (.q 20 (.q 21 (.q 22 (.q 23 (.q 24 (.q 25 (.q 26 (.q 27 (.q 28 (.q 29 (.q 30 (.q 31 (.q 32 (.q 33 .done)))))))))))))))))))))))))))))))))) ffm (by kernel_rfl) ?_
   refine AtT.zf ?_
   refine AtT.zf ?_
   refine AtT.qj Tryz.underlying32 qY ?_
   intro p33 e33 he33 hc33
   obtain rfl:(⟨(i:Int),(j:Int)⟩:Ct)=e33:=by have:C[t]? = some e33:=(by simpa using he33); rw[h1]at this; simpa using this
   first | refine AtT.zk qW ?_ | with_reducible refine AtT.zm qW ?_ | refine AtT.zo qW ?_
   first | refine AtT.zn tk3 ?_ | refine AtT.zq tk3 ?_
   refine AtT.qd ?_
   refine AtT.qx (d:=36) rfl ((by dsimp only; omega)) ?_
   refine AtT.zf ?_
   all_goals (first | refine AtT.kL 37 ?_ | refine AtT.zF (d:=37) rfl (fun hg37=>?_) (fun hg37=>?_) | refine AtT.zD (d:=37) rfl (fun hg37=>?_) (fun hg37=>?_))
   all_goals first|refine AtT.zi ?_|refine AtT.ze ?_|(refine AtT.zf ?_)
   all_goals first|refine AtT.zi ?_|refine AtT.ze ?_|(refine AtT.zf ?_)
   all_goals first|refine AtT.zi ?_|refine AtT.ze ?_|(refine AtT.qj Tryz.underlying32 qY ?_);(intro p40 e40 he40 hc40)
   all_goals (obtain rfl:(⟨(i:Int),(j:Int)⟩:Ct)=e40:=by have:C[t]? = some e40:=(by simpa using he40); rw[h1]at this; simpa using this)
   all_goals first|refine AtT.zi ?_|refine AtT.ze ?_|(first | refine AtT.zk qW ?_ | with_reducible refine AtT.zm qW ?_ | refine AtT.zo qW ?_)
   all_goals first|refine AtT.zi ?_|refine AtT.ze ?_|(first | refine AtT.zn tk3 ?_ | refine AtT.zq tk3 ?_)
   all_goals first|refine AtT.zi ?_|refine AtT.ze ?_|(first | refine AtT.zk zI ?_ | with_reducible refine AtT.zm zI ?_ | refine AtT.zo zI ?_)
   all_goals first|refine AtT.zi ?_|refine AtT.ze ?_|(first | refine AtT.zn tk3 ?_ | refine AtT.zq tk3 ?_)
   all_goals first|refine AtT.zi ?_|refine AtT.ze ?_|(refine AtT.qA ?_)
   all_goals (refine AtT.qx (d:=45) rfl ((by dsimp only; omega)) ?_)
   all_goals (refine AtT.zH ?_)
   all_goals (refine AtT.zf ?_)
   all_goals (first | refine AtT.kL 47 ?_ | refine AtT.zF (d:=47) rfl (fun hg47=>?_) (fun hg47=>?_) | refine AtT.zD (d:=47) rfl (fun hg47=>?_) (fun hg47=>?_))
   all_goals first|refine AtT.zi ?_|refine AtT.ze ?_|(refine AtT.zf ?_)
   all_goals first|refine AtT.zi ?_|refine AtT.ze ?_|(refine AtT.zf ?_)
   all_goals first|refine AtT.zi ?_|refine AtT.ze ?_|(refine AtT.qj Tryz.underlying32 qY ?_);(intro p50 e50 he50 hc50)
   all_goals (obtain rfl:(⟨(i:Int),(j:Int)⟩:Ct)=e50:=by have:C[t]? = some e50:=(by simpa using he50); rw[h1]at this; simpa using this)
   all_goals first|refine AtT.zi ?_|refine AtT.ze ?_|(first | refine AtT.zk qm ?_ | with_reducible refine AtT.zm qm ?_ | refine AtT.zo qm ?_)
   all_goals first|refine AtT.zi ?_|refine AtT.ze ?_|(first | refine AtT.zn tk3 ?_ | refine AtT.zq tk3 ?_)
   all_goals first|refine AtT.zi ?_|refine AtT.ze ?_|(refine AtT.qd ?_)
   all_goals (refine AtT.qx (d:=53) rfl ((by dsimp only; omega)) ?_)
   all_goals (refine AtT.zH ?_)
   all_goals (refine AtT.zf ?_)
   all_goals (first | refine AtT.kL 55 ?_ | refine AtT.zF (d:=55) rfl (fun hg55=>?_) (fun hg55=>?_) | refine AtT.zD (d:=55) rfl (fun hg55=>?_) (fun hg55=>?_))
   all_goals first|refine AtT.zi ?_|refine AtT.ze ?_|(refine AtT.zf ?_)
   all_goals first|refine AtT.zi ?_|refine AtT.ze ?_|(refine AtT.zf ?_)
   all_goals first|refine AtT.zi ?_|refine AtT.ze ?_|(refine AtT.qj Tryz.underlying32 qY ?_);(intro p58 e58 he58 hc58)
   all_goals (obtain rfl:(⟨(i:Int),(j:Int)⟩:Ct)=e58:=by have:C[t]? = some e58:=(by simpa using he58); rw[h1]at this; simpa using this)
   all_goals first|refine AtT.zi ?_|refine AtT.ze ?_|(first | refine AtT.zk qm ?_ | with_reducible refine AtT.zm qm ?_ | refine AtT.zo qm ?_)
   all_goals first|refine AtT.zi ?_|refine AtT.ze ?_|(first | refine AtT.zn tk3 ?_ | refine AtT.zq tk3 ?_)
   all_goals first|refine AtT.zi ?_|refine AtT.ze ?_|(refine AtT.zf ?_)
   all_goals first|refine AtT.zi ?_|refine AtT.ze ?_|(first | refine AtT.zW Tryz.underlying25 ?_ | refine AtT.zX Tryz.underlying25 ?_)
   all_goals first|refine AtT.zi ?_|refine AtT.ze ?_|(refine AtT.kgeq ?_)
   all_goals (refine AtT.qx (d:=63) rfl ((by dsimp only; omega)) ?_)
   all_goals (refine AtT.zH ?_)
   all_goals refine AtT.done ?_
   all_goals (refine At.nrm ?_)
   refine At.qh rfl rfl ?_
   refine At.nrm ?_
   refine At.zh (.q 0 (.q 1 (.q 2 .done))) ?_
   refine AtT.zf ?_
   first | refine AtT.ql ?_ | refine AtT.zP ?_
   refine AtT.zg ?_
   refine AtT.done ?_
   refine At.nrm ?_
   refine At.round (t+1) ?_ ?_ ?_ ?_
   ·show C.length-(t+1)<C.length-t; omega
   ·exact⟨rfl,by omega⟩
   ·exact⟨rfl,rfl,rfl,rfl,trivial⟩
   ·exact Pt.zC
  ·refine At.nrm ?_
   exact At.meetG () rfl ⟨rfl,rfl,rfl,trivial⟩ Pt.zC
 rintro _ V0 ks' O' hVe hk' hO hl
 obtain rfl:=hVe.symm
 subst hk' hO
 refine At.nrm ?_
 refine At.zh (.q 0 .done) ?_
 refine AtT.zg ?_
 refine AtT.done ?_
 refine At.nrmB ?_
 refine At.cutG (ι:=Unit) (fun _=>[(1,.slice ak ks.length ck),(2,.slice ac C.length cc),(3,.pointer (some ⟨b3,0,none⟩))]) (fun _=>[.blk b3 (LC [iv n,.slice a f.length c] 24)]) (fun _ V'=>V'=V) ?_ ?_
 ·refine At.nrm ?_
  refine At.lp (ι:=Nat) (KS:=fun t=>[(1,.slice ak ks.length ck),(2,.slice ac C.length cc),(3,.pointer (some ⟨b3,0,none⟩)),(9,iv t)]) (OS:=fun _=>[.blk b3 (LC [iv n,.slice a f.length c] 24)])
   (VS:=fun t V'=>V'=V∧t≤C.length) (μ:=fun t=>C.length-t) 0 ?_ ?_ ?_ ?_
  ·exact⟨rfl,rfl,rfl,rfl,trivial⟩
  ·exact Pt.zC
  ·exact⟨rfl,Nat.zero_le _⟩
  rintro t V1 ks' O' ⟨rfl,ht⟩ hk' hO hl
  subst hk' hO
  refine At.nrm ?_
  refine At.zh (.q 0 (.q 1 (.q 2 (.q 3 .done)))) ?_
  refine AtT.zf ?_
  refine AtT.zf ?_
  first | refine AtT.zW Tryz.underlying32 ?_ | refine AtT.zX Tryz.underlying32 ?_
  refine AtT.qd ?_
  refine AtT.done ?_
  refine At.nrm ?_
  refine At.qb rfl (fun hp=>?_) (fun hp=>?_)
  ·obtain⟨i,j,k,h1,h2,h3,h4,h5,h6,h7⟩:=hC.st t (by omega)
   have hj:=(List.getElem?_eq_some_iff.1 h2).1
   have hkb:=hks.k k (List.mem_of_getElem? h2)
   refine At.nrm ?_
   refine At.draw (.q 0 (.q 1 (.q 2 (.q 3 (.q 4 (.q 5 (.q 6 (.q 7 (.q 8 (.q 9 (.q 10 (.q 11 (.q 12 (.q 13 (.n false 14 (.q 15 .done)))))))))))))))) ffm (by kernel_rfl) ?_
   first | refine AtT.zL qR ?_ | refine AtT.zS qR ?_ | refine AtT.zK qR ?_
   refine AtT.zf ?_
   refine AtT.zf ?_
   refine AtT.zf ?_
   refine AtT.qj Tryz.underlying32 qY ?_
   intro p75 e75 he75 hc75
   obtain rfl:(⟨(i:Int),(j:Int)⟩:Ct)=e75:=by have:C[t]? = some e75:=(by simpa using he75); rw[h1]at this; simpa using this
   first | refine AtT.zk qm ?_ | with_reducible refine AtT.zm qm ?_ | refine AtT.zo qm ?_
   first | refine AtT.zn tk3 ?_ | refine AtT.zq tk3 ?_
   rw[show(⟨(i:Int),(j:Int)⟩:Ct).k=(j:Int)from rfl]
   refine AtT.qj Tryz.underlying25 kw ?_
   intro p78 e78 he78 hc78
   obtain rfl:k=e78:=by have:ks[j]? = some e78:=(by simpa using he78); rw[h2]at this; simpa using this
   first | refine AtT.zL kw ?_ | refine AtT.zS kw ?_ | refine AtT.zK kw ?_
   refine AtT.zf ?_
   refine AtT.zf ?_
   refine AtT.qj Tryz.underlying32 qY ?_
   intro p82 e82 he82 hc82
   obtain rfl:(⟨(i:Int),(j:Int)⟩:Ct)=e82:=by have:C[t]? = some e82:=(by simpa using he82); rw[h1]at this; simpa using this
   first | refine AtT.zk qW ?_ | with_reducible refine AtT.zm qW ?_ | refine AtT.zo qW ?_
   first | refine AtT.zn tk3 ?_ | refine AtT.zq tk3 ?_
   rw[show(⟨(i:Int),(j:Int)⟩:Ct).f=(i:Int)from rfl]
   refine AtT.zR rfl rfl ok19 (rCan_f n a f c hf k ⟨hkb.1,hkb.2.1⟩ i (by omega) _ hs) ?_
   rintro _ rfl
   refine AtT.knot ?_
   refine AtT.done ?_
   refine At.nrm ?_
   refine At.qh rfl (by rw[h4]; rfl) ?_
   refine At.nrm ?_
   refine At.zh (.q 0 (.q 1 (.q 2 .done))) ?_
   refine AtT.zf ?_
   first | refine AtT.ql ?_ | refine AtT.zP ?_
   refine AtT.zg ?_
   refine AtT.done ?_
   refine At.nrm ?_
   refine At.round (t+1) ?_ ?_ ?_ ?_
   ·show C.length-(t+1)<C.length-t; omega
   ·exact⟨rfl,by omega⟩
   ·exact⟨rfl,rfl,rfl,rfl,trivial⟩
   ·exact Pt.zC
  ·refine At.nrm ?_
   exact At.meetG () rfl ⟨rfl,rfl,rfl,trivial⟩ Pt.zC
 rintro _ V0 ks' O' hVe hk' hO hl
 obtain rfl:=hVe.symm
 subst hk' hO
 refine At.nrm ?_
 refine At.zh (.q 0 (.q 1 .done)) ?_
 refine AtT.zg ?_
 refine AtT.zg ?_
 refine AtT.done ?_
 refine At.nrm ?_
 refine At.zh (.q 0 .done) ?_
 refine AtT.zg ?_
 refine AtT.done ?_
 refine At.nrm ?_
 refine At.lp (ι:=Nat) (KS:=fun t=>[(1,.slice ak ks.length ck),(2,.slice ac C.length cc),(10,iv (W t)),(11,iv (E t)),(12,iv t)]) (OS:=fun _=>[])
  (VS:=fun t V'=>V'=V∧t≤C.length) (μ:=fun t=>C.length-t) 0 ?_ ?_ ?_ ?_
 ·exact⟨rfl,rfl,ivs hC.w0.symm,ivs (by rw[hC.e0]; rfl),rfl,trivial⟩
 ·exact Pt.zC
 ·exact⟨rfl,Nat.zero_le _⟩
 rintro t V1 ks' O' ⟨rfl,ht⟩ hk' hO hl
 subst hk' hO
 have hW:=hC.wbd hks t ht
 refine At.nrm ?_
 refine At.zh (.q 0 (.q 1 (.q 2 (.q 3 .done)))) ?_
 refine AtT.zf ?_
 refine AtT.zf ?_
 first | refine AtT.zW Tryz.underlying32 ?_ | refine AtT.zX Tryz.underlying32 ?_
 refine AtT.qd ?_
 refine AtT.done ?_
 refine At.nrm ?_
 refine At.qb rfl (fun hp=>?_) (fun hp=>?_)
 ·obtain⟨i,j,k,h1,h2,h3,h4,h5,h6,h7⟩:=hC.st t (by omega)
  have hj:=(List.getElem?_eq_some_iff.1 h2).1
  have hkb:=hks.k k (List.mem_of_getElem? h2)
  refine At.nrm ?_
  refine At.zh (.q 0 (.q 1 (.q 2 (.q 3 (.q 4 (.q 5 (.q 6 .done))))))) ?_
  refine AtT.zf ?_
  refine AtT.zf ?_
  refine AtT.qj Tryz.underlying32 qY ?_
  intro p95 e95 he95 hc95
  obtain rfl:(⟨(i:Int),(j:Int)⟩:Ct)=e95:=by have:C[t]? = some e95:=(by simpa using he95); rw[h1]at this; simpa using this
  first | refine AtT.zk qW ?_ | with_reducible refine AtT.zm qW ?_ | refine AtT.zo qW ?_
  first | refine AtT.zn tk3 ?_ | refine AtT.zq tk3 ?_
  refine AtT.zf ?_
  refine AtT.qd ?_
  refine AtT.done ?_
  refine At.nrm ?_
  refine At.qh rfl (by rw[decide_eq_false (by dsimp only; omega)]) ?_
  refine At.nrm ?_
  refine At.draw (.q 0 (.q 1 (.q 2 (.q 3 (.q 4 (.q 5 (.q 6 (.q 7 (.q 8 (.q 9 (.q 10 (.q 11 (.q 12 (.q 13 (.q 14 (.q 15 .done)))))))))))))))) ffm (by kernel_rfl) ?_
  refine AtT.zf ?_
  refine AtT.zf ?_
  refine AtT.qj Tryz.underlying32 qY ?_
  intro p102 e102 he102 hc102
  obtain rfl:(⟨(i:Int),(j:Int)⟩:Ct)=e102:=by have:C[t]? = some e102:=(by simpa using he102); rw[h1]at this; simpa using this
  first | refine AtT.zk qW ?_ | with_reducible refine AtT.zm qW ?_ | refine AtT.zo qW ?_
  first | refine AtT.zn tk3 ?_ | refine AtT.zq tk3 ?_
  rw[show(⟨(i:Int),(j:Int)⟩:Ct).f=(i:Int)from rfl]
  refine AtT.zf ?_
  refine AtT.zf ?_
  refine AtT.zf ?_
  refine AtT.qj Tryz.underlying32 qY ?_
  intro p108 e108 he108 hc108
  obtain rfl:(⟨(i:Int),(j:Int)⟩:Ct)=e108:=by have:C[t]? = some e108:=(by simpa using he108); rw[h1]at this; simpa using this
  first | refine AtT.zk qm ?_ | with_reducible refine AtT.zm qm ?_ | refine AtT.zo qm ?_
  first | refine AtT.zn tk3 ?_ | refine AtT.zq tk3 ?_
  rw[show(⟨(i:Int),(j:Int)⟩:Ct).k=(j:Int)from rfl]
  refine AtT.qj Tryz.underlying25 kw ?_
  intro p111 e111 he111 hc111
  obtain rfl:k=e111:=by have:ks[j]? = some e111:=(by simpa using he111); rw[h2]at this; simpa using this
  first | refine AtT.zk zQ ?_ | with_reducible refine AtT.zm zQ ?_ | refine AtT.zo zQ ?_
  first | refine AtT.zn tk3 ?_ | refine AtT.zq tk3 ?_
  first | refine AtT.ql ?_ | refine AtT.zP ?_
  refine AtT.zg ?_
  refine AtT.done ?_
  refine At.nrm ?_
  refine At.zh (.q 0 (.q 1 (.q 2 (.q 3 (.q 4 (.q 5 (.q 6 (.q 7 (.q 8 (.q 9 (.q 10 (.q 11 .done)))))))))))) ?_
  refine AtT.zf ?_
  refine AtT.zf ?_
  refine AtT.zf ?_
  refine AtT.zf ?_
  refine AtT.qj Tryz.underlying32 qY ?_
  intro p119 e119 he119 hc119
  obtain rfl:(⟨(i:Int),(j:Int)⟩:Ct)=e119:=by have:C[t]? = some e119:=(by simpa using he119); rw[h1]at this; simpa using this
  first | refine AtT.zk qm ?_ | with_reducible refine AtT.zm qm ?_ | refine AtT.zo qm ?_
  first | refine AtT.zn tk3 ?_ | refine AtT.zq tk3 ?_
  rw[show(⟨(i:Int),(j:Int)⟩:Ct).k=(j:Int)from rfl]
  refine AtT.qj Tryz.underlying25 kw ?_
  intro p122 e122 he122 hc122
  obtain rfl:k=e122:=by have:ks[j]? = some e122:=(by simpa using he122); rw[h2]at this; simpa using this
  first | refine AtT.zk zA ?_ | with_reducible refine AtT.zm zA ?_ | refine AtT.zo zA ?_
  first | refine AtT.zn tk2 ?_ | refine AtT.zq tk2 ?_
  first | refine AtT.ql ?_ | refine AtT.zP ?_
  refine AtT.zg ?_
  refine AtT.done ?_
  refine At.nrm ?_
  refine At.nrm ?_
  refine At.zh (.q 0 (.q 1 (.q 2 .done))) ?_
  refine AtT.zf ?_
  first | refine AtT.ql ?_ | refine AtT.zP ?_
  refine AtT.zg ?_
  refine AtT.done ?_
  refine At.nrm ?_
  refine At.round (t+1) ?_ ?_ ?_ ?_
  ·show C.length-(t+1)<C.length-t; omega
  ·exact⟨rfl,by omega⟩
  ·exact⟨rfl,rfl,ivs h7.symm,ivs (by rw[h6]; omega),rfl,trivial⟩
  ·exact Pt.zC
 ·refine At.nrm ?_
  refine At.zh (.q 0 (.q 1 (.q 2 .done))) ?_
  refine AtT.zf ?_
  refine AtT.zg ?_
  refine AtT.zg ?_
  refine AtT.done ?_
  refine At.nrm ?_
  exact At.ret2 rfl (.tmp rfl) (.tmp rfl) ⟨_,rfl⟩
end Go.Proofs.YtmdcedioddchfaaGreatDoor.C
end
section
set_option linter.unusedVariables false
namespace Go.Cx
open Go.Lw Go.Gr Go.Cc
structure ShF (ks:List Kd) (C:List Ct) (P:List Nat) (p:Int):Prop where
 sel:SelI ks P
 len:P.length=ks.length
 kok:KdOk ks
 n5:ks.length≤5
 most:∀ b∈P,prA ks b≤100∧xe C b≤20
 tot:((List.range ks.length).map fun j=>prA ks j*xe C j).sum=p
section
variable {ks:List Kd} {C:List Ct} {P:List Nat} {p:Int}
theorem ShF.ok (h:ShF ks C P p):SpOk (shS ks C P):=shS_ok h.sel h.len h.kok h.n5 h.most
theorem ShF.st0 (h:ShF ks C P p):∀ i,0≤(shS ks C P).st.getD i 0:=fun i=>by
 rw[List.getD_eq_getElem?_getD]
 cases hx:(shS ks C P).st[i]? with
 | none=>exact Int.le_refl 0
 | some x=>exact(h.ok.sb x (List.mem_of_getElem? hx)).1
theorem st5_getD (s:Sp) (hn:s.st.length≤5) (i:Nat):(s.st++List.replicate (5-s.st.length) 0).getD i 0=s.st.getD i 0:=by
 rw[List.getD_eq_getElem?_getD,List.getD_eq_getElem?_getD]
 by_cases c:i<s.st.length
 ·rw[List.getElem?_append_left c]
 ·rw[List.getElem?_append_right (by omega),List.getElem?_eq_none (l:=s.st) (by omega),List.getElem?_replicate]
  split<;>rfl
theorem ShF.stl (h:ShF ks C P p):(shS ks C P).st.length=P.length:=by simp[shS]
theorem ShF.prl (h:ShF ks C P p):(shS ks C P).pr.length=P.length:=by simp[shS]
theorem ShF.osl (h:ShF ks C P p):(shS ks C P).os.length=P.length:=by simp[shS,osL_len]
theorem ShF.ose (h:ShF ks C P p):(shS ks C P).os=osL (shS ks C P).st (shS ks C P).st.length:=by rw[h.stl]; rfl
theorem ShF.can (h:ShF ks C P p):canF (shS ks C P).st.length (shS ks C P).os ((shS ks C P).st++List.replicate (5-(shS ks C P).st.length) 0)=true:=by
 have hn:=h.ok.n
 refine canF_iff.2 fun g hg=>?_
 unfold shrt
 rw[h.ose,ordLe_os,take_sum]
 have key:∀ m,g+1≤m→m≤5→((List.range m).map fun i=>if i≤g then (shS ks C P).st.getD i 0 else 0).sum=((List.range (g+1)).map fun i=>((shS ks C P).st++List.replicate (5-(shS ks C P).st.length) 0).getD i 0).sum:=fun m h1 h2=>by
  induction m with
  | zero=>omega
  | succ m ih=>
   by_cases c:g+1≤m
   ·rw[List.range_succ,List.map_append,List.sum_append,ih c (by omega)]
    simp only[List.map_cons,List.map_nil,List.sum_cons,List.sum_nil]
    rw[if_neg (by omega)]; omega
   ·obtain rfl:m=g:=by omega
    congr 1
    refine List.map_congr_left fun i hi=>?_
    have:=List.mem_range.1 hi
    rw[if_pos (by omega),st5_getD _ hn.2]
 rw[key _ (by omega) (by omega),Int.sub_self]
 exact Int.le_refl 0
theorem ShF.spn (h:ShF ks C P p) {T:List Int} (hT:Spn ((shS ks C P).st++List.replicate (5-(shS ks C P).st.length) 0) (shS ks C P).os T) (hS:StB ((shS ks C P).st++List.replicate (5-(shS ks C P).st.length) 0)):∀ g,g<5→T.getD g 0=(shS ks C P).st.getD g 0:=by
 have hn:=h.ok.n
 rw[h.ose]at hT
 exact spn_own hS h.st0 hn.2 (fun i _=>by rw[st5_getD _ hn.2]; exact Int.le_refl _) hT
theorem ShF.spn1 (h:ShF ks C P p) {T S:List Int} {g:Nat} (hg:g<5) (hS0:S=(shS ks C P).st++List.replicate (5-(shS ks C P).st.length) 0) (hT:Spn (S.set g (S.getD g 0+1)) (shS ks C P).os T) (hS:StB (S.set g (S.getD g 0+1))):∀ g,g<5→T.getD g 0=(shS ks C P).st.getD g 0:=by
 have hn:=h.ok.n
 have hl:S.length=5:=by have:=hS.len; rwa[List.length_set]at this
 rw[h.ose]at hT
 refine spn_own hS h.st0 hn.2 (fun i _=>?_) hT
 rw[getD_set _ _ _ _ (by omega)]
 have h1:S.getD i 0=(shS ks C P).st.getD i 0:=by rw[hS0,st5_getD _ hn.2]
 split
 ·rename_i e; subst e; omega
 ·omega
theorem ShF.cost (h:ShF ks C P p) {T:List Int} (hT:∀ g,g<5→T.getD g 0=(shS ks C P).st.getD g 0):kF (shS ks C P).pr T (shS ks C P).pr.length=p:=by
 have hl:=h.len
 have h5:=h.n5
 rw[h.prl,costK_congr (U:=(shS ks C P).st) fun g hg=>hT g (by omega)]
 show kF (P.map (prA ks)) (P.map (xe C)) P.length=p
 rw[costK_map _ _ _ (Nat.le_refl _),List.take_length,←h.tot]
 exact perm_sum ((h.sel.perm h.len).map _)
theorem ShF.take (h:ShF ks C P p) {T:List Int} (hl:T.length=5) (hT:∀ g,g<5→T.getD g 0=(shS ks C P).st.getD g 0):T.take (shS ks C P).st.length=(shS ks C P).st:=by
 have hn:=h.ok.n
 apply List.ext_getElem
 ·rw[List.length_take]; omega
 ·intro i h1 h2
  have h3:=hT i (by omega)
  rw[List.getD_eq_getElem?_getD,List.getD_eq_getElem?_getD,List.getElem?_eq_getElem (by omega),List.getElem?_eq_getElem h2]at h3
  rw[List.getElem_take]; exact h3
end
end Go.Cx
end
section
set_option linter.unusedVariables false
set_option linter.constructorNameAsVariable false
namespace Go.Ev
inductive So
 | u
 | n
 | s (id off len cap:Nat)
 | w (id off len cut:Nat)
 | m (id:Nat)
 | f (id:Nat)
 | y (id:Nat)
 | e
 | c (v:Value)
inductive Sc
 | i (k:IntKind) (n:Int)
 | b (b:Bool)
 | p (id off:Nat)
 | o (x:So)
inductive AV
 | x (s:Sc)
 | a (l:List Sc)
 | t (l:List (Sc ⊕ List Sc))
abbrev AV.u:AV:=.x (.o .u)
abbrev AV.n:AV:=.x (.o .n)
abbrev AV.i (k:IntKind) (n:Int):AV:=.x (.i k n)
abbrev AV.b (b:Bool):AV:=.x (.b b)
inductive Ex | n | x (id:Nat) | r
inductive D | d0 | d1 | d2 | d3 | d4 | d5 | d6 | d7
noncomputable def dOf (n:Nat):D:=
 Nat.rec (motive:=fun _=>D) .d0 (fun n _=>Nat.rec (motive:=fun _=>D) .d1 (fun n _=>Nat.rec (motive:=fun _=>D) .d2 (fun n _=>Nat.rec (motive:=fun _=>D) .d3 (fun n _=>Nat.rec (motive:=fun _=>D) .d4 (fun n _=>Nat.rec (motive:=fun _=>D) .d5 (fun n _=>Nat.rec (motive:=fun _=>D) .d6 (fun _ _=>.d7) n) n) n) n) n) n) n
noncomputable def dg1 (n:Nat):D:=dOf (Nat.land n 7)
noncomputable def dg2 (n:Nat):D:=dOf (Nat.land (Nat.shiftRight n 3) 7)
noncomputable def dg3 (n:Nat):D:=dOf (Nat.land (Nat.shiftRight n 6) 7)
noncomputable def dg4 (n:Nat):D:=dOf (Nat.land (Nat.shiftRight n 9) 7)
noncomputable def dg5 (n:Nat):D:=dOf (Nat.land (Nat.shiftRight n 12) 7)
noncomputable def nat {Z:Type} (n:Nat) (k:Nat→Z):Z:=Nat.rec (motive:=fun _=>Z) (k 0) (fun m _=>k (Nat.succ m)) n
theorem nat_eq {Z:Type} (n:Nat) (k:Nat→Z):nat n k=k n:=by cases n<;>rfl
structure L1 where
 mk::(c0 c1 c2 c3 c4 c5 c6 c7:AV)
noncomputable def L1.e:L1:=.mk .n .n .n .n .n .n .n .n
structure L2 where
 mk::(c0 c1 c2 c3 c4 c5 c6 c7:L1)
noncomputable def L2.e:L2:=.mk L1.e L1.e L1.e L1.e L1.e L1.e L1.e L1.e
structure L3 where
 mk::(c0 c1 c2 c3 c4 c5 c6 c7:L2)
noncomputable def L3.e:L3:=.mk L2.e L2.e L2.e L2.e L2.e L2.e L2.e L2.e
structure L4 where
 mk::(c0 c1 c2 c3 c4 c5 c6 c7:L3)
noncomputable def L4.e:L4:=.mk L3.e L3.e L3.e L3.e L3.e L3.e L3.e L3.e
inductive TV
 | s (x:L1)
 | t (x:L2)
 | m (x:L3)
 | l (x:L4)
inductive BO
 | m (l:List (AV×AV))
 | h
 | g (key:AV) (gone:Bool) (l:List ((AV×AV)×Bool))
 | f (fn:FuncId) (first caps:List AV)
 | l (ps:List Nat) (assign body:Code) (t:L3)
 | d (ex:Ex)
 | i (m:Nat) (l:List (AV×AV))
 | b (m:Nat) (l rem:List (AV×AV))
 | c (m:Nat) (k v:AV) (l rem:List (AV×AV))
 | j (m:Nat) (l:List ((AV×AV)×Bool)) (x:Nat)
 | k (m:Nat) (key v:AV) (l:List ((AV×AV)×Bool)) (keep:Bool) (x:Nat) (cur:Bool)
 | q (m:Nat) (key v:AV)
 | z
 | t
 | v (bz:Bool) (ps:List Nat) (assign body:Code) (t:L3)
inductive B
 | x
 | c (E n:Nat) (t:TV)
 | r (E n:Nat) (t:TV)
 | o (b:BO)
structure H1 where
 mk::(c0 c1 c2 c3 c4 c5 c6 c7:B)
noncomputable def H1.e:H1:=.mk .x .x .x .x .x .x .x .x
structure H2 where
 mk::(c0 c1 c2 c3 c4 c5 c6 c7:H1)
noncomputable def H2.e:H2:=.mk H1.e H1.e H1.e H1.e H1.e H1.e H1.e H1.e
structure H3 where
 mk::(c0 c1 c2 c3 c4 c5 c6 c7:H2)
noncomputable def H3.e:H3:=.mk H2.e H2.e H2.e H2.e H2.e H2.e H2.e H2.e
structure H4 where
 mk::(c0 c1 c2 c3 c4 c5 c6 c7:H3)
noncomputable def H4.e:H4:=.mk H3.e H3.e H3.e H3.e H3.e H3.e H3.e H3.e
structure H5 where
 mk::(c0 c1 c2 c3 c4 c5 c6 c7:H4)
noncomputable def H5.e:H5:=.mk H4.e H4.e H4.e H4.e H4.e H4.e H4.e H4.e
structure H where
 mk::(nxt lo:Nat) (ac:Nat×Nat) (t:H5)
abbrev R:=Option (List (AV×H))
structure Q1 where
 mk::(g:L1→AV) (s : {Z:Type}→L1→AV→(L1→Z)→Z)
noncomputable def q1 (n:Nat):Q1:=D.rec (motive:=fun _=>Q1) (.mk (fun t=>t.c0) (fun {Z} t v k=>L1.rec (motive:=fun _=>AV→(L1→Z)→Z) (fun c0 c1 c2 c3 c4 c5 c6 c7 v k=>k (.mk v c1 c2 c3 c4 c5 c6 c7)) t v k)) (.mk (fun t=>t.c1) (fun {Z} t v k=>L1.rec (motive:=fun _=>AV→(L1→Z)→Z) (fun c0 c1 c2 c3 c4 c5 c6 c7 v k=>k (.mk c0 v c2 c3 c4 c5 c6 c7)) t v k)) (.mk (fun t=>t.c2) (fun {Z} t v k=>L1.rec (motive:=fun _=>AV→(L1→Z)→Z) (fun c0 c1 c2 c3 c4 c5 c6 c7 v k=>k (.mk c0 c1 v c3 c4 c5 c6 c7)) t v k)) (.mk (fun t=>t.c3) (fun {Z} t v k=>L1.rec (motive:=fun _=>AV→(L1→Z)→Z) (fun c0 c1 c2 c3 c4 c5 c6 c7 v k=>k (.mk c0 c1 c2 v c4 c5 c6 c7)) t v k)) (.mk (fun t=>t.c4) (fun {Z} t v k=>L1.rec (motive:=fun _=>AV→(L1→Z)→Z) (fun c0 c1 c2 c3 c4 c5 c6 c7 v k=>k (.mk c0 c1 c2 c3 v c5 c6 c7)) t v k)) (.mk (fun t=>t.c5) (fun {Z} t v k=>L1.rec (motive:=fun _=>AV→(L1→Z)→Z) (fun c0 c1 c2 c3 c4 c5 c6 c7 v k=>k (.mk c0 c1 c2 c3 c4 v c6 c7)) t v k)) (.mk (fun t=>t.c6) (fun {Z} t v k=>L1.rec (motive:=fun _=>AV→(L1→Z)→Z) (fun c0 c1 c2 c3 c4 c5 c6 c7 v k=>k (.mk c0 c1 c2 c3 c4 c5 v c7)) t v k)) (.mk (fun t=>t.c7) (fun {Z} t v k=>L1.rec (motive:=fun _=>AV→(L1→Z)→Z) (fun c0 c1 c2 c3 c4 c5 c6 c7 v k=>k (.mk c0 c1 c2 c3 c4 c5 c6 v)) t v k)) (dg1 n)
structure Q2 where
 mk::(g:L2→AV) (s : {Z:Type}→L2→AV→(L2→Z)→Z)
noncomputable def q2 (n:Nat):Q2:=D.rec (motive:=fun _=>Q2) (.mk (fun t=>(q1 n).g t.c0) (fun {Z} t v k=>L2.rec (motive:=fun _=>AV→(L2→Z)→Z) (fun c0 c1 c2 c3 c4 c5 c6 c7 v k=>(q1 n).s c0 v fun y=>k (.mk y c1 c2 c3 c4 c5 c6 c7)) t v k)) (.mk (fun t=>(q1 n).g t.c1) (fun {Z} t v k=>L2.rec (motive:=fun _=>AV→(L2→Z)→Z) (fun c0 c1 c2 c3 c4 c5 c6 c7 v k=>(q1 n).s c1 v fun y=>k (.mk c0 y c2 c3 c4 c5 c6 c7)) t v k)) (.mk (fun t=>(q1 n).g t.c2) (fun {Z} t v k=>L2.rec (motive:=fun _=>AV→(L2→Z)→Z) (fun c0 c1 c2 c3 c4 c5 c6 c7 v k=>(q1 n).s c2 v fun y=>k (.mk c0 c1 y c3 c4 c5 c6 c7)) t v k)) (.mk (fun t=>(q1 n).g t.c3) (fun {Z} t v k=>L2.rec (motive:=fun _=>AV→(L2→Z)→Z) (fun c0 c1 c2 c3 c4 c5 c6 c7 v k=>(q1 n).s c3 v fun y=>k (.mk c0 c1 c2 y c4 c5 c6 c7)) t v k)) (.mk (fun t=>(q1 n).g t.c4) (fun {Z} t v k=>L2.rec (motive:=fun _=>AV→(L2→Z)→Z) (fun c0 c1 c2 c3 c4 c5 c6 c7 v k=>(q1 n).s c4 v fun y=>k (.mk c0 c1 c2 c3 y c5 c6 c7)) t v k)) (.mk (fun t=>(q1 n).g t.c5) (fun {Z} t v k=>L2.rec (motive:=fun _=>AV→(L2→Z)→Z) (fun c0 c1 c2 c3 c4 c5 c6 c7 v k=>(q1 n).s c5 v fun y=>k (.mk c0 c1 c2 c3 c4 y c6 c7)) t v k)) (.mk (fun t=>(q1 n).g t.c6) (fun {Z} t v k=>L2.rec (motive:=fun _=>AV→(L2→Z)→Z) (fun c0 c1 c2 c3 c4 c5 c6 c7 v k=>(q1 n).s c6 v fun y=>k (.mk c0 c1 c2 c3 c4 c5 y c7)) t v k)) (.mk (fun t=>(q1 n).g t.c7) (fun {Z} t v k=>L2.rec (motive:=fun _=>AV→(L2→Z)→Z) (fun c0 c1 c2 c3 c4 c5 c6 c7 v k=>(q1 n).s c7 v fun y=>k (.mk c0 c1 c2 c3 c4 c5 c6 y)) t v k)) (dg2 n)
structure Q3 where
 mk::(g:L3→AV) (s : {Z:Type}→L3→AV→(L3→Z)→Z)
noncomputable def q3 (n:Nat):Q3:=D.rec (motive:=fun _=>Q3) (.mk (fun t=>(q2 n).g t.c0) (fun {Z} t v k=>L3.rec (motive:=fun _=>AV→(L3→Z)→Z) (fun c0 c1 c2 c3 c4 c5 c6 c7 v k=>(q2 n).s c0 v fun y=>k (.mk y c1 c2 c3 c4 c5 c6 c7)) t v k)) (.mk (fun t=>(q2 n).g t.c1) (fun {Z} t v k=>L3.rec (motive:=fun _=>AV→(L3→Z)→Z) (fun c0 c1 c2 c3 c4 c5 c6 c7 v k=>(q2 n).s c1 v fun y=>k (.mk c0 y c2 c3 c4 c5 c6 c7)) t v k)) (.mk (fun t=>(q2 n).g t.c2) (fun {Z} t v k=>L3.rec (motive:=fun _=>AV→(L3→Z)→Z) (fun c0 c1 c2 c3 c4 c5 c6 c7 v k=>(q2 n).s c2 v fun y=>k (.mk c0 c1 y c3 c4 c5 c6 c7)) t v k)) (.mk (fun t=>(q2 n).g t.c3) (fun {Z} t v k=>L3.rec (motive:=fun _=>AV→(L3→Z)→Z) (fun c0 c1 c2 c3 c4 c5 c6 c7 v k=>(q2 n).s c3 v fun y=>k (.mk c0 c1 c2 y c4 c5 c6 c7)) t v k)) (.mk (fun t=>(q2 n).g t.c4) (fun {Z} t v k=>L3.rec (motive:=fun _=>AV→(L3→Z)→Z) (fun c0 c1 c2 c3 c4 c5 c6 c7 v k=>(q2 n).s c4 v fun y=>k (.mk c0 c1 c2 c3 y c5 c6 c7)) t v k)) (.mk (fun t=>(q2 n).g t.c5) (fun {Z} t v k=>L3.rec (motive:=fun _=>AV→(L3→Z)→Z) (fun c0 c1 c2 c3 c4 c5 c6 c7 v k=>(q2 n).s c5 v fun y=>k (.mk c0 c1 c2 c3 c4 y c6 c7)) t v k)) (.mk (fun t=>(q2 n).g t.c6) (fun {Z} t v k=>L3.rec (motive:=fun _=>AV→(L3→Z)→Z) (fun c0 c1 c2 c3 c4 c5 c6 c7 v k=>(q2 n).s c6 v fun y=>k (.mk c0 c1 c2 c3 c4 c5 y c7)) t v k)) (.mk (fun t=>(q2 n).g t.c7) (fun {Z} t v k=>L3.rec (motive:=fun _=>AV→(L3→Z)→Z) (fun c0 c1 c2 c3 c4 c5 c6 c7 v k=>(q2 n).s c7 v fun y=>k (.mk c0 c1 c2 c3 c4 c5 c6 y)) t v k)) (dg3 n)
structure Q4 where
 mk::(g:L4→AV) (s : {Z:Type}→L4→AV→(L4→Z)→Z)
noncomputable def q4 (n:Nat):Q4:=D.rec (motive:=fun _=>Q4) (.mk (fun t=>(q3 n).g t.c0) (fun {Z} t v k=>L4.rec (motive:=fun _=>AV→(L4→Z)→Z) (fun c0 c1 c2 c3 c4 c5 c6 c7 v k=>(q3 n).s c0 v fun y=>k (.mk y c1 c2 c3 c4 c5 c6 c7)) t v k)) (.mk (fun t=>(q3 n).g t.c1) (fun {Z} t v k=>L4.rec (motive:=fun _=>AV→(L4→Z)→Z) (fun c0 c1 c2 c3 c4 c5 c6 c7 v k=>(q3 n).s c1 v fun y=>k (.mk c0 y c2 c3 c4 c5 c6 c7)) t v k)) (.mk (fun t=>(q3 n).g t.c2) (fun {Z} t v k=>L4.rec (motive:=fun _=>AV→(L4→Z)→Z) (fun c0 c1 c2 c3 c4 c5 c6 c7 v k=>(q3 n).s c2 v fun y=>k (.mk c0 c1 y c3 c4 c5 c6 c7)) t v k)) (.mk (fun t=>(q3 n).g t.c3) (fun {Z} t v k=>L4.rec (motive:=fun _=>AV→(L4→Z)→Z) (fun c0 c1 c2 c3 c4 c5 c6 c7 v k=>(q3 n).s c3 v fun y=>k (.mk c0 c1 c2 y c4 c5 c6 c7)) t v k)) (.mk (fun t=>(q3 n).g t.c4) (fun {Z} t v k=>L4.rec (motive:=fun _=>AV→(L4→Z)→Z) (fun c0 c1 c2 c3 c4 c5 c6 c7 v k=>(q3 n).s c4 v fun y=>k (.mk c0 c1 c2 c3 y c5 c6 c7)) t v k)) (.mk (fun t=>(q3 n).g t.c5) (fun {Z} t v k=>L4.rec (motive:=fun _=>AV→(L4→Z)→Z) (fun c0 c1 c2 c3 c4 c5 c6 c7 v k=>(q3 n).s c5 v fun y=>k (.mk c0 c1 c2 c3 c4 y c6 c7)) t v k)) (.mk (fun t=>(q3 n).g t.c6) (fun {Z} t v k=>L4.rec (motive:=fun _=>AV→(L4→Z)→Z) (fun c0 c1 c2 c3 c4 c5 c6 c7 v k=>(q3 n).s c6 v fun y=>k (.mk c0 c1 c2 c3 c4 c5 y c7)) t v k)) (.mk (fun t=>(q3 n).g t.c7) (fun {Z} t v k=>L4.rec (motive:=fun _=>AV→(L4→Z)→Z) (fun c0 c1 c2 c3 c4 c5 c6 c7 v k=>(q3 n).s c7 v fun y=>k (.mk c0 c1 c2 c3 c4 c5 c6 y)) t v k)) (dg4 n)
structure P1 where
 mk::(g:H1→B) (s : {Z:Type}→H1→B→(H1→Z)→Z)
noncomputable def p1 (n:Nat):P1:=D.rec (motive:=fun _=>P1) (.mk (fun t=>t.c0) (fun {Z} t v k=>H1.rec (motive:=fun _=>B→(H1→Z)→Z) (fun c0 c1 c2 c3 c4 c5 c6 c7 v k=>k (.mk v c1 c2 c3 c4 c5 c6 c7)) t v k)) (.mk (fun t=>t.c1) (fun {Z} t v k=>H1.rec (motive:=fun _=>B→(H1→Z)→Z) (fun c0 c1 c2 c3 c4 c5 c6 c7 v k=>k (.mk c0 v c2 c3 c4 c5 c6 c7)) t v k)) (.mk (fun t=>t.c2) (fun {Z} t v k=>H1.rec (motive:=fun _=>B→(H1→Z)→Z) (fun c0 c1 c2 c3 c4 c5 c6 c7 v k=>k (.mk c0 c1 v c3 c4 c5 c6 c7)) t v k)) (.mk (fun t=>t.c3) (fun {Z} t v k=>H1.rec (motive:=fun _=>B→(H1→Z)→Z) (fun c0 c1 c2 c3 c4 c5 c6 c7 v k=>k (.mk c0 c1 c2 v c4 c5 c6 c7)) t v k)) (.mk (fun t=>t.c4) (fun {Z} t v k=>H1.rec (motive:=fun _=>B→(H1→Z)→Z) (fun c0 c1 c2 c3 c4 c5 c6 c7 v k=>k (.mk c0 c1 c2 c3 v c5 c6 c7)) t v k)) (.mk (fun t=>t.c5) (fun {Z} t v k=>H1.rec (motive:=fun _=>B→(H1→Z)→Z) (fun c0 c1 c2 c3 c4 c5 c6 c7 v k=>k (.mk c0 c1 c2 c3 c4 v c6 c7)) t v k)) (.mk (fun t=>t.c6) (fun {Z} t v k=>H1.rec (motive:=fun _=>B→(H1→Z)→Z) (fun c0 c1 c2 c3 c4 c5 c6 c7 v k=>k (.mk c0 c1 c2 c3 c4 c5 v c7)) t v k)) (.mk (fun t=>t.c7) (fun {Z} t v k=>H1.rec (motive:=fun _=>B→(H1→Z)→Z) (fun c0 c1 c2 c3 c4 c5 c6 c7 v k=>k (.mk c0 c1 c2 c3 c4 c5 c6 v)) t v k)) (dg1 n)
structure P2 where
 mk::(g:H2→B) (s : {Z:Type}→H2→B→(H2→Z)→Z)
noncomputable def p2 (n:Nat):P2:=D.rec (motive:=fun _=>P2) (.mk (fun t=>(p1 n).g t.c0) (fun {Z} t v k=>H2.rec (motive:=fun _=>B→(H2→Z)→Z) (fun c0 c1 c2 c3 c4 c5 c6 c7 v k=>(p1 n).s c0 v fun y=>k (.mk y c1 c2 c3 c4 c5 c6 c7)) t v k)) (.mk (fun t=>(p1 n).g t.c1) (fun {Z} t v k=>H2.rec (motive:=fun _=>B→(H2→Z)→Z) (fun c0 c1 c2 c3 c4 c5 c6 c7 v k=>(p1 n).s c1 v fun y=>k (.mk c0 y c2 c3 c4 c5 c6 c7)) t v k)) (.mk (fun t=>(p1 n).g t.c2) (fun {Z} t v k=>H2.rec (motive:=fun _=>B→(H2→Z)→Z) (fun c0 c1 c2 c3 c4 c5 c6 c7 v k=>(p1 n).s c2 v fun y=>k (.mk c0 c1 y c3 c4 c5 c6 c7)) t v k)) (.mk (fun t=>(p1 n).g t.c3) (fun {Z} t v k=>H2.rec (motive:=fun _=>B→(H2→Z)→Z) (fun c0 c1 c2 c3 c4 c5 c6 c7 v k=>(p1 n).s c3 v fun y=>k (.mk c0 c1 c2 y c4 c5 c6 c7)) t v k)) (.mk (fun t=>(p1 n).g t.c4) (fun {Z} t v k=>H2.rec (motive:=fun _=>B→(H2→Z)→Z) (fun c0 c1 c2 c3 c4 c5 c6 c7 v k=>(p1 n).s c4 v fun y=>k (.mk c0 c1 c2 c3 y c5 c6 c7)) t v k)) (.mk (fun t=>(p1 n).g t.c5) (fun {Z} t v k=>H2.rec (motive:=fun _=>B→(H2→Z)→Z) (fun c0 c1 c2 c3 c4 c5 c6 c7 v k=>(p1 n).s c5 v fun y=>k (.mk c0 c1 c2 c3 c4 y c6 c7)) t v k)) (.mk (fun t=>(p1 n).g t.c6) (fun {Z} t v k=>H2.rec (motive:=fun _=>B→(H2→Z)→Z) (fun c0 c1 c2 c3 c4 c5 c6 c7 v k=>(p1 n).s c6 v fun y=>k (.mk c0 c1 c2 c3 c4 c5 y c7)) t v k)) (.mk (fun t=>(p1 n).g t.c7) (fun {Z} t v k=>H2.rec (motive:=fun _=>B→(H2→Z)→Z) (fun c0 c1 c2 c3 c4 c5 c6 c7 v k=>(p1 n).s c7 v fun y=>k (.mk c0 c1 c2 c3 c4 c5 c6 y)) t v k)) (dg2 n)
structure P3 where
 mk::(g:H3→B) (s : {Z:Type}→H3→B→(H3→Z)→Z)
noncomputable def p3 (n:Nat):P3:=D.rec (motive:=fun _=>P3) (.mk (fun t=>(p2 n).g t.c0) (fun {Z} t v k=>H3.rec (motive:=fun _=>B→(H3→Z)→Z) (fun c0 c1 c2 c3 c4 c5 c6 c7 v k=>(p2 n).s c0 v fun y=>k (.mk y c1 c2 c3 c4 c5 c6 c7)) t v k)) (.mk (fun t=>(p2 n).g t.c1) (fun {Z} t v k=>H3.rec (motive:=fun _=>B→(H3→Z)→Z) (fun c0 c1 c2 c3 c4 c5 c6 c7 v k=>(p2 n).s c1 v fun y=>k (.mk c0 y c2 c3 c4 c5 c6 c7)) t v k)) (.mk (fun t=>(p2 n).g t.c2) (fun {Z} t v k=>H3.rec (motive:=fun _=>B→(H3→Z)→Z) (fun c0 c1 c2 c3 c4 c5 c6 c7 v k=>(p2 n).s c2 v fun y=>k (.mk c0 c1 y c3 c4 c5 c6 c7)) t v k)) (.mk (fun t=>(p2 n).g t.c3) (fun {Z} t v k=>H3.rec (motive:=fun _=>B→(H3→Z)→Z) (fun c0 c1 c2 c3 c4 c5 c6 c7 v k=>(p2 n).s c3 v fun y=>k (.mk c0 c1 c2 y c4 c5 c6 c7)) t v k)) (.mk (fun t=>(p2 n).g t.c4) (fun {Z} t v k=>H3.rec (motive:=fun _=>B→(H3→Z)→Z) (fun c0 c1 c2 c3 c4 c5 c6 c7 v k=>(p2 n).s c4 v fun y=>k (.mk c0 c1 c2 c3 y c5 c6 c7)) t v k)) (.mk (fun t=>(p2 n).g t.c5) (fun {Z} t v k=>H3.rec (motive:=fun _=>B→(H3→Z)→Z) (fun c0 c1 c2 c3 c4 c5 c6 c7 v k=>(p2 n).s c5 v fun y=>k (.mk c0 c1 c2 c3 c4 y c6 c7)) t v k)) (.mk (fun t=>(p2 n).g t.c6) (fun {Z} t v k=>H3.rec (motive:=fun _=>B→(H3→Z)→Z) (fun c0 c1 c2 c3 c4 c5 c6 c7 v k=>(p2 n).s c6 v fun y=>k (.mk c0 c1 c2 c3 c4 c5 y c7)) t v k)) (.mk (fun t=>(p2 n).g t.c7) (fun {Z} t v k=>H3.rec (motive:=fun _=>B→(H3→Z)→Z) (fun c0 c1 c2 c3 c4 c5 c6 c7 v k=>(p2 n).s c7 v fun y=>k (.mk c0 c1 c2 c3 c4 c5 c6 y)) t v k)) (dg3 n)
structure P4 where
 mk::(g:H4→B) (s : {Z:Type}→H4→B→(H4→Z)→Z)
noncomputable def p4 (n:Nat):P4:=D.rec (motive:=fun _=>P4) (.mk (fun t=>(p3 n).g t.c0) (fun {Z} t v k=>H4.rec (motive:=fun _=>B→(H4→Z)→Z) (fun c0 c1 c2 c3 c4 c5 c6 c7 v k=>(p3 n).s c0 v fun y=>k (.mk y c1 c2 c3 c4 c5 c6 c7)) t v k)) (.mk (fun t=>(p3 n).g t.c1) (fun {Z} t v k=>H4.rec (motive:=fun _=>B→(H4→Z)→Z) (fun c0 c1 c2 c3 c4 c5 c6 c7 v k=>(p3 n).s c1 v fun y=>k (.mk c0 y c2 c3 c4 c5 c6 c7)) t v k)) (.mk (fun t=>(p3 n).g t.c2) (fun {Z} t v k=>H4.rec (motive:=fun _=>B→(H4→Z)→Z) (fun c0 c1 c2 c3 c4 c5 c6 c7 v k=>(p3 n).s c2 v fun y=>k (.mk c0 c1 y c3 c4 c5 c6 c7)) t v k)) (.mk (fun t=>(p3 n).g t.c3) (fun {Z} t v k=>H4.rec (motive:=fun _=>B→(H4→Z)→Z) (fun c0 c1 c2 c3 c4 c5 c6 c7 v k=>(p3 n).s c3 v fun y=>k (.mk c0 c1 c2 y c4 c5 c6 c7)) t v k)) (.mk (fun t=>(p3 n).g t.c4) (fun {Z} t v k=>H4.rec (motive:=fun _=>B→(H4→Z)→Z) (fun c0 c1 c2 c3 c4 c5 c6 c7 v k=>(p3 n).s c4 v fun y=>k (.mk c0 c1 c2 c3 y c5 c6 c7)) t v k)) (.mk (fun t=>(p3 n).g t.c5) (fun {Z} t v k=>H4.rec (motive:=fun _=>B→(H4→Z)→Z) (fun c0 c1 c2 c3 c4 c5 c6 c7 v k=>(p3 n).s c5 v fun y=>k (.mk c0 c1 c2 c3 c4 y c6 c7)) t v k)) (.mk (fun t=>(p3 n).g t.c6) (fun {Z} t v k=>H4.rec (motive:=fun _=>B→(H4→Z)→Z) (fun c0 c1 c2 c3 c4 c5 c6 c7 v k=>(p3 n).s c6 v fun y=>k (.mk c0 c1 c2 c3 c4 c5 y c7)) t v k)) (.mk (fun t=>(p3 n).g t.c7) (fun {Z} t v k=>H4.rec (motive:=fun _=>B→(H4→Z)→Z) (fun c0 c1 c2 c3 c4 c5 c6 c7 v k=>(p3 n).s c7 v fun y=>k (.mk c0 c1 c2 c3 c4 c5 c6 y)) t v k)) (dg4 n)
structure P5 where
 mk::(g:H5→B) (s : {Z:Type}→H5→B→(H5→Z)→Z)
noncomputable def p5 (n:Nat):P5:=D.rec (motive:=fun _=>P5) (.mk (fun t=>(p4 n).g t.c0) (fun {Z} t v k=>H5.rec (motive:=fun _=>B→(H5→Z)→Z) (fun c0 c1 c2 c3 c4 c5 c6 c7 v k=>(p4 n).s c0 v fun y=>k (.mk y c1 c2 c3 c4 c5 c6 c7)) t v k)) (.mk (fun t=>(p4 n).g t.c1) (fun {Z} t v k=>H5.rec (motive:=fun _=>B→(H5→Z)→Z) (fun c0 c1 c2 c3 c4 c5 c6 c7 v k=>(p4 n).s c1 v fun y=>k (.mk c0 y c2 c3 c4 c5 c6 c7)) t v k)) (.mk (fun t=>(p4 n).g t.c2) (fun {Z} t v k=>H5.rec (motive:=fun _=>B→(H5→Z)→Z) (fun c0 c1 c2 c3 c4 c5 c6 c7 v k=>(p4 n).s c2 v fun y=>k (.mk c0 c1 y c3 c4 c5 c6 c7)) t v k)) (.mk (fun t=>(p4 n).g t.c3) (fun {Z} t v k=>H5.rec (motive:=fun _=>B→(H5→Z)→Z) (fun c0 c1 c2 c3 c4 c5 c6 c7 v k=>(p4 n).s c3 v fun y=>k (.mk c0 c1 c2 y c4 c5 c6 c7)) t v k)) (.mk (fun t=>(p4 n).g t.c4) (fun {Z} t v k=>H5.rec (motive:=fun _=>B→(H5→Z)→Z) (fun c0 c1 c2 c3 c4 c5 c6 c7 v k=>(p4 n).s c4 v fun y=>k (.mk c0 c1 c2 c3 y c5 c6 c7)) t v k)) (.mk (fun t=>(p4 n).g t.c5) (fun {Z} t v k=>H5.rec (motive:=fun _=>B→(H5→Z)→Z) (fun c0 c1 c2 c3 c4 c5 c6 c7 v k=>(p4 n).s c5 v fun y=>k (.mk c0 c1 c2 c3 c4 y c6 c7)) t v k)) (.mk (fun t=>(p4 n).g t.c6) (fun {Z} t v k=>H5.rec (motive:=fun _=>B→(H5→Z)→Z) (fun c0 c1 c2 c3 c4 c5 c6 c7 v k=>(p4 n).s c6 v fun y=>k (.mk c0 c1 c2 c3 c4 c5 y c7)) t v k)) (.mk (fun t=>(p4 n).g t.c7) (fun {Z} t v k=>H5.rec (motive:=fun _=>B→(H5→Z)→Z) (fun c0 c1 c2 c3 c4 c5 c6 c7 v k=>(p4 n).s c7 v fun y=>k (.mk c0 c1 c2 c3 c4 c5 c6 y)) t v k)) (dg5 n)
noncomputable def TV.get (t:TV) (n:Nat):AV:=TV.rec (motive:=fun _=>Nat→AV) (fun x n=>(q1 n).g x) (fun x n=>(q2 n).g x) (fun x n=>(q3 n).g x) (fun x n=>(q4 n).g x) t n
noncomputable def TV.set {Z:Type} (t:TV) (n:Nat) (v:AV) (k:TV→Z):Z:=TV.rec (motive:=fun _=>Nat→AV→(TV→Z)→Z) (fun x n v k=>(q1 n).s x v fun y=>k (.s y)) (fun x n v k=>(q2 n).s x v fun y=>k (.t y)) (fun x n v k=>(q3 n).s x v fun y=>k (.m y)) (fun x n v k=>(q4 n).s x v fun y=>k (.l y)) t n v k
noncomputable def TV.emp {Z:Type} (n:Nat) (k:TV→Option Z):Option Z:=
 Bool.rec (motive:=fun _=>Option Z) (Bool.rec (motive:=fun _=>Option Z) (Bool.rec (motive:=fun _=>Option Z) (Bool.rec (motive:=fun _=>Option Z) none (k (.l L4.e)) (Nat.ble n 4096)) (k (.m L3.e)) (Nat.ble n 512)) (k (.t L2.e)) (Nat.ble n 64)) (k (.s L1.e)) (Nat.ble n 8)
end Go.Ev
end
