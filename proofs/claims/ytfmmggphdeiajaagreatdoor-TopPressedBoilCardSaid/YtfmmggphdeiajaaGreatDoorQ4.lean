/- Texts that the last one of this claim imports. -/
import Derived.ChangeKeysEq
import Derived.ProofKit
import Derived.OpenShut
import Derived.Carry
import Derived.Lib.SmallJoins
import Derived.Deep.Slices
import Derived.Handed
import Derived.LaidLaws
import Derived.Stop.Joined
import Derived.Test.YtfmmggphdeiajaaGreatDoorProg
import Derived.Test.YtfmmggphdeiajaaGreatDoorQ3
set_option linter.unusedVariables false
set_option linter.unusedSimpArgs false
set_option linter.unusedSectionVars false
section
set_option linter.unusedVariables false
namespace Go.Lw
open Go.RowKit
section
variable {cx:Cx} {n:Nat} {ks:List (Nat×Value)} {O:List Own} {V:View} {P:Program} {ops:Array Oper} {Qn:Act→World→Prop} {t:Tr} {i d:Nat} {T:TypeId} {pos:String} {after:Array Edge} {gd:Option (Nat×Bool)} {x y:Operand} {p q:Int} {X Z:TypeId}
theorem or_lt63 {A B:Nat} (hA:A<9223372036854775808) (hB:B<9223372036854775808):A ||| B<9223372036854775808:=Nat.or_lt_two_pow (n:=63) hA hB
theorem AtT.orN {A B:Nat} (ho:ops[i]? = some ⟨some d,.binOp .or X x y Z,T,pos,after,gd⟩) (hg:Gd ks ops gd) (hx:ev ks x=some (.int .i64 p)) (hy:ev ks y=some (.int .i64 q)) (hp:p=(A:Int)) (hq:q=(B:Int)) (hA:A<9223372036854775808) (hB:B<9223372036854775808) (hn:d<n)
  (next:AtT cx n ((d,.int .i64 ((A ||| B:Nat):Int))::ks) O V P ops Qn t):AtT cx n ks O V P ops Qn (.q i t):=
 .q ho hg rfl hn (fun a w hk _=>by
  subst hp hq
  have hr:Op.intBits .or .i64 (A:Int) (B:Int)=(pure (.int .i64 ((A ||| B:Nat):Int)):Sem Value):=by
   show(pure (Value.int .i64 (IntKind.i64.wrap ((BitVec.ofInt 64 (A:Int) ||| BitVec.ofInt 64 (B:Int)).toNat:Int))):Sem Value)=_
   rw[BitVec.toNat_or,ofInt_u64 A (by omega),ofInt_u64 B (by omega),Go.Lib.wrap_i64_small _ (or_lt63 hA hB)]
  simp[execOp,hk.ev hx,hk.ev hy,eqGuard_or,binOp_or,hr]) next
end
end Go.Lw
end
section
set_option linter.unusedVariables false
namespace Go.Proofs.YtfmmggphdeiajaaGreatDoor
open Go.Lw Go.Gl Go.Bl Go.RowKit
theorem sound_f (p:Pq) (V:View):Fnc Tryz.prog 88 [pqv p] V fun r _=>r=.bool (sndB p):=by
 refine zS Tryz.func88 rfl Tryz.ntmps88 (Nat.le_of_ble_eq_true rfl) ?_
 intro w0 hw0
 refine At.nrm ?_
 refine At.zh (.n false 0 (.q 1 .done)) ?_
 refine AtT.jS ?_
 intro b1
 refine AtT.zf ?_
 refine AtT.done ?_
 refine At.nrm ?_
 refine At.zh (.q 0 (.q 1 (.q 2 (.q 3 (.q 4 (.q 5 (.n false 6 (.n false 7 (.q 8 .done))))))))) ?_
 first | refine AtT.zm fo40_0 ?_ | with_reducible refine AtT.zn fo40_0 ?_ | refine AtT.zq fo40_0 ?_
 first | refine AtT.zk tk3 ?_ | refine AtT.zo tk3 ?_
 first | refine AtT.zm fo40_1 ?_ | with_reducible refine AtT.zn fo40_1 ?_ | refine AtT.zq fo40_1 ?_
 first | refine AtT.zk tk3 ?_ | refine AtT.zo tk3 ?_
 first | refine AtT.zm fo40_2 ?_ | with_reducible refine AtT.zn fo40_2 ?_ | refine AtT.zq fo40_2 ?_
 first | refine AtT.zk tk3 ?_ | refine AtT.zo tk3 ?_
 refine AtT.qi (bs22_3_0_1_2 _ _ _) ?_
 intro q9 V9 hV9 hq9
 refine AtT.zJ rfl rfl ok61 (within_f 0 4 [p.m,p.o,p.h] _ _ (Sl.lit hq9 rfl (by simp))) ?_
 rintro _ rfl; rw[wi_pq]
 refine AtT.zf ?_
 refine AtT.done ?_
 refine At.nrm ?_
 exact At.zT rfl (.tmp rfl) rfl
theorem bad_f (t:Tq) (V:View):Fnc Tryz.prog 106 ([]++[tqv t]++[]) V fun r _=>r=.bool (badT t):=by
 refine zS Tryz.func106 rfl Tryz.ntmps106 (Nat.le_of_ble_eq_true rfl) ?_
 intro w0 hw0
 refine At.nrm ?_
 refine At.zh (.n false 0 (.q 1 .done)) ?_
 refine AtT.jS ?_
 intro b1
 refine AtT.zf ?_
 refine AtT.done ?_
 refine At.nrm ?_
 refine At.zh (.q 0 (.q 1 (.n false 2 (.q 3 (.q 4 .done))))) ?_
 first | refine AtT.zm fo42_0 ?_ | with_reducible refine AtT.zn fo42_0 ?_ | refine AtT.zq fo42_0 ?_
 first | refine AtT.zB tk40 ?_ | refine AtT.zM tk40 ?_ | refine AtT.zA tk40 ?_
 refine AtT.zJ rfl rfl ok88 (sound_f t.p _) ?_
 rintro _ rfl
 refine AtT.knot ?_
 refine AtT.zf ?_
 refine AtT.done ?_
 refine At.nrm ?_
 exact At.zT rfl (.tmp rfl) rfl
theorem trials_f (ts:List Tq) (V:View) (v:Value) (hs:Sl V tqe 4 v ts):Fnc Tryz.prog 60 [v] V fun r _=>r=iv (trE ts):=by
 have hs':=hs
 obtain⟨a,c,rfl,k1,k2,_⟩:=id hs
 clear k1 k2
 refine zS Tryz.func60 rfl Tryz.ntmps60 (Nat.le_of_ble_eq_true rfl) ?_
 intro w0 hw0
 refine At.nrm ?_
 refine At.zh (.q 0 .done) ?_
 refine AtT.zf ?_
 refine AtT.done ?_
 refine At.nrm ?_
 refine At.zh (.q 0 (.q 1 (.q 2 (.q 3 .done)))) ?_
 refine AtT.ze ?_
 first | refine AtT.zK Tryz.underlying37 ?_ | refine AtT.zL Tryz.underlying37 ?_
 refine AtT.qx ?_
 refine AtT.zf ?_
 refine AtT.done ?_
 refine At.nrm ?_
 refine At.zZ rfl (fun hb=>?_) (fun hb=>?_)
 ·refine At.nrm ?_
  refine At.zh (.q 0 .done) ?_
  refine AtT.zf ?_
  refine AtT.done ?_
  refine At.nrm ?_
  refine At.zT rfl (.tmp rfl) ?_
  rw[trE,if_pos (by omega)]
 have hb':¬ 16<ts.length:=by omega
 refine At.nrm ?_
 refine At.zh (.q 0 (.n false 1 (.q 2 .done))) ?_
 refine AtT.ze ?_
 refine AtT.zJ rfl rfl ok105 (contains_t 106 [] badT _ _ ts hs' ok106 (fun t _=>bad_f t _)) ?_
 rintro _ rfl
 refine AtT.zf ?_
 refine AtT.done ?_
 refine At.nrm ?_
 refine At.cond rfl (fun hc=>?_) (fun hc=>?_)
 ·refine At.nrm ?_
  refine At.zh (.q 0 .done) ?_
  refine AtT.zf ?_
  refine AtT.done ?_
  refine At.nrm ?_
  refine At.zT rfl (.tmp rfl) ?_
  rw[trE,if_neg hb',if_pos hc]
 refine At.nrm ?_
 refine At.zh (.q 0 .done) ?_
 refine AtT.zf ?_
 refine AtT.done ?_
 refine At.nrm ?_
 refine At.zT rfl (.tmp rfl) ?_
 rw[trE,if_neg hb',if_neg (by rw[hc]; simp)]
theorem panel_f (m o h:Int) (V:View):Fnc Tryz.prog 23 [iv m,iv o,iv h] V fun r _=>r=pqv ⟨m,o,h⟩:=by
 refine zS Tryz.func23 rfl Tryz.ntmps23 (Nat.le_of_ble_eq_true rfl) ?_
 intro w0 hw0
 refine At.nrm ?_
 refine At.zh (.n false 0 .done) ?_
 refine AtT.qE z40 ?_
 intro b6
 refine AtT.done ?_
 refine At.nrm ?_
 refine At.zh (.q 0 (.q 1 (.q 2 (.q 3 (.n true 4 .done))))) ?_
 refine AtT.ze ?_
 refine AtT.ze ?_
 refine AtT.ze ?_
 refine AtT.jk (bd40_0_1_2 _ _ _) ?_
 refine AtT.qc tk40 ?_
 refine AtT.done ?_
 refine At.nrm ?_
 exact At.zT rfl (.agg rfl tk40 zN.zx rfl) rfl
theorem trial_f (m o h:Int) (f:Bool) (V:View):Fnc Tryz.prog 12 [iv m,iv o,iv h,.bool f] V fun r _=>r=tqv ⟨⟨m,o,h⟩,f⟩:=by
 refine zS Tryz.func12 rfl Tryz.ntmps12 (Nat.le_of_ble_eq_true rfl) ?_
 intro w0 hw0
 refine At.nrm ?_
 refine At.zh (.n false 0 .done) ?_
 refine AtT.qE z42 ?_
 intro b8
 refine AtT.done ?_
 refine At.nrm ?_
 refine At.zh (.q 0 (.q 1 (.q 2 (.n false 3 (.q 4 (.q 5 (.n true 6 .done))))))) ?_
 refine AtT.ze ?_
 refine AtT.ze ?_
 refine AtT.ze ?_
 refine AtT.zJ rfl rfl ok23 (panel_f _ _ _ _) ?_
 rintro _ rfl
 refine AtT.ze ?_
 refine AtT.jk (bd42_0_1 _ _ _ _) ?_
 refine AtT.qc tk42 ?_
 refine AtT.done ?_
 refine At.nrm ?_
 exact At.zT rfl (.agg rfl tk42 zN.zx rfl) rfl
end Go.Proofs.YtfmmggphdeiajaaGreatDoor
end
section
set_option linter.unusedVariables false
namespace Go.Proofs.YtfmmggphdeiajaaGreatDoor
open Go.Lw Go.Gl Go.Bl Go.RowKit
theorem setOf_f (l:List Int) (hl:∀ x∈l,0≤x∧x<15) (V:View) (v:Value) (hs:SlI V v l):Fnc Tryz.prog 30 [v] V fun r _=>r=stv (btL l):=by
 have hlen:=hs.qI
 obtain⟨a,c,rfl,k1,k2,_⟩:=id hs
 clear k1 k2
 refine zS Tryz.func30 rfl Tryz.ntmps30 (Nat.le_of_ble_eq_true rfl) ?_
 intro w0 hw0
 refine At.nrm ?_
 refine At.zh (.n false 0 .done) ?_
 refine AtT.qE z73 ?_
 intro b2
 refine AtT.done ?_
 refine At.nrm ?_
 refine At.zh (.q 0 (.n false 1 (.n true 2 .done))) ?_
 refine AtT.jk (bd73) ?_
 refine AtT.qE z73 ?_
 intro b3
 refine AtT.qc zY ?_
 refine AtT.done ?_
 refine At.nrm ?_
 refine At.zh (.q 0 (.q 1 (.q 2 .done))) ?_
 refine AtT.ze ?_
 first | refine AtT.zK Tryz.underlying22 ?_ | refine AtT.zL Tryz.underlying22 ?_
 refine AtT.ze ?_
 refine AtT.done ?_
 refine At.nrm ?_
 refine At.lp (ι:=Nat) (KS:=fun k=>[(2,.pointer (some ⟨b2,0,none⟩)),(3,.pointer (some ⟨b3,0,none⟩)),(7,.slice a l.length c),(8,iv l.length),(9,iv k)]) (OS:=fun k=>[.blk b2 (LC [iv 0] 73),.blk b3 (LC [iv (btL (l.take k))] 73)]) (VS:=fun k V'=>V'=V∧k≤l.length) (μ:=fun k=>l.length-k) 0 ?_ ?_ ?_ ?_
 ·exact⟨rfl,rfl,rfl,rfl,rfl,trivial⟩
 ·exact Pt.zx
 ·exact⟨rfl,Nat.zero_le _⟩
 ·rintro k V' ks' O' ⟨rfl,hkl⟩ hk hO hl2
  subst hk hO
  have hb:=btT_lt hl k
  refine At.nrm ?_
  refine At.zh (.q 0 .done) ?_
  refine AtT.qg ?_
  refine AtT.done ?_
  refine At.nrm ?_
  refine At.zZ rfl (fun hp=>?_) (fun hp=>?_)
  ·obtain⟨x,hx⟩:∃ x,l[k]? = some x:=⟨_,List.getElem?_eq_getElem (by omega)⟩
   have hx0:=hl x (List.mem_of_getElem? hx)
   have hpw:=pow_lt15 hx0
   have hnx:=btL_take hx
   refine At.nrm ?_
   refine At.zh (.q 0 (.q 1 (.q 2 .done))) ?_
   refine AtT.zU Tryz.underlying22 tk3 ?_
   intro p11 e11 he11 hc11
   obtain rfl:e11=x:=by have:l[k]? = some e11:=(by simpa using he11); rw[hx]at this; simpa using this.symm
   first | refine AtT.zk tk3 ?_ | refine AtT.zo tk3 ?_
   refine AtT.zf ?_
   refine AtT.done ?_
   refine At.nrm ?_
   refine At.draw (.q 0 (.q 1 (.q 2 (.q 3 (.q 4 (.q 5 (.n true 6 .done))))))) ffm (by kernel_rfl) ?_
   first | refine AtT.zm qQ ?_ | with_reducible refine AtT.zn qQ ?_ | refine AtT.zq qQ ?_
   first | refine AtT.zk tk3 ?_ | refine AtT.zo tk3 ?_
   refine AtT.ze ?_
   refine AtT.shlN rfl trivial rfl rfl (N:=e11.toNat) (by omega) (by omega) (by decide) ?_
   refine AtT.orN rfl trivial rfl rfl rfl rfl (by omega) (by omega) (by decide) (A:=btL (l.take k)) (B:=2 ^ e11.toNat) ?_
   first | refine AtT.zm qQ ?_ | with_reducible refine AtT.zn qQ ?_ | refine AtT.zq qQ ?_
   first | refine AtT.kstore1 tk3 ?_ | refine AtT.qc tk3 ?_
   refine AtT.done ?_
   refine At.nrm ?_
   refine At.zh (.q 0 (.q 1 .done)) ?_
   first | refine AtT.qm ?_ | refine AtT.zR ?_
   refine AtT.ze ?_
   refine AtT.done ?_
   refine At.nrm ?_
   refine At.round (k+1) ?_ ?_ ?_ ?_
   ·show l.length-(k+1)<l.length-k; omega
   ·exact⟨rfl,by omega⟩
   ·exact⟨rfl,rfl,rfl,rfl,ivs (by omega),trivial⟩
   rw[hnx]
   ·exact Pt.zx
  ·obtain rfl:k=l.length:=by omega
   rw[List.take_length]
   refine At.nrm ?_
   refine At.zh (.q 0 (.n true 1 .done)) ?_
   first | refine AtT.zB zY ?_ | refine AtT.zM zY ?_ | refine AtT.zA zY ?_
   refine AtT.qc zY ?_
   refine AtT.done ?_
   refine At.nrm ?_
   exact At.zT rfl (.agg rfl zY zN.zx rfl) rfl
theorem meets_f (A B:Nat) (hA:A<9223372036854775808) (hB:B<9223372036854775808) (V:View):Fnc Tryz.prog 31 [stv A,stv B] V fun r _=>r=.bool (mtB A B):=by
 refine zS Tryz.func31 rfl Tryz.ntmps31 (Nat.le_of_ble_eq_true rfl) ?_
 intro w0 hw0
 refine At.nrm ?_
 refine At.zh (.n false 0 (.n false 1 (.q 2 .done))) ?_
 refine AtT.jS ?_
 intro b2
 refine AtT.jS ?_
 intro b3
 refine AtT.zf ?_
 refine AtT.done ?_
 refine At.nrm ?_
 refine At.zh (.q 0 (.q 1 (.q 2 (.q 3 (.q 4 (.q 5 (.q 6 .done))))))) ?_
 first | refine AtT.zm qQ ?_ | with_reducible refine AtT.zn qQ ?_ | refine AtT.zq qQ ?_
 first | refine AtT.zk tk3 ?_ | refine AtT.zo tk3 ?_
 first | refine AtT.zm qQ ?_ | with_reducible refine AtT.zn qQ ?_ | refine AtT.zq qQ ?_
 first | refine AtT.zk tk3 ?_ | refine AtT.zo tk3 ?_
 refine AtT.andN rfl trivial rfl rfl rfl rfl hA hB (by decide) (A:=A) (B:=B) ?_
 refine AtT.qx ?_
 refine AtT.zf ?_
 refine AtT.done ?_
 refine At.nrm ?_
 exact At.zT rfl (.tmp rfl) (by rw[mt_pos])
theorem causes_f (p:Pq) (hp:sndB p=true) (V:View):Fnc Tryz.prog 89 [pqv p] V fun r _=>r=stv (cbN p):=by
 have hs:=hp
 unfold sndB at hs
 rw[decide_eq_true_eq]at hs
 refine zS Tryz.func89 rfl Tryz.ntmps89 (Nat.le_of_ble_eq_true rfl) ?_
 intro w0 hw0
 refine At.nrm ?_
 refine At.zh (.n false 0 (.n false 1 .done)) ?_
 refine AtT.jS ?_
 intro b1
 refine AtT.qE z73 ?_
 intro b2
 refine AtT.done ?_
 refine At.nrm ?_
 refine At.zh (.q 0 (.q 1 (.q 2 (.q 3 (.q 4 (.q 5 (.q 6 (.q 7 (.n false 8 (.n false 9 (.n true 10 .done))))))))))) ?_
 first | refine AtT.zm fo40_0 ?_ | with_reducible refine AtT.zn fo40_0 ?_ | refine AtT.zq fo40_0 ?_
 first | refine AtT.zk tk3 ?_ | refine AtT.zo tk3 ?_
 first | refine AtT.zm fo40_1 ?_ | with_reducible refine AtT.zn fo40_1 ?_ | refine AtT.zq fo40_1 ?_
 first | refine AtT.zk tk3 ?_ | refine AtT.zo tk3 ?_
 first | refine AtT.qm ?_ | refine AtT.zR ?_
 first | refine AtT.zm fo40_2 ?_ | with_reducible refine AtT.zn fo40_2 ?_ | refine AtT.zq fo40_2 ?_
 first | refine AtT.zk tk3 ?_ | refine AtT.zo tk3 ?_
 first | refine AtT.qm ?_ | refine AtT.zR ?_
 refine AtT.qi (bs22_3_0_1_2 _ _ _) ?_
 intro q11 V11 hV11 hq11
 refine AtT.zJ rfl rfl ok30 (setOf_f (caL p) (caL_in hp) _ _ (Sl.lit hq11 rfl (by simp[caL]))) ?_
 rintro _ rfl
 refine AtT.qc zY ?_
 refine AtT.done ?_
 refine At.nrm ?_
 exact At.zT rfl (.agg rfl zY zN.zx rfl) rfl
theorem list_f (A:Nat) (hA:A<9223372036854775808) (V:View):Fnc Tryz.prog 27 [stv A] V fun r V'=>SlI V' r (ql A 15):=by
 refine zS Tryz.func27 rfl Tryz.ntmps27 (Nat.le_of_ble_eq_true rfl) ?_
 intro w0 hw0
 refine At.nrm ?_
 refine At.zh (.n false 0 (.q 1 .done)) ?_
 refine AtT.jS ?_
 intro b1
 refine AtT.zf ?_
 refine AtT.done ?_
 refine At.nrm ?_
 refine At.zh (.q 0 .done) ?_
 refine AtT.zf ?_
 refine AtT.done ?_
 refine At.nrm ?_
 refine At.zh (.q 0 .done) ?_
 refine AtT.ze ?_
 refine AtT.done ?_
 refine At.nrm ?_
 refine At.newRow 3 1 ?_
 refine At.lp (ι:=Nat×Option Addr×Nat) (KS:=fun g=>[(1,.pointer (some ⟨b1,0,none⟩)),(3,.slice g.2.1 (ql A g.1).length g.2.2),(5,iv g.1)]) (OS:=fun g=>[.row (.slice g.2.1 (ql A g.1).length g.2.2) 3 1 (ql A g.1).length (flat ei (ql A g.1)),.blk b1 (LC [iv A] 73)]) (VS:=fun g V'=>Le V V'∧g.1≤15) (μ:=fun g=>15-g.1) (0,none,0) ?_ ?_ ?_ ?_
 ·exact⟨rfl,rfl,rfl,trivial⟩
 ·exact Pt.zx
 ·exact⟨Le.refl _,Nat.zero_le _⟩
 ·rintro⟨k,ao,co⟩ V' ks' O' ⟨hVV,hkl⟩ hk hO hl2
  dsimp only at hkl hk hO
  subst hk hO
  have hkn:=bitL_len A k
  refine At.nrm ?_
  refine At.zh (.q 0 .done) ?_
  refine AtT.qg ?_
  refine AtT.done ?_
  refine At.nrm ?_
  refine At.zZ rfl (fun hp=>?_) (fun hp=>?_)
  ·have hsr:A >>> k<9223372036854775808:=Nat.lt_of_le_of_lt (by rw[Nat.shiftRight_eq_div_pow]; exact Nat.div_le_self _ _) hA
   refine At.nrm ?_
   refine At.zh (.q 0 (.q 1 .done)) ?_
   refine AtT.ze ?_
   refine AtT.zf ?_
   refine AtT.done ?_
   refine At.nrm ?_
   refine At.zh (.q 0 (.q 1 (.q 2 (.q 3 (.q 4 (.q 5 .done)))))) ?_
   first | refine AtT.zm qQ ?_ | with_reducible refine AtT.zn qQ ?_ | refine AtT.zq qQ ?_
   first | refine AtT.zk tk3 ?_ | refine AtT.zo tk3 ?_
   refine AtT.ze ?_
   refine AtT.shrN rfl trivial rfl rfl rfl rfl (by omega) (by decide) (A:=A) (N:=k) ?_
   refine AtT.andN rfl trivial rfl rfl rfl rfl hsr (by decide) (by decide) (A:=A >>> k) (B:=1) ?_
   refine AtT.jR ?_
   refine AtT.done ?_
   refine At.nrm ?_
   refine At.zZ rfl (fun hc=>?_) (fun hc=>?_)
   ·have hb:A.testBit k=true:=(bit_iff A k).1 hc
    have hn2:ql A (k+1)=ql A k++[(k:Int)]:=by simp only[ql,hb,if_true]
    refine At.nrm ?_
    refine At.zh (.q 0 (.q 1 (.n false 2 (.n true 3 (.q 4 .done))))) ?_
    refine AtT.ze ?_
    refine AtT.ze ?_
    refine AtT.qi (qX _) ?_
    intro q16 V16 hV16 hq16
    have g16:Le V V16:=by first | exact hV16 | exact Le.trans (by assumption) hV16
    first | refine AtT.kX Tryz.underlying22 rw3 ?_
    intro a17 c17
    refine AtT.zf ?_
    refine AtT.done ?_
    refine At.nrm ?_
    refine At.zh (.q 0 (.q 1 .done)) ?_
    first | refine AtT.qm ?_ | refine AtT.zR ?_
    refine AtT.ze ?_
    refine AtT.done ?_
    refine At.nrm ?_
    refine At.round (k+1,a17,c17) ?_ ?_ ?_ ?_
    ·show 15-(k+1)<15-k; omega
    ·exact⟨hVV.trans (by assumption),by dsimp only; omega⟩
    ·dsimp only; rw[hn2,List.length_append]; exact⟨rfl,rfl,ivs (by omega),trivial⟩
    dsimp only
    rw[hn2,qB,List.length_append]
    ·exact Pt.zx
   ·have hb:¬ A.testBit k=true:=fun h=>hc ((bit_iff A k).2 h)
    have hn2:ql A (k+1)=ql A k:=by simp only[ql,if_neg hb]
    refine At.nrm ?_
    refine At.zh (.q 0 (.q 1 .done)) ?_
    first | refine AtT.qm ?_ | refine AtT.zR ?_
    refine AtT.ze ?_
    refine AtT.done ?_
    refine At.nrm ?_
    refine At.round (k+1,ao,co) ?_ ?_ ?_ ?_
    ·show 15-(k+1)<15-k; omega
    ·exact⟨hVV,by dsimp only; omega⟩
    ·dsimp only; rw[hn2]; exact⟨rfl,rfl,ivs (by omega),trivial⟩
    dsimp only
    rw[hn2]
    ·exact Pt.zx
  ·obtain rfl:k=15:=by omega
   refine At.nrm ?_
   refine At.zh (.q 0 (.q 1 .done)) ?_
   refine AtT.ze ?_
   refine AtT.zf ?_
   refine AtT.done ?_
   refine At.nrm ?_
   refine At.giveSl Lw.jd rfl rfl zN.zx (fun V4 hV4 hs4=>?_)
   exact At.zT rfl (.tmp rfl) hs4
theorem rising_f (l:List Int) (n:Int) (hn:0≤n∧n≤1000) (V:View) (v:Value) (hs:SlI V v l):Fnc Tryz.prog 29 [v,iv n] V fun r _=>r=.bool (lstB l n):=by
 have hlen:=hs.qI
 obtain⟨a,c,rfl,k1,k2,_⟩:=id hs
 clear k1 k2
 refine zS Tryz.func29 rfl Tryz.ntmps29 (Nat.le_of_ble_eq_true rfl) ?_
 intro w0 hw0
 refine At.nrm ?_
 refine At.zh (.q 0 .done) ?_
 refine AtT.zf ?_
 refine AtT.done ?_
 refine At.nrm ?_
 refine At.zh (.q 0 .done) ?_
 refine AtT.zf ?_
 refine AtT.done ?_
 refine At.nrm ?_
 refine At.zh (.q 0 (.q 1 (.q 2 .done))) ?_
 refine AtT.ze ?_
 first | refine AtT.zK Tryz.underlying22 ?_ | refine AtT.zL Tryz.underlying22 ?_
 refine AtT.ze ?_
 refine AtT.done ?_
 refine At.nrm ?_
 refine At.lp (ι:=Nat) (KS:=fun k=>[(1,iv n),(5,iv (prevN l k)),(8,.slice a l.length c),(9,iv l.length),(10,iv k)]) (OS:=fun _=>[]) (VS:=fun k V'=>Le V V'∧k≤l.length∧(∀ j,j<k→okAt l n j=true)) (μ:=fun k=>l.length-k) 0 ?_ ?_ ?_ ?_
 ·exact⟨rfl,rfl,rfl,rfl,rfl,trivial⟩
 ·exact Pt.zx
 ·exact⟨Le.refl _,Nat.zero_le _,fun j hj=>absurd hj (Nat.not_lt_zero j)⟩
 ·rintro k V' ks' O' ⟨hVV,hkl,hok⟩ hk hO hl2
  subst hk hO
  have hp0:=prevN_pos hok
  have hs':=hs.le hVV
  have hpn:prevN l k≤1000:=by
   match k,hok with
   | 0,_=>simp[prevN]
   | m+1,hok=>
    have:=hok m (by omega)
    unfold okAt at this
    rw[decide_eq_true_eq]at this
    simp only[prevN]; omega
  refine At.nrm ?_
  refine At.zh (.q 0 .done) ?_
  refine AtT.qg ?_
  refine AtT.done ?_
  refine At.nrm ?_
  refine At.zZ rfl (fun hp=>?_) (fun hp=>?_)
  ·obtain⟨x,hx⟩:∃ x,l[k]? = some x:=⟨_,List.getElem?_eq_getElem (by omega)⟩
   have hgx:l.getD k 0=x:=by simp[List.getD,hx]
   refine At.nrm ?_
   refine At.zh (.q 0 (.q 1 (.q 2 .done))) ?_
   refine AtT.zU Tryz.underlying22 tk3 ?_
   intro p12 e12 he12 hc12
   obtain rfl:e12=x:=by have:l[k]? = some e12:=(by simpa using he12); rw[hx]at this; simpa using this.symm
   first | refine AtT.zk tk3 ?_ | refine AtT.zo tk3 ?_
   refine AtT.zf ?_
   refine AtT.done ?_
   refine At.nrm ?_
   have hw:=wi1 (prevN l k) (n-1) e12
   refine At.zh (.q 0 (.q 1 (.q 2 (.q 3 (.n false 4 (.n false 5 (.q 6 .done))))))) ?_
   refine AtT.ze ?_
   refine AtT.ze ?_
   first | refine AtT.ksubt ?_ | refine AtT.ksubW ?_
   refine AtT.ze ?_
   refine AtT.qi (qX _) ?_
   intro q18 V18 hV18 hq18
   have g18:Le V V18:=by first | exact hV18 | exact Le.trans (by assumption) hV18
   refine AtT.zJ rfl rfl ok61 (within_f (prevN l k) (n-1) [e12] _ _ (Sl.lit hq18 rfl (by simp))) ?_
   rintro _ rfl; rw[hw]
   refine AtT.knot ?_
   refine AtT.done ?_
   refine At.nrm ?_
   by_cases c1:prevN l k≤e12∧e12≤n-1
   ·refine At.qf rfl (by rw[decide_eq_true c1]; rfl) ?_
    refine At.nrm ?_
    refine At.zh (.q 0 (.q 1 (.q 2 .done))) ?_
    refine AtT.ze ?_
    first | refine AtT.qm ?_ | refine AtT.zR ?_
    refine AtT.zf ?_
    refine AtT.done ?_
    refine At.nrm ?_
    refine At.zh (.q 0 (.q 1 .done)) ?_
    first | refine AtT.qm ?_ | refine AtT.zR ?_
    refine AtT.ze ?_
    refine AtT.done ?_
    refine At.nrm ?_
    refine At.round (k+1) ?_ ?_ ?_ ?_
    ·show l.length-(k+1)<l.length-k; omega
    ·refine⟨hVV.trans (by assumption),by omega,fun j hj=>?_⟩
     by_cases hjk:j=k
     ·subst hjk; unfold okAt; rw[hgx]; exact decide_eq_true (by omega)
     ·exact hok j (by omega)
    ·exact⟨rfl,ivs (by simp only[prevN]; rw[hgx]),rfl,rfl,ivs (by omega),trivial⟩
    ·exact Pt.zx
   ·refine At.qK rfl (by rw[decide_eq_false c1]; rfl) ?_
    refine At.nrm ?_
    refine At.zh (.q 0 .done) ?_
    refine AtT.zf ?_
    refine AtT.done ?_
    refine At.nrm ?_
    exact At.zT rfl (.tmp rfl) (by rw[lstB_false (k:=k) (by omega) (by unfold okAt; rw[hgx]; exact decide_eq_false (by omega))])
  ·obtain rfl:k=l.length:=by omega
   refine At.nrm ?_
   refine At.zh (.q 0 .done) ?_
   refine AtT.zf ?_
   refine AtT.done ?_
   refine At.nrm ?_
   exact At.zT rfl (.tmp rfl) (by rw[lstB_true hok])
end Go.Proofs.YtfmmggphdeiajaaGreatDoor
end
section
set_option linter.unusedVariables false
namespace Go.Proofs.YtfmmggphdeiajaaGreatDoor
open Go.Lw Go.Gl Go.Bl Go.RowKit
theorem indexS_f (l:List Nat) (s:Nat) (V:View) (v:Value) (hs:Sl V ste 1 v l):Fnc Tryz.prog 90 [v,stv s] V fun r _=>r=iv (ixI (ixS l s)):=by
 have hlen:=hs.qI
 obtain⟨a,c,rfl,k1,k2,_⟩:=id hs
 clear k1 k2
 refine zS Tryz.func90 rfl Tryz.ntmps90 (Nat.le_of_ble_eq_true rfl) ?_
 intro w0 hw0
 refine At.nrm ?_
 refine At.zh (.n false 0 (.q 1 .done)) ?_
 refine AtT.jS ?_
 intro b3
 refine AtT.zf ?_
 refine AtT.done ?_
 refine At.nrm ?_
 refine At.zh (.q 0 (.q 1 (.q 2 .done))) ?_
 refine AtT.ze ?_
 first | refine AtT.zK Tryz.underlying69 ?_ | refine AtT.zL Tryz.underlying69 ?_
 refine AtT.ze ?_
 refine AtT.done ?_
 refine At.nrm ?_
 refine At.lp (ι:=Nat) (KS:=fun k=>[(0,.slice a l.length c),(3,.pointer (some ⟨b3,0,none⟩)),(7,iv l.length),(8,iv k)]) (OS:=fun _=>[.blk b3 (LC [iv (s:Int)] 73)]) (VS:=fun k V'=>V'=V∧k≤l.length∧∀ (j:Nat) (y:Nat),j<k→l[j]? = some y→(y == s)=false) (μ:=fun k=>l.length-k) 0 ?_ ?_ ?_ ?_
 ·exact⟨rfl,rfl,rfl,rfl,trivial⟩
 ·exact Pt.zx
 ·exact⟨rfl,Nat.zero_le _,fun j y hj=>absurd hj (Nat.not_lt_zero j)⟩
 ·rintro k V' ks' O' ⟨rfl,hkl,hok⟩ hk hO hl2
  subst hk hO
  refine At.nrm ?_
  refine At.zh (.q 0 .done) ?_
  refine AtT.qg ?_
  refine AtT.done ?_
  refine At.nrm ?_
  refine At.zZ rfl (fun hp=>?_) (fun hp=>?_)
  ·obtain⟨x,hx⟩:∃ x,l[k]? = some x:=⟨_,List.getElem?_eq_getElem (by omega)⟩
   refine At.nrm ?_
   refine At.zh (.q 0 (.q 1 .done)) ?_
   refine AtT.ze ?_
   refine AtT.zf ?_
   refine AtT.done ?_
   refine At.nrm ?_
   refine At.draw (.q 0 (.q 1 (.q 2 (.q 3 (.q 4 (.q 5 .done)))))) ffm (by kernel_rfl) ?_
   first | refine AtT.zB zY ?_ | refine AtT.zM zY ?_ | refine AtT.zA zY ?_
   refine AtT.ze ?_
   refine AtT.ze ?_
   refine AtT.zU Tryz.underlying69 zY ?_
   intro p14 e14 he14 hc14
   obtain rfl:e14=x:=by have:l[k]? = some e14:=(by simpa using he14); rw[hx]at this; simpa using this.symm
   first | refine AtT.zB zY ?_ | refine AtT.zM zY ?_ | refine AtT.zA zY ?_
   refine AtT.keqS (eqS73 _ _) ?_
   refine AtT.done ?_
   refine At.nrm ?_
   refine At.zZ rfl (fun hc=>?_) (fun hc=>?_)
   ·have hix:ixS l s=some k:=fi_hit hx (by rw[beq_iff_eq]; omega) hok
    refine At.nrm ?_
    refine At.zh (.q 0 (.q 1 .done)) ?_
    refine AtT.ze ?_
    refine AtT.zf ?_
    refine AtT.done ?_
    refine At.nrm ?_
    exact At.zT rfl (.tmp rfl) (by rw[hix]; rfl)
   ·refine At.nrm ?_
    refine At.zh (.q 0 (.q 1 .done)) ?_
    first | refine AtT.qm ?_ | refine AtT.zR ?_
    refine AtT.ze ?_
    refine AtT.done ?_
    refine At.nrm ?_
    refine At.round (k+1) ?_ ?_ ?_ ?_
    ·show l.length-(k+1)<l.length-k; omega
    ·refine⟨rfl,by omega,fun j y hj hy=>?_⟩
     by_cases hjk:j=k
     ·subst hjk; rw[hx]at hy; cases hy; rw[beq_eq_false_iff_ne]; omega
     ·exact hok j y (by omega) hy
    ·exact⟨rfl,rfl,rfl,ivs (by omega),trivial⟩
    ·exact Pt.zx
  ·obtain rfl:k=l.length:=by omega
   have hix:ixS l s=none:=fi_none fun j y hj hy=>hok j y hj hy
   refine At.nrm ?_
   refine At.zh (.q 0 .done) ?_
   refine AtT.zf ?_
   refine AtT.done ?_
   refine At.nrm ?_
   exact At.zT rfl (.tmp rfl) (by rw[hix]; rfl)
theorem containsS_f (l:List Nat) (V:View) (v:Value) (hs:Sl V ste 1 v l):Fnc Tryz.prog 63 [v,stv 0] V fun r _=>r=.bool (l.any (· == 0)):=by
 refine zS Tryz.func63 rfl Tryz.ntmps63 (Nat.le_of_ble_eq_true rfl) ?_
 intro w0 hw0
 refine At.nrm ?_
 refine At.zh (.n false 0 (.q 1 .done)) ?_
 refine AtT.jS ?_
 intro b3
 refine AtT.zf ?_
 refine AtT.done ?_
 refine At.nrm ?_
 refine At.zh (.q 0 (.q 1 (.n false 2 (.q 3 (.q 4 .done))))) ?_
 refine AtT.ze ?_
 first | refine AtT.zB zY ?_ | refine AtT.zM zY ?_ | refine AtT.zA zY ?_
 refine AtT.zJ rfl rfl ok90 (indexS_f l 0 _ _ hs) ?_
 rintro _ rfl
 refine AtT.kgeq ?_
 refine AtT.zf ?_
 refine AtT.done ?_
 refine At.nrm ?_
 exact At.zT rfl (.tmp rfl) (by rw[ix_any])
end Go.Proofs.YtfmmggphdeiajaaGreatDoor
end
section
set_option linter.unusedVariables false
namespace Go.Proofs.YtfmmggphdeiajaaGreatDoor
open Go.Lw Go.Gl Go.Bl Go.RowKit
def BcV (V:View) (p:Addr) (ts:List Tq):Prop:=∃ a c a1 c1 a2 c2,Cells V p [.slice a ts.length c,iv (clA ts),.slice a1 (flL ts).length c1,.slice a2 (lsL ts).length c2]∧Sl V tqe 4 (.slice a ts.length c) ts∧SlI V (.slice a1 (flL ts).length c1) (flL ts)∧Sl V ste 1 (.slice a2 (lsL ts).length c2) (lsL ts)
theorem BcV.le {V V':View} {p:Addr} {ts:List Tq} (h:BcV V p ts) (hl:Le V V'):BcV V' p ts:=by
 obtain⟨a,c,a1,c1,a2,c2,h1,h2,h3,h4⟩:=h
 exact⟨a,c,a1,c1,a2,c2,h1.le hl,h2.le hl,h3.le hl,h4.le hl⟩
theorem newBench_f (ts:List Tq) (ht:∀ t∈ts,sndB t.p=true) (h16:ts.length≤16) (V:View) (v:Value) (hs:Sl V tqe 4 v ts):Fnc Tryz.prog 65 [v] V fun r V'=>∃ p,r=.pointer (some p)∧BcV V' p ts:=by
 obtain⟨a,c,rfl,h1,h2,_⟩:=id hs
 clear h1 h2
 have hcA:clA ts<32768:=clN_lt ht _
 refine zS Tryz.func65 rfl Tryz.ntmps65 (Nat.le_of_ble_eq_true rfl) ?_
 intro w0 hw0
 refine At.nrm ?_
 refine At.zh (.q 0 .done) ?_
 refine AtT.zf ?_
 refine AtT.done ?_
 refine At.nrm ?_
 refine At.zh (.q 0 (.q 1 (.q 2 (.n false 3 (.q 4 .done))))) ?_
 refine AtT.ze ?_
 refine AtT.jk (bd80_0 _ _ _) ?_
 refine AtT.jk (bd82_0 _ _ _ _) ?_
 refine AtT.jS ?_
 intro b11
 refine AtT.zf ?_
 refine AtT.done ?_
 refine At.nrm ?_
 refine At.zh (.q 0 (.q 1 (.q 2 (.q 3 (.q 4 (.q 5 (.q 6 .done))))))) ?_
 refine AtT.ze ?_
 refine AtT.jI ?_
 first | refine AtT.zm jc ?_ | with_reducible refine AtT.zn jc ?_ | refine AtT.zq jc ?_
 first | refine AtT.zm fo80_0 ?_ | with_reducible refine AtT.zn fo80_0 ?_ | refine AtT.zq fo80_0 ?_
 first | refine AtT.zk tk37 ?_ | refine AtT.zo tk37 ?_
 first | refine AtT.zK Tryz.underlying37 ?_ | refine AtT.zL Tryz.underlying37 ?_
 refine AtT.ze ?_
 refine AtT.done ?_
 refine At.nrm ?_
 refine At.lp (ι:=Nat) (KS:=fun k=>[(3,.pointer (some ⟨b11,0,none⟩)),(16,.slice a ts.length c),(17,iv ts.length),(18,iv k)]) (OS:=fun k=>[.blk b11 (LC [.slice a ts.length c,iv (clN ts k),.slice none 0 0,.slice none 0 0] 82)]) (VS:=fun k V'=>Le V V'∧k≤ts.length) (μ:=fun k=>ts.length-k) 0 ?_ ?_ ?_ ?_
 ·exact⟨rfl,rfl,rfl,rfl,trivial⟩
 ·exact Pt.zx
 ·exact⟨Le.refl _,Nat.zero_le _⟩
 ·rintro k V' ks' O' ⟨hVV,hkl⟩ hk hO hl2
  subst hk hO
  replace hs:=hs.le hVV
  have hcl:=clN_lt ht k
  refine At.nrm ?_
  refine At.zh (.q 0 .done) ?_
  refine AtT.qg ?_
  refine AtT.done ?_
  refine At.nrm ?_
  refine At.zZ rfl (fun hp=>?_) (fun hp=>?_)
  ·obtain⟨x,hx⟩:∃ x,ts[k]? = some x:=⟨_,List.getElem?_eq_getElem (by omega)⟩
   have hxs:=ht x (List.mem_of_getElem? hx)
   have hnx:=clN_at hx
   have hcb:=cbN_lt hxs
   refine At.nrm ?_
   refine At.zh (.q 0 (.q 1 (.n false 2 (.n true 3 .done)))) ?_
   refine AtT.zU Tryz.underlying37 tk42 ?_
   intro p20 e20 he20 hc20
   obtain rfl:e20=x:=by have:ts[k]? = some e20:=(by simpa using he20); rw[hx]at this; simpa using this.symm
   first | refine AtT.zB tk42 ?_ | refine AtT.zM tk42 ?_ | refine AtT.zA tk42 ?_
   refine AtT.qE z42 ?_
   intro b5
   refine AtT.qc tk42 ?_
   refine AtT.done ?_
   refine At.nrm ?_
   refine At.zh (.q 0 (.q 1 (.q 2 .done))) ?_
   first | refine AtT.zm fo42_1 ?_ | with_reducible refine AtT.zn fo42_1 ?_ | refine AtT.zq fo42_1 ?_
   first | refine AtT.zk tk4 ?_ | refine AtT.zo tk4 ?_
   refine AtT.knot ?_
   refine AtT.done ?_
   refine At.nrm ?_
   cases hf:e20.f with
   | true=>
    rw[hf,if_neg (by simp)]at hnx
    refine At.qf rfl rfl ?_
    refine At.nrm ?_
    refine At.zh (.q 0 (.q 1 .done)) ?_
    first | refine AtT.qm ?_ | refine AtT.zR ?_
    refine AtT.ze ?_
    refine AtT.done ?_
    refine At.nrm ?_
    refine At.round (k+1) ?_ ?_ ?_ ?_
    ·show ts.length-(k+1)<ts.length-k; omega
    ·exact⟨hVV,by omega⟩
    ·exact⟨rfl,rfl,rfl,ivs (by omega),trivial⟩
    rw[hnx]
    ·exact Pt.zx
   | false=>
    rw[hf,if_pos rfl]at hnx
    refine At.qK rfl rfl ?_
    refine At.nrm ?_
    refine At.cutG (ι:=Unit) (fun _=>[(3,.pointer (some ⟨b11,0,none⟩)),(16,.slice a ts.length c),(17,iv ts.length),(18,iv k)]) (fun _=>[.blk b11 (LC [.slice a ts.length c,iv ((clN ts k ||| cbN e20.p:Nat):Int),.slice none 0 0,.slice none 0 0] 82)]) (fun _ V''=>V''=V') ?_ ?_
    ·refine At.draw (.q 0 (.q 1 (.q 2 (.q 3 (.q 4 (.q 5 (.q 6 (.q 7 (.q 8 (.n false 9 (.q 10 (.q 11 (.q 12 (.q 13 (.q 14 (.q 15 (.n true 16 .done))))))))))))))))) ffm (by kernel_rfl) ?_
     refine AtT.ze ?_
     refine AtT.ze ?_
     refine AtT.jI ?_
     first | refine AtT.zm jc ?_ | with_reducible refine AtT.zn jc ?_ | refine AtT.zq jc ?_
     first | refine AtT.zm kF ?_ | with_reducible refine AtT.zn kF ?_ | refine AtT.zq kF ?_
     first | refine AtT.zm qQ ?_ | with_reducible refine AtT.zn qQ ?_ | refine AtT.zq qQ ?_
     first | refine AtT.zk tk3 ?_ | refine AtT.zo tk3 ?_
     first | refine AtT.zm fo42_0 ?_ | with_reducible refine AtT.zn fo42_0 ?_ | refine AtT.zq fo42_0 ?_
     first | refine AtT.zB tk40 ?_ | refine AtT.zM tk40 ?_ | refine AtT.zA tk40 ?_
     refine AtT.zJ rfl rfl ok89 (causes_f e20.p hxs _) ?_
     rintro _ rfl
     refine AtT.kfld (fl73_0 _) ?_
     refine AtT.orN rfl trivial rfl rfl rfl rfl (by omega) (by omega) (by decide) (A:=clN ts k) (B:=cbN e20.p) ?_
     refine AtT.jk (bd73_0 _) ?_
     refine AtT.jI ?_
     first | refine AtT.zm jc ?_ | with_reducible refine AtT.zn jc ?_ | refine AtT.zq jc ?_
     first | refine AtT.zm kF ?_ | with_reducible refine AtT.zn kF ?_ | refine AtT.zq kF ?_
     refine AtT.store rfl trivial rfl rfl zY rfl rfl (Nat.le_of_ble_eq_true rfl) rfl rfl (by repeat first|exact Upd.here|apply Upd.there) ?_
     refine AtT.done ?_
     refine At.nrm ?_
     all_goals (exact At.kH () rfl ⟨rfl,rfl,rfl,rfl,trivial⟩ Pt.zx)
    rintro _ V'' ks' O' rfl hk hO hl3
    subst hk hO
    refine At.nrm ?_
    refine At.zh (.q 0 (.q 1 .done)) ?_
    first | refine AtT.qm ?_ | refine AtT.zR ?_
    refine AtT.ze ?_
    refine AtT.done ?_
    refine At.nrm ?_
    refine At.round (k+1) ?_ ?_ ?_ ?_
    ·show ts.length-(k+1)<ts.length-k; omega
    ·exact⟨hVV,by omega⟩
    ·exact⟨rfl,rfl,rfl,ivs (by omega),trivial⟩
    rw[hnx]
    ·exact Pt.zx
  ·obtain rfl:k=ts.length:=by omega
   refine At.nrm ?_
   refine At.zh (.q 0 (.q 1 (.q 2 (.q 3 (.q 4 (.q 5 (.q 6 .done))))))) ?_
   refine AtT.ze ?_
   refine AtT.jI ?_
   first | refine AtT.zm jc ?_ | with_reducible refine AtT.zn jc ?_ | refine AtT.zq jc ?_
   first | refine AtT.zm fo80_0 ?_ | with_reducible refine AtT.zn fo80_0 ?_ | refine AtT.zq fo80_0 ?_
   first | refine AtT.zk tk37 ?_ | refine AtT.zo tk37 ?_
   first | refine AtT.zK Tryz.underlying37 ?_ | refine AtT.zL Tryz.underlying37 ?_
   refine AtT.ze ?_
   refine AtT.done ?_
   refine At.nrm ?_
   refine At.newRow 3 1 ?_
   refine At.newRow 73 1 ?_
   refine At.lp (ι:=Nat×(Option Addr×Nat)×Option Addr×Nat) (KS:=fun g=>[(3,.pointer (some ⟨b11,0,none⟩)),(46,.slice a ts.length c),(47,iv ts.length),(48,iv g.1)])
    (OS:=fun g=>[.blk b11 (LC [.slice a ts.length c,iv (clA ts),.slice g.2.1.1 (flK ts g.1).length g.2.1.2,.slice g.2.2.1 (lsK (clA ts) ts g.1).length g.2.2.2] 82),.row (.slice g.2.1.1 (flK ts g.1).length g.2.1.2) 3 1 (flK ts g.1).length (flat ei (flK ts g.1)),.row (.slice g.2.2.1 (lsK (clA ts) ts g.1).length g.2.2.2) 73 1 (lsK (clA ts) ts g.1).length (flat ste (lsK (clA ts) ts g.1))])
    (VS:=fun g V''=>Le V' V''∧g.1≤ts.length) (μ:=fun g=>ts.length-g.1) (0,(none,0),none,0) ?_ ?_ ?_ ?_
   ·exact⟨rfl,rfl,rfl,rfl,trivial⟩
   ·exact Pt.zx
   ·exact⟨Le.refl _,Nat.zero_le _⟩
   rintro⟨k,⟨a1,c1⟩,a2,c2⟩ V2 ks' O' ⟨hV2,hkl⟩ hk hO hl3
   dsimp only at hkl hk hO
   subst hk hO
   have hs2:=hs.le hV2
   have hVV2:=hVV.trans hV2
   have hfl:=fl_ls (clA ts) ts k
   refine At.nrm ?_
   refine At.zh (.q 0 .done) ?_
   refine AtT.qg ?_
   refine AtT.done ?_
   refine At.nrm ?_
   refine At.zZ rfl (fun hp=>?_) (fun hp=>?_)
   rotate_left
   ·obtain rfl:k=ts.length:=by omega
    refine At.nrm ?_
    refine At.zh (.q 0 (.q 1 .done)) ?_
    refine AtT.ze ?_
    refine AtT.zf ?_
    refine AtT.done ?_
    refine At.nrm ?_
    refine At.giveSl (l:=flL ts) Lw.jd rfl rfl zN.zx (fun V4 hV4 hs4=>?_)
    refine At.giveSl (l:=lsL ts) ste_len rfl rfl zN.zx (fun V5 hV5 hs5=>?_)
    refine At.giveB (b:=b11) zN.zx (fun V6 hV6 hb6=>?_)
    exact At.zT rfl (.tmp rfl) ⟨_,rfl,a,c,a1,c1,a2,c2,qj hb6,((hs2.le hV4).le hV5).le hV6,(hs4.le hV5).le hV6,hs5.le hV6⟩
   obtain⟨x,hx⟩:∃ x,ts[k]? = some x:=⟨_,List.getElem?_eq_getElem (by omega)⟩
   have hxs:=ht x (List.mem_of_getElem? hx)
   have hcb:=cbN_lt hxs
   refine At.nrm ?_
   refine At.zh (.q 0 (.q 1 (.q 2 (.n false 3 (.q 4 (.n true 5 .done)))))) ?_
   refine AtT.ze ?_
   refine AtT.zU Tryz.underlying37 tk42 ?_
   intro p51 e51 he51 hc51
   obtain rfl:e51=x:=by have:ts[k]? = some e51:=(by simpa using he51); rw[hx]at this; simpa using this.symm
   first | refine AtT.zB tk42 ?_ | refine AtT.zM tk42 ?_ | refine AtT.zA tk42 ?_
   refine AtT.qE z42 ?_
   intro b7
   refine AtT.zf ?_
   refine AtT.qc tk42 ?_
   refine AtT.done ?_
   refine At.nrm ?_
   refine At.zh (.q 0 (.q 1 .done)) ?_
   first | refine AtT.zm fo42_1 ?_ | with_reducible refine AtT.zn fo42_1 ?_ | refine AtT.zq fo42_1 ?_
   first | refine AtT.zk tk4 ?_ | refine AtT.zo tk4 ?_
   refine AtT.done ?_
   refine At.nrm ?_
   cases hf:e51.f with
   | false=>
    have e1:=flK_f hx hf
    have e2:=lsK_f (no:=clA ts) hx hf
    refine At.qf rfl rfl ?_
    refine At.nrm ?_
    refine At.zh (.q 0 (.q 1 .done)) ?_
    first | refine AtT.qm ?_ | refine AtT.zR ?_
    refine AtT.ze ?_
    refine AtT.done ?_
    refine At.nrm ?_
    refine At.round (k+1,(a1,c1),a2,c2) ?_ ?_ ?_ ?_
    ·show ts.length-(k+1)<ts.length-k; omega
    ·exact⟨hV2,by dsimp only; omega⟩
    ·exact⟨rfl,rfl,rfl,ivs (by dsimp only; omega),trivial⟩
    dsimp only
    rw[e1,e2]
    ·exact Pt.zx
   | true=>
    have e1:=flK_t hx hf
    have e2:=lsK_t (no:=clA ts) hx hf
    refine At.qK rfl rfl ?_
    refine At.nrm ?_
    refine At.zh (.q 0 (.q 1 (.q 2 (.q 3 (.q 4 (.q 5 (.n false 6 (.n true 7 (.q 8 (.q 9 (.n true 10 .done))))))))))) ?_
    refine AtT.ze ?_
    refine AtT.ze ?_
    refine AtT.jI ?_
    first | refine AtT.zm fo82_1 ?_ | with_reducible refine AtT.zn fo82_1 ?_ | refine AtT.zq fo82_1 ?_
    first | refine AtT.zk zQ ?_ | refine AtT.zo zQ ?_
    refine AtT.ze ?_
    refine AtT.qi (qX _) ?_
    intro q61 V61 hV61 hq61
    have g61:Le V V61:=by first | exact hV61 | exact Le.trans (by assumption) hV61
    first | refine AtT.kX Tryz.underlying22 rw3 ?_
    intro a62 c62
    refine AtT.jI ?_
    first | refine AtT.zm fo82_1 ?_ | with_reducible refine AtT.zn fo82_1 ?_ | refine AtT.zq fo82_1 ?_
    first | refine AtT.kstore1 zQ ?_ | refine AtT.qc zQ ?_
    refine AtT.done ?_
    refine At.nrm ?_
    refine At.cutG (ι:=Option Addr×Nat) (fun _=>[(3,.pointer (some ⟨b11,0,none⟩)),(46,.slice a ts.length c),(47,iv ts.length),(48,iv k)])
     (fun g=>[.blk b11 (LC [.slice a ts.length c,iv (clA ts),.slice a62 ((flK ts k).length+1) c62,.slice g.1 ((lsK (clA ts) ts k).length+1) g.2] 82),.row (.slice a62 ((flK ts k).length+1) c62) 3 1 ((flK ts k).length+1) (flat ei (flK ts k)++flat ei [(k:Int)]),.row (.slice g.1 ((lsK (clA ts) ts k).length+1) g.2) 73 1 ((lsK (clA ts) ts k).length+1) (flat ste (lsK (clA ts) ts k)++flat ste [clrB (cbN e51.p) (clA ts)])])
     (fun _ V''=>Le V2 V'') ?_ ?_
    ·refine At.drawC [.blk b11 (LC [.slice a ts.length c,iv (clA ts),.slice a62 ((flK ts k).length+1) c62,.slice a2 (lsK (clA ts) ts k).length c2] 82),.blk b7 (LC (tqe e51) 42)] (.q 0 (.q 1 (.q 2 (.q 3 (.q 4 (.q 5 (.q 6 (.q 9 (.q 10 (.q 11 (.q 12 (.q 13 (.q 14 (.n false 7 (.q 8 (.q 15 (.q 16 (.n false 17 (.n false 18 (.q 19 (.q 20 (.n true 21 .done)))))))))))))))))))))) ffm (by kernel_rfl) Pt.zx ?_
     refine AtC.pre (fun hle0=>?_)
     refine AtC.kq (by(refine AtT.ze ?_); exact At.knows) ?_
     refine AtC.kq (by(refine AtT.ze ?_); exact At.knows) ?_
     refine AtC.kq (by(refine AtT.jI ?_); exact At.knows) ?_
     refine AtC.kq (by(first | refine AtT.zm jy ?_ | with_reducible refine AtT.zn jy ?_ | refine AtT.zq jy ?_); exact At.knows) ?_
     refine AtC.kq (by(first | refine AtT.zk tk69 ?_ | refine AtT.zo tk69 ?_); exact At.knows) ?_
     refine AtC.kq (by(first | refine AtT.zm fo42_0 ?_ | with_reducible refine AtT.zn fo42_0 ?_ | refine AtT.zq fo42_0 ?_); exact At.knows) ?_
     refine AtC.kq (by(first | refine AtT.zB tk40 ?_ | refine AtT.zM tk40 ?_ | refine AtT.zA tk40 ?_); exact At.knows) ?_
     refine AtC.kq (by(refine AtT.ze ?_); exact At.knows) ?_
     refine AtC.kq (by(refine AtT.jI ?_); exact At.knows) ?_
     refine AtC.kq (by(first | refine AtT.zm jc ?_ | with_reducible refine AtT.zn jc ?_ | refine AtT.zq jc ?_); exact At.knows) ?_
     refine AtC.kq (by(first | refine AtT.zm kF ?_ | with_reducible refine AtT.zn kF ?_ | refine AtT.zq kF ?_); exact At.knows) ?_
     refine AtC.kq (by(first | refine AtT.zm qQ ?_ | with_reducible refine AtT.zn qQ ?_ | refine AtT.zq qQ ?_); exact At.knows) ?_
     refine AtC.kq (by(first | refine AtT.zk tk3 ?_ | refine AtT.zo tk3 ?_); exact At.knows) ?_
     refine AtC.nz ?_
     refine AtT.zJ rfl rfl ok89 (causes_f e51.p hxs _) ?_
     rintro _ rfl
     refine AtC.kgo ?_
     refine AtC.kq (by(refine AtT.kfld (fl73_0 _) ?_); exact At.knows) ?_
     refine AtC.kq (by(refine AtT.clrN rfl trivial rfl rfl rfl rfl (by omega) (by omega) (by decide) (A:=cbN e51.p) (B:=clA ts) ?_); exact At.knows) ?_
     refine AtC.kq (by(refine AtT.jk (bd73_0 _) ?_); exact At.knows) ?_
     refine AtC.nz ?_
     refine AtT.qi (bs69_1_0 _) ?_
     intro q82 V82 hV82 hq82
     have g82:Le V V82:=by first | exact hV82 | exact Le.trans (by assumption) hV82
     refine AtC.kgo ?_
     refine AtC.nz ?_
     first | refine AtT.kX Tryz.underlying69 rw73 ?_
     intro a83 c83
     refine AtC.kgo ?_
     refine AtC.kq (by(refine AtT.jI ?_); exact At.knows) ?_
     refine AtC.kq (by(first | refine AtT.zm jy ?_ | with_reducible refine AtT.zn jy ?_ | refine AtT.zq jy ?_); exact At.knows) ?_
     refine AtC.toT ?_
     first | refine AtT.kstore1 tk69 ?_ | refine AtT.qc tk69 ?_
     refine AtT.done ?_
     refine At.nrm ?_
     all_goals (exact At.kH (a83,c83) (by first | exact Le.refl _ | assumption | exact Le.trans (by assumption) (by assumption)) ⟨rfl,rfl,rfl,rfl,trivial⟩ Pt.zx)
    rintro⟨a83,c83⟩ V3 ks' O' hV3 hk hO hl4
    dsimp only at hk hO
    subst hk hO
    refine At.nrm ?_
    refine At.zh (.q 0 (.q 1 .done)) ?_
    first | refine AtT.qm ?_ | refine AtT.zR ?_
    refine AtT.ze ?_
    refine AtT.done ?_
    refine At.nrm ?_
    refine At.round (k+1,(a62,c62),a83,c83) ?_ ?_ ?_ ?_
    ·show ts.length-(k+1)<ts.length-k; omega
    ·exact⟨hV2.trans hV3,by dsimp only; omega⟩
    ·exact⟨rfl,rfl,rfl,ivs (by dsimp only; omega),trivial⟩
    dsimp only
    rw[e1,e2,qB,qB,List.length_append,List.length_append]
    ·exact Pt.zx
end Go.Proofs.YtfmmggphdeiajaaGreatDoor
end
section
set_option linter.unusedVariables false
namespace Go.Proofs.YtfmmggphdeiajaaGreatDoor
open Go.Lw Go.Gl Go.Bl Go.RowKit
theorem open_bad (ts:List Tq) (h:trE ts≠0) (V:View) (v:Value) (hs:Sl V tqe 4 v ts):Fnc Tryz.prog 28 [v] V fun r _=>r=.tuple #[.pointer none,iv (trE ts)]:=by
 refine zS Tryz.func28 rfl Tryz.ntmps28 (Nat.le_of_ble_eq_true rfl) ?_
 intro w0 hw0
 refine At.nrm ?_
 refine At.zh (.q 0 (.q 1 .done)) ?_
 refine AtT.zf ?_
 refine AtT.zf ?_
 refine AtT.done ?_
 refine At.nrm ?_
 refine At.zh (.q 0 (.n false 1 (.q 2 .done))) ?_
 refine AtT.ze ?_
 refine AtT.zJ rfl rfl ok60 (trials_f ts _ _ hs) ?_
 rintro _ rfl
 refine AtT.zf ?_
 refine AtT.done ?_
 refine At.nrm ?_
 refine At.zh (.q 0 (.q 1 .done)) ?_
 refine AtT.ze ?_
 refine AtT.jV ?_
 refine AtT.done ?_
 refine At.nrm ?_
 refine At.qK rfl (decide_eq_true h) ?_
 refine At.nrm ?_
 refine At.zh (.q 0 (.q 1 (.q 2 .done))) ?_
 refine AtT.ze ?_
 refine AtT.zf ?_
 refine AtT.zf ?_
 refine AtT.done ?_
 refine At.nrm ?_
 exact At.ret2 rfl (.tmp rfl) (.tmp rfl) rfl
theorem open_ok (ts:List Tq) (h:trE ts=0) (V:View) (v:Value) (hs:Sl V tqe 4 v ts):Fnc Tryz.prog 28 [v] V fun r V'=>∃ p,r=.tuple #[.pointer (some p),iv 0]∧BcV V' p ts:=by
 obtain⟨h16,ht⟩:=trE_ok h
 refine zS Tryz.func28 rfl Tryz.ntmps28 (Nat.le_of_ble_eq_true rfl) ?_
 intro w0 hw0
 refine At.nrm ?_
 refine At.zh (.q 0 (.q 1 .done)) ?_
 refine AtT.zf ?_
 refine AtT.zf ?_
 refine AtT.done ?_
 refine At.nrm ?_
 refine At.zh (.q 0 (.n false 1 (.q 2 .done))) ?_
 refine AtT.ze ?_
 refine AtT.zJ rfl rfl ok60 (trials_f ts _ _ hs) ?_
 rintro _ rfl; rw[h]
 refine AtT.zf ?_
 refine AtT.done ?_
 refine At.nrm ?_
 refine At.zh (.q 0 (.q 1 .done)) ?_
 refine AtT.ze ?_
 refine AtT.jV ?_
 refine AtT.done ?_
 refine At.nrm ?_
 refine At.qf rfl (decide_eq_false (by simp)) ?_
 refine At.nrm ?_
 refine At.zh (.q 0 (.n false 1 (.q 2 (.q 3 .done)))) ?_
 refine AtT.ze ?_
 refine AtT.jQ rfl rfl ok65 (newBench_f ts ht h16 _ _ hs) ?_
 rintro _ V11 hV11 ⟨p,rfl,hb⟩
 refine AtT.zf ?_
 refine AtT.zf ?_
 refine AtT.done ?_
 refine At.nrm ?_
 exact At.ret2 rfl (.tmp rfl) (.tmp rfl) ⟨p,rfl,hb⟩
theorem bc_clear {V:View} {p:Addr} {ts:List Tq} (h:BcV V p ts):Cells V ((p.add 0).add 1) [iv (clA ts)]:=by
 obtain⟨a,c,a1,c1,a2,c2,h1,_⟩:=h
 exact h1.at (k:=1) fun j u hj=>by
  match j,hj with
  | 0,hj=>exact hj
theorem bc_left {V:View} {p:Addr} {ts:List Tq} (h:BcV V p ts):∃ a2 c2,Cells V (p.add 3) [.slice a2 (lsL ts).length c2]∧Sl V ste 1 (.slice a2 (lsL ts).length c2) (lsL ts):=by
 obtain⟨a,c,a1,c1,a2,c2,h1,h2,h3,h4⟩:=h
 exact⟨a2,c2,h1.at (k:=3) fun j u hj=>by
  match j,hj with
  | 0,hj=>exact hj,h4⟩
theorem miss_f (s t:Nat) (h1:s<9223372036854775808) (h2:t<9223372036854775808) (V:View) (q:Addr) (hc5:Cells V q [iv (s:Int)]):Fnc Tryz.prog 33 ([]++[stv t]++[.pointer (some q)]) V fun r _=>r=.bool (!mtB s t):=by
 refine zS Tryz.func33 rfl Tryz.ntmps33 (Nat.le_of_ble_eq_true rfl) ?_
 intro w0 hw0
 refine At.nrm ?_
 refine At.zh (.n false 0 (.q 1 .done)) ?_
 refine AtT.jS ?_
 intro b2
 refine AtT.zf ?_
 refine AtT.done ?_
 refine At.nrm ?_
 refine At.zh (.q 0 (.q 1 (.n false 2 (.q 3 (.q 4 .done))))) ?_
 first | refine AtT.zB zY ?_ | refine AtT.zM zY ?_ | refine AtT.zA zY ?_
 first | refine AtT.zB zY ?_ | refine AtT.zM zY ?_ | refine AtT.zA zY ?_
 refine AtT.zJ rfl rfl ok31 (meets_f s t h1 h2 _) ?_
 rintro _ rfl
 refine AtT.knot ?_
 refine AtT.zf ?_
 refine AtT.done ?_
 refine At.nrm ?_
 exact At.zT rfl (.tmp rfl) rfl
theorem any_not {α:Type} (p:α→Bool):∀ l:List α,l.any (fun x=>!p x) = !l.all p
 | []=>rfl
 | x::l=>by simp only[List.any_cons,List.all_cons,any_not p l,Bool.not_and]
theorem checkCauses_f (ts:List Tq) (l:List Int) (V:View) (v u:Value) (hs:Sl V tqe 4 v ts) (hu:SlI V u l):Fnc Tryz.prog 15 [v,u] V fun r _=>r=iv (ccR ts l):=by
 refine zS Tryz.func15 rfl Tryz.ntmps15 (Nat.le_of_ble_eq_true rfl) ?_
 intro w0 hw0
 refine At.nrm ?_
 refine At.zh (.q 0 .done) ?_
 refine AtT.zf ?_
 refine AtT.done ?_
 refine At.nrm ?_
 by_cases h0:trE ts=0
 rotate_left
 ·refine At.zh (.q 0 (.n false 1 (.q 2 (.q 3 (.q 4 (.q 5 (.q 6 .done))))))) ?_
  refine AtT.ze ?_
  refine AtT.zJ rfl rfl ok28 (open_bad ts h0 _ _ hs) ?_
  rintro _ rfl
  refine AtT.ze ?_
  refine AtT.zI ?_
  refine AtT.zI ?_
  refine AtT.zf ?_
  refine AtT.zf ?_
  refine AtT.done ?_
  refine At.nrm ?_
  refine At.zh (.q 0 (.q 1 (.q 2 .done))) ?_
  refine AtT.ze ?_
  refine AtT.jV ?_
  refine AtT.zf ?_
  refine AtT.done ?_
  refine At.nrm ?_
  refine At.qK rfl (decide_eq_true h0) ?_
  refine At.nrm ?_
  refine At.zh (.q 0 (.q 1 .done)) ?_
  refine AtT.ze ?_
  refine AtT.zf ?_
  refine AtT.done ?_
  refine At.nrm ?_
  exact At.zT rfl (.tmp rfl) (by rw[ccR_tr h0])
 obtain⟨h16,ht⟩:=trE_ok h0
 have hcl:clA ts<32768:=clN_lt ht _
 refine At.zh (.q 0 (.n false 1 (.q 2 (.q 3 (.q 4 (.q 5 (.q 6 .done))))))) ?_
 refine AtT.ze ?_
 refine AtT.jQ rfl rfl ok28 (open_ok ts h0 _ _ hs) ?_
 rintro _ V1 hV1 ⟨p,rfl,hb⟩
 refine AtT.ze ?_
 refine AtT.zI ?_
 refine AtT.zI ?_
 refine AtT.zf ?_
 refine AtT.zf ?_
 refine AtT.done ?_
 refine At.nrm ?_
 have hu1:=hu.le hV1
 refine At.zh (.q 0 (.q 1 (.q 2 .done))) ?_
 refine AtT.ze ?_
 refine AtT.jV ?_
 refine AtT.zf ?_
 refine AtT.done ?_
 refine At.nrm ?_
 refine At.qf rfl (decide_eq_false (by simp)) ?_
 refine At.nrm ?_
 cases h1:lstB l 15 with
 | false=>
  refine At.zh (.q 0 (.n false 1 (.q 2 (.q 3 .done)))) ?_
  refine AtT.ze ?_
  refine AtT.zJ rfl rfl ok29 (rising_f l 15 (by decide) _ _ hu1) ?_
  rintro _ rfl; rw[h1]
  refine AtT.knot ?_
  refine AtT.zf ?_
  refine AtT.done ?_
  refine At.nrm ?_
  refine At.qK rfl rfl ?_
  refine At.nrm ?_
  refine At.zh (.q 0 .done) ?_
  refine AtT.zf ?_
  refine AtT.done ?_
  refine At.nrm ?_
  exact At.zT rfl (.tmp rfl) (by rw[ccR_arg h0 h1])
 | true=>
  refine At.zh (.q 0 (.n false 1 (.q 2 (.q 3 .done)))) ?_
  refine AtT.ze ?_
  refine AtT.zJ rfl rfl ok29 (rising_f l 15 (by decide) _ _ hu1) ?_
  rintro _ rfl; rw[h1]
  refine AtT.knot ?_
  refine AtT.zf ?_
  refine AtT.done ?_
  refine At.nrm ?_
  refine At.qf rfl rfl ?_
  have hin:=lstB_in h1
  have hbl:btL l<32768:=btL_lt (n:=15) fun x hx=>by have:=hin x hx; omega
  have hc29:=bc_clear hb
  refine At.nrm ?_
  refine At.zh (.q 0 (.n false 1 (.n false 2 (.n true 3 .done)))) ?_
  refine AtT.ze ?_
  refine AtT.zJ rfl rfl ok30 (setOf_f l hin _ _ hu1) ?_
  rintro _ rfl
  refine AtT.qE z73 ?_
  intro b7
  refine AtT.qc zY ?_
  refine AtT.done ?_
  refine At.nrm ?_
  by_cases h2:btL l &&& clA ts=0
  rotate_left
  ·refine At.draw (.q 0 (.q 1 (.q 2 (.q 3 (.q 4 (.q 5 (.n false 6 (.q 7 .done)))))))) ffm (by kernel_rfl) ?_
   first | refine AtT.zB zY ?_ | refine AtT.zM zY ?_ | refine AtT.zA zY ?_
   refine AtT.ze ?_
   refine AtT.jI ?_
   first | refine AtT.zm jc ?_ | with_reducible refine AtT.zn jc ?_ | refine AtT.zq jc ?_
   first | refine AtT.zm kF ?_ | with_reducible refine AtT.zn kF ?_ | refine AtT.zq kF ?_
   first | refine AtT.zB zY ?_ | refine AtT.zM zY ?_ | refine AtT.zA zY ?_
   refine AtT.zJ rfl rfl ok31 (meets_f (btL l) (clA ts) (by omega) (by omega) _) ?_
   rintro _ rfl
   refine AtT.zf ?_
   refine AtT.done ?_
   refine At.nrm ?_
   refine At.qK rfl (decide_eq_true h2) ?_
   refine At.nrm ?_
   refine At.zh (.q 0 .done) ?_
   refine AtT.zf ?_
   refine AtT.done ?_
   refine At.nrm ?_
   exact At.zT rfl (.tmp rfl) (by rw[ccR_rule h0 h1 h2])
  refine At.draw (.q 0 (.q 1 (.q 2 (.q 3 (.q 4 (.q 5 (.n false 6 (.q 7 .done)))))))) ffm (by kernel_rfl) ?_
  first | refine AtT.zB zY ?_ | refine AtT.zM zY ?_ | refine AtT.zA zY ?_
  refine AtT.ze ?_
  refine AtT.jI ?_
  first | refine AtT.zm jc ?_ | with_reducible refine AtT.zn jc ?_ | refine AtT.zq jc ?_
  first | refine AtT.zm kF ?_ | with_reducible refine AtT.zn kF ?_ | refine AtT.zq kF ?_
  first | refine AtT.zB zY ?_ | refine AtT.zM zY ?_ | refine AtT.zA zY ?_
  refine AtT.zJ rfl rfl ok31 (meets_f (btL l) (clA ts) (by omega) (by omega) _) ?_
  rintro _ rfl
  refine AtT.zf ?_
  refine AtT.done ?_
  refine At.nrm ?_
  refine At.qf rfl (decide_eq_false (by simp[h2])) ?_
  refine At.giveB (b:=b7) zN.zx (fun V2 hV2 hb7=>?_)
  obtain⟨a2,c2,hc35,hsl⟩:=bc_left (hb.le hV2)
  have hlt:=ls_lt (no:=clA ts) ht ts.length
  have hex:=ex_ls ts (btL l)
  have han:=any_not (fun s=>mtB (btL l) s) (lsL ts)
  rw[←hex]at han
  refine At.nrm ?_
  cases h3:exB (lfL ts) (btL l)with
  | false=>
   rw[h3]at han
   refine At.zh (.q 0 (.q 1 (.q 2 (.q 3 (.q 4 (.n false 5 (.q 6 .done))))))) ?_
   refine AtT.ze ?_
   refine AtT.jI ?_
   first | refine AtT.zm jy ?_ | with_reducible refine AtT.zn jy ?_ | refine AtT.zq jy ?_
   first | refine AtT.zk tk69 ?_ | refine AtT.zo tk69 ?_
   refine AtT.kfn ?_
   refine AtT.zJ rfl rfl ok32 (contains_s 33 [.pointer (some ⟨b7,0,none⟩)] (fun t=>!mtB (btL l) t) _ _ (lsL ts) hsl ok33 (fun t ht'=>miss_f (btL l) t (by omega) (by have:=hlt t ht'; omega) _ _ (qj hb7))) ?_
   rintro _ rfl; rw[han]
   refine AtT.zf ?_
   refine AtT.done ?_
   refine At.nrm ?_
   refine At.qK rfl rfl ?_
   refine At.nrm ?_
   refine At.zh (.q 0 .done) ?_
   refine AtT.zf ?_
   refine AtT.done ?_
   refine At.nrm ?_
   exact At.zT rfl (.tmp rfl) (by rw[ccR_boil h0 h1 h2 h3])
  | true=>
   rw[h3]at han
   refine At.zh (.q 0 (.q 1 (.q 2 (.q 3 (.q 4 (.n false 5 (.q 6 .done))))))) ?_
   refine AtT.ze ?_
   refine AtT.jI ?_
   first | refine AtT.zm jy ?_ | with_reducible refine AtT.zn jy ?_ | refine AtT.zq jy ?_
   first | refine AtT.zk tk69 ?_ | refine AtT.zo tk69 ?_
   refine AtT.kfn ?_
   refine AtT.zJ rfl rfl ok32 (contains_s 33 [.pointer (some ⟨b7,0,none⟩)] (fun t=>!mtB (btL l) t) _ _ (lsL ts) hsl ok33 (fun t ht'=>miss_f (btL l) t (by omega) (by have:=hlt t ht'; omega) _ _ (qj hb7))) ?_
   rintro _ rfl; rw[han]
   refine AtT.zf ?_
   refine AtT.done ?_
   refine At.nrm ?_
   refine At.qf rfl rfl ?_
   refine At.nrm ?_
   refine At.zh (.q 0 .done) ?_
   refine AtT.zf ?_
   refine AtT.done ?_
   refine At.nrm ?_
   exact At.zT rfl (.tmp rfl) (by rw[ccR_ok h0 h1 h2 h3])
end Go.Proofs.YtfmmggphdeiajaaGreatDoor
end
section
set_option linter.unusedVariables false
namespace Go.Proofs.YtfmmggphdeiajaaGreatDoor
open Go.Lw Go.Gl Go.Bl Go.RowKit Go.Sort
theorem swo:SWO (ltOf cfS):=by
 have key:∀ x y,ltOf cfS x y=decide (rvI (IntKind.u64.wrap (y:Int))<rvI (IntKind.u64.wrap (x:Int))):=fun x y=>by
  unfold ltOf cfS cpI
  rw[decide_eq_decide]
  split
  ·simp[*]
  ·split
   ·simp; omega
   ·simp; omega
 refine⟨fun x=>?_,fun x y z h1 h2=>?_,fun x y z h1 h2=>?_⟩
 ·rw[key]; simp
 ·rw[key]at *; simp at *; omega
 ·rw[key]at *; simp at *; omega
theorem flat_ste:∀ l:List Nat,flat ste l=l.map fun(s:Nat)=>iv (s:Int)
 | []=>rfl
 | x::l=>by
  have:=flat_ste l
  simp only[flat]at this⊢
  simp[this]
theorem flatK_ste (d:Array Nat):flatK ste 1 d=(flat ste d.toList).toArray:=by
 rw[flat_ste]
 apply Array.ext
 ·simp[flatK]
 ·intro t h1 h2
  simp only[flatK,Array.size_map,Array.size_range,Nat.mul_one]at h1
  simp only[flatK,Array.getElem_map,Array.getElem_range,Nat.div_one,Nat.mod_one,List.getElem_toArray,List.getElem_map,Array.getElem_toList]
  rw[getElem!_pos d t h1]
  rfl
def SrtL (l:List Nat):Prop:=∀ (i j:Nat) (x y:Nat),i<j→l[i]? = some x→l[j]? = some y→ltOf cfS y x=false
theorem sort_f (l:List Nat) (rest:List Value) (b cap:Nat) (w:World) (hb:w.heap[b]? = some (LC (flat ste l++rest) 73)) (hl:l.length<4611686018427387904) :
  Calls Tryz.prog 109 #[.slice (some ⟨b,0,none⟩) l.length cap,.func (.func 110) #[] #[]] w fun e w'=>e=.returned (.tuple #[])∧∃ l':List Nat,l'.Perm l∧SrtL l'∧w'.os=w.os∧w'.tape=w.tape∧w'.output=w.output∧w.heap.size≤w'.heap.size∧(∀ k,k<w.heap.size→k≠b→w'.heap[k]? = w.heap[k]?)∧w'.heap[b]? = some (LC (flat ste l'++rest) 73):=by
 have hbs:b<w.heap.size:=(Array.getElem?_eq_some_iff.1 hb).1
 have eg:∀ args w,(callFunc 110 args).run Tryz.prog w=.ok (.enter 110 args) w:=enters_of Tryz.func110 (by kernel_rfl) rfl
 have hH:HoldsK ste 1 w b 0 l.toArray:=by
  unfold HoldsK Holds
  rw[flatK_ste]
  intro j hj
  rw[List.size_toArray]at hj
  have hlen:(flat ste l).length=l.length*1:=qa ste_len l
  refine⟨?_,?_⟩
  ·rw[Nat.zero_add,jl hb,List.getElem?_append_left hj,getElem!_pos _ _ (by simpa using hj)]
   simp
  ·simp[World.frozen?,hb,LC]
 have hcon:=AnyQ.slices_SortFunc srt 1 Tryz.isAgg73 Tryz.sizeOf73 ste (fun _=>rfl) (fun x v hv=>by simp at hv; subst hv; rfl) cfS swo 110 #[] b 0 cap l.toArray w eg (fun _ _ _ _ x y=>closure101 x y _) hH hbs (by simpa using hl)
 refine hcon.mono fun e w' ⟨he,d',n,os,hp,hs,hw⟩=>?_
 obtain⟨hp1,_,hp3⟩:=hp
 have hsz:d'.size=l.length:=by rw[hp1]; simp
 have hpl:d'.toList.Perm l:=by
  have e1:(d'.extract 0 l.toArray.size)=d':=by rw[←hp1,Array.extract_size]
  have e2:(l.toArray.extract 0 l.toArray.size)=l.toArray:=Array.extract_size
  rw[e1,e2]at hp3
  exact hp3
 have hbw:b<w'.heap.size∧True:=by
  subst hw; refine⟨?_,trivial⟩
  show b<((w.heap.modify b _)++os).size
  simp; omega
 refine⟨he,d'.toList,hpl,fun i j x y hij hx hy=>?_,?_,?_,?_,?_,fun k hk hkb=>?_,?_⟩
 ·obtain⟨hi',rfl⟩:=List.getElem?_eq_some_iff.1 hx
  obtain⟨hj',rfl⟩:=List.getElem?_eq_some_iff.1 hy
  rw[Array.length_toList]at hi' hj'
  have:=hs i j (Nat.zero_le _) hij (by simp; omega)
  rw[getElem!_pos d' i hi',getElem!_pos d' j hj']at this
  exact this
 ·subst hw; rfl
 ·subst hw; rfl
 ·subst hw; rfl
 ·subst hw
  show w.heap.size≤((w.heap.modify b _)++os).size
  simp
 ·subst hw
  show((w.heap.modify b _)++os)[k]? = _
  rw[Array.getElem?_append_left (by simpa using hk),Array.getElem?_modify,if_neg (fun h=>hkb h.symm)]
 ·subst hw
  show((w.heap.modify b _)++os)[b]? = _
  rw[Array.getElem?_append_left (by simpa using hbs),Array.getElem?_modify,if_pos rfl,hb,flatK_ste]
  simp only[Option.map_some,onCells,LC]
  congr 2
  have hf1:=qa ste_len d'.toList
  have hf2:=qa ste_len l
  have hll:d'.toList.length=l.length:=by simpa using hsz
  apply Array.ext
  ·simp[putCells]; omega
  ·intro t h1 h2
   simp only[putCells,Array.size_mapIdx,List.size_toArray]at h1
   simp only[putCells,Array.getElem_mapIdx,Nat.zero_le,true_and,Nat.zero_add,List.size_toArray,Nat.sub_zero,id]
   by_cases c:t<(flat ste d'.toList).length
   ·rw[if_pos c,getElem!_pos _ _ (by simpa using c)]
    simp only[List.getElem_toArray]
    rw[List.getElem_append_left c]
   ·rw[if_neg c]
    simp only[List.getElem_toArray]
    rw[List.getElem_append_right (by omega),List.getElem_append_right (by omega)]
    congr 1; omega
end Go.Proofs.YtfmmggphdeiajaaGreatDoor
end
section
set_option linter.unusedVariables false
namespace Go.Proofs.YtfmmggphdeiajaaGreatDoor
open Go.Lw Go.Gl Go.Bl Go.RowKit Go.Sort
theorem key72:KeyL Tryz.prog 73 (fun s:Nat=>stv s) where
 eq a b w:=by
  have h:=(eqS73 (a:Int) (b:Int)).2 w
  have e:decide ((a:Int)=(b:Int))=decide (a=b):=by rw[decide_eq_decide]; omega
  rw[e]at h
  exact h
 ck e a w:=by
  have u3:=Tryz.underlying3
  have a3:=Tryz.isAgg3
  have z3:=Tryz.sizeOf3
  have ci:∀ (x:Int) (w:World),(Instr.checkKey e 9999 3 (.int .i64 x)).run Tryz.prog w=.ok () w:=fun x w=>by
   rw[show(9999:Nat)=9998+1 from rfl,Instr.checkKey]
   simp[run_underlying u3,Sem.run_bind,Result.andThen_ok,Sem.run_pure]
  rw[show(10000:Nat)=9999+1 from rfl,Instr.checkKey]
  simp only[Sem.run_bind,run_underlying Tryz.underlying73,Result.andThen_ok]
  rw[←Array.forIn_toList]
  simp only[List.forIn_cons,List.forIn_nil,Sem.run_bind,Sem.run_pure,Result.andThen_ok]
  generalize (9999:Nat)=q at ci⊢
  go_simp
 sb a:=by simp[Instr.sameBits]
 now:=⟨_,Tryz.underlying73,.inl fun a b=>rfl⟩
theorem AtT.sortS {cx:Cx} {n:Nat} {ks:List (Nat×Value)} {O R:List Own} {V:View} {ops:Array Oper} {Qn:Act→World→Prop} {t:Tr} {i d:Nat} {T:TypeId} {pos:String} {after:Array Edge} {gd:Option (Nat×Bool)} {x y:Operand} {ts:Array TypeId} {b cap:Nat} {l:List Nat} {rest:List Value}
  (ho:ops[i]? = some ⟨some d,.call ⟨.value (.func 109),#[x,y],ts⟩,T,pos,after,gd⟩) (hg:Gd ks ops gd) (hx:ev ks x=some (.slice (some ⟨b,0,none⟩) l.length cap)) (hy:ev ks y=some (.func (.func 110) #[] #[])) (hl:l.length<4611686018427387904) (hp:zN (.blk b (LC (flat ste l++rest) 73)) O R) (hn:d<n)
  (next:∀ l':List Nat,l'.Perm l→SrtL l'→AtT cx n ((d,.tuple #[])::ks) (.blk b (LC (flat ste l'++rest) 73)::R) V Tryz.prog ops Qn t):AtT cx n ks O V Tryz.prog ops Qn (.n true i t):=
 .x ho hg fun a w hk hm=>by
  have hm1:=hm.pick hp
  have e:(#[x,y]:Array Operand).map a.eval=#[.slice (some ⟨b,0,none⟩) l.length cap,.func (.func 110) #[] #[]]:=by simp[hk.ev hx,hk.ev hy]
  have e2:a.eval (.func 109)=.func (.func 109) #[] #[]:=rfl
  simp only[opW,execOp,resolve,e,e2,Deferred.ofValue,Sem.run_bind,Sem.run_pure,Result.andThen_ok,invoke,Array.empty_append,Array.append_empty]
  rw[ok109 _ w]
  refine(sort_f l rest b cap w hm1.blk hl).mono fun e w' ⟨h0,l',h1,h2,h3,h4,h5,h6,h7,h8⟩=>?_
  subst h0
  have hm2:=hm1.set (w':=w') ⟨h3,h4,h5,h6,fun k hk hne=>h7 k hk (fun e=>hne (by rw[e]))⟩ h8
  exact⟨_,_,V,hk.put hn _,hm2,fun h=>(by cases h),next l' h1 h2⟩
end Go.Proofs.YtfmmggphdeiajaaGreatDoor
end
section
set_option linter.unusedVariables false
namespace Go.Proofs.YtfmmggphdeiajaaGreatDoor
open Go.Lw Go.Gl Go.Bl Go.RowKit
theorem min_f (l:List Int) (hl:l≠[]) (V:View) (v:Value) (hs:SlI V v l):Fnc Tryz.prog 108 [v] V fun r _=>∃ m,r=iv m∧m∈l∧∀ x∈l,m≤x:=by
 have hlen:=hs.qI
 have hpos:0<l.length:=List.length_pos_iff.2 hl
 obtain⟨a,c,rfl,k1,k2,_⟩:=id hs
 clear k1 k2
 refine zS Tryz.func108 rfl Tryz.ntmps108 (Nat.le_of_ble_eq_true rfl) ?_
 intro w0 hw0
 refine At.nrm ?_
 refine At.zh (.q 0 .done) ?_
 refine AtT.zf ?_
 refine AtT.done ?_
 refine At.nrm ?_
 refine At.zh (.q 0 (.q 1 (.q 2 .done))) ?_
 refine AtT.ze ?_
 first | refine AtT.zK Tryz.underlying22 ?_ | refine AtT.zL Tryz.underlying22 ?_
 refine AtT.qg ?_
 refine AtT.done ?_
 refine At.nrm ?_
 refine At.qf rfl (decide_eq_false (by omega)) ?_
 refine At.nrm ?_
 refine At.zh (.q 0 (.q 1 (.q 2 (.q 3 .done)))) ?_
 refine AtT.ze ?_
 refine AtT.zU Tryz.underlying22 tk3 ?_
 intro p10 e10 he10 hc10
 first | refine AtT.zk tk3 ?_ | refine AtT.zo tk3 ?_
 refine AtT.zf ?_
 refine AtT.done ?_
 refine At.nrm ?_
 have hm0:e10∈l:=List.mem_of_getElem? he10
 have h0:l[0]? = some e10:=by simpa using he10
 refine At.zh (.q 0 .done) ?_
 refine AtT.zf ?_
 refine AtT.done ?_
 refine At.nrm ?_
 refine At.lp (ι:=Nat×Int) (KS:=fun g=>[(0,.slice a l.length c),(3,iv g.2),(4,iv g.1)]) (OS:=fun _=>[]) (VS:=fun g V'=>V'=V∧g.1≤l.length∧g.2∈l∧∀ (j:Nat) (x:Int),j<g.1→l[j]? = some x→g.2≤x) (μ:=fun g=>l.length-g.1) (1,e10) ?_ ?_ ?_ ?_
 ·exact⟨rfl,rfl,rfl,trivial⟩
 ·exact Pt.zx
 ·refine⟨rfl,hpos,hm0,fun j x hj hx=>?_⟩
  obtain rfl:j=0:=by dsimp only at hj; omega
  rw[h0]at hx; cases hx; exact Int.le_refl _
 ·rintro⟨k,m⟩ V' ks' O' ⟨rfl,hkl,hm,hok⟩ hk hO hl2
  dsimp only at hkl hm hok hk hO
  subst hk hO
  refine At.nrm ?_
  refine At.zh (.q 0 (.q 1 (.q 2 (.q 3 .done)))) ?_
  refine AtT.ze ?_
  refine AtT.ze ?_
  first | refine AtT.zK Tryz.underlying22 ?_ | refine AtT.zL Tryz.underlying22 ?_
  refine AtT.qg ?_
  refine AtT.done ?_
  refine At.nrm ?_
  refine At.zZ rfl (fun hp=>?_) (fun hp=>?_)
  ·obtain⟨x,hx⟩:∃ x,l[k]? = some x:=⟨_,List.getElem?_eq_getElem (by omega)⟩
   refine At.nrm ?_
   refine At.zh (.q 0 (.q 1 (.q 2 (.q 3 (.q 4 (.q 5 (.q 6 .done))))))) ?_
   refine AtT.ze ?_
   refine AtT.ze ?_
   refine AtT.ze ?_
   refine AtT.zU Tryz.underlying22 tk3 ?_
   intro p21 e21 he21 hc21
   obtain rfl:e21=x:=by have:l[k]? = some e21:=(by simpa using he21); rw[hx]at this; simpa using this.symm
   first | refine AtT.zk tk3 ?_ | refine AtT.zo tk3 ?_
   refine AtT.kmin2 ?_
   refine AtT.zf ?_
   refine AtT.done ?_
   refine At.nrm ?_
   refine At.zh (.q 0 (.q 1 (.q 2 .done))) ?_
   refine AtT.ze ?_
   first | refine AtT.qm ?_ | refine AtT.zR ?_
   refine AtT.zf ?_
   refine AtT.done ?_
   refine At.nrm ?_
   refine At.round (k+1,min m e21) ?_ ?_ ?_ ?_
   ·show l.length-(k+1)<l.length-k; omega
   ·refine⟨rfl,by dsimp only; omega,?_,fun j y hj hy=>?_⟩
    ·show min m e21∈l
     by_cases c:m≤e21
     ·rw[Int.min_eq_left c]; exact hm
     ·rw[Int.min_eq_right (by omega)]; exact List.mem_of_getElem? hx
    ·show min m e21≤y
     dsimp only at hj
     by_cases hjk:j=k
     ·subst hjk; rw[hx]at hy; cases hy; omega
     ·have:=hok j y (by omega) hy; omega
   ·exact⟨rfl,rfl,ivs (by dsimp only; omega),trivial⟩
   ·exact Pt.zx
  ·obtain rfl:k=l.length:=by omega
   refine At.nrm ?_
   refine At.zh (.q 0 (.q 1 .done)) ?_
   refine AtT.ze ?_
   refine AtT.zf ?_
   refine AtT.done ?_
   refine At.nrm ?_
   exact At.zT rfl (.tmp rfl) ⟨m,rfl,hm,fun x hx=>by obtain⟨j,hj,rfl⟩:=List.getElem_of_mem hx; exact hok j _ hj (List.getElem?_eq_getElem hj)⟩
abbrev mO (M:MM Nat Int) (c:Nat):Obj:=qV (fun s:Nat=>stv s) (fun n:Int=>iv n) M c
theorem smallest_g (ls:List Nat) (hln:ls.length≤16) (hne:∀ s∈ls,s≠0∧s<32768) (V:View) (p:Addr) (a2:Option Addr) (c2:Nat) (hc26:Cells V (p.add 3) [.slice a2 ls.length c2]) (hsl:Sl V ste 1 (.slice a2 ls.length c2) ls):Fnc Tryz.prog 64 [.pointer (some p)] V fun r V'=>∃ l,RwB V V' 73 1 ste r l∧SmS ls SrtL l:=by
 refine zS Tryz.func64 rfl Tryz.ntmps64 (Nat.le_of_ble_eq_true rfl) ?_
 intro w0 hw0
 refine At.nrm ?_
 refine At.zh (.q 0 .done) ?_
 refine AtT.zf ?_
 refine AtT.done ?_
 refine At.nrm ?_
 refine At.zh (.n false 0 (.q 1 (.n true 2 (.q 3 (.q 4 .done))))) ?_
 refine AtT.makeMap rfl trivial (fun s:Nat=>stv s) (fun n:Int=>iv n) (by decide) ?_
 intro b20
 refine AtT.jk (bd73) ?_
 refine AtT.insNew rfl trivial key72 0 (0:Int) Tryz.underlying155 rfl rfl rfl rfl (by repeat first|exact Upd.here|apply Upd.there) ?_
 refine AtT.ze ?_
 refine AtT.zf ?_
 refine AtT.done ?_
 refine At.nrm ?_
 refine At.zh (.q 0 (.q 1 (.q 2 (.q 3 (.q 4 (.q 5 .done)))))) ?_
 refine AtT.ze ?_
 refine AtT.jI ?_
 first | refine AtT.zm jy ?_ | with_reducible refine AtT.zn jy ?_ | refine AtT.zq jy ?_
 first | refine AtT.zk tk69 ?_ | refine AtT.zo tk69 ?_
 first | refine AtT.zK Tryz.underlying69 ?_ | refine AtT.zL Tryz.underlying69 ?_
 refine AtT.ze ?_
 refine AtT.done ?_
 refine At.nrm ?_
 refine At.lp (ι:=Nat×Nat×MM Nat Int×Nat) (KS:=fun g=>[(3,.map (some g.2.1)),(26,.slice a2 ls.length c2),(27,iv ls.length),(28,iv g.1)]) (OS:=fun g=>[.blk g.2.1 (mO g.2.2.1 g.2.2.2)])
  (VS:=fun g V'=>Le V V'∧g.1≤ls.length∧MI g.2.2.1 g.2.2.2∧∀ x,kW x g.2.2.1=true↔GsK ls g.1 x) (μ:=fun g=>ls.length-g.1) (0,b20,[(0,0,0)],1) ?_ ?_ ?_ ?_
 ·exact⟨rfl,rfl,rfl,rfl,trivial⟩
 ·exact Pt.zx
 ·refine⟨Le.refl _,Nat.zero_le _,⟨fun e h=>?_,by simp,by simp,fun e h=>?_,fun e h=>?_⟩,fun x=>?_⟩
  ·rw[List.mem_singleton]at h; subst h; simp
  ·rw[List.mem_singleton]at h; subst h; simp[cnt_zero]
  ·rw[List.mem_singleton]at h; subst h; simp
  ·simp[kW,GsK]
 rintro⟨k,b,M,c⟩ V' ks' O' ⟨hVV,hkl,hmi,hmem⟩ hk hO hl2
 dsimp only at hkl hmi hmem hk hO
 subst hk hO
 have hsl1:=hsl.le hVV
 refine At.nrm ?_
 refine At.zh (.q 0 .done) ?_
 refine AtT.qg ?_
 refine AtT.done ?_
 refine At.nrm ?_
 refine At.zZ rfl (fun hp=>?_) (fun hp=>?_)
 ·obtain⟨t,hx⟩:∃ t,ls[k]? = some t:=⟨_,List.getElem?_eq_getElem (by omega)⟩
  have hgt:ls.getD k 0=t:=by simp[List.getD,hx]
  have htb:=(hne t (List.mem_of_getElem? hx)).2
  refine At.nrm ?_
  refine At.zh (.q 0 (.q 1 (.n false 2 (.n true 3 .done)))) ?_
  refine AtT.zU Tryz.underlying69 zY ?_
  intro p30 e30 he30 hc30
  obtain rfl:e30=t:=by have:ls[k]? = some e30:=(by simpa using he30); rw[hx]at this; simpa using this.symm
  first | refine AtT.zB zY ?_ | refine AtT.zM zY ?_ | refine AtT.zA zY ?_
  refine AtT.qE z73 ?_
  intro b5
  refine AtT.qc zY ?_
  refine AtT.done ?_
  refine At.nrm ?_
  refine At.zh (.n false 0 (.q 1 .done)) ?_
  refine AtT.makeMap rfl trivial (fun s:Nat=>stv s) (fun n:Int=>iv n) (by decide) ?_
  intro b32
  refine AtT.zf ?_
  refine AtT.done ?_
  refine At.nrm ?_
  refine At.zh (.q 0 (.q 1 (.q 2 .done))) ?_
  first | refine AtT.zB zY ?_ | refine AtT.zM zY ?_ | refine AtT.zA zY ?_
  refine AtT.kfn ?_
  refine AtT.zf ?_
  refine AtT.done ?_
  refine At.nrm ?_
  refine At.zh (.q 0 (.n false 1 .done)) ?_
  refine AtT.ze ?_
  refine AtT.range rfl trivial Tryz.underlying155 rfl zN.zx (by decide) ?_
  intro b36
  refine AtT.done ?_
  refine At.nrm ?_
  refine At.lp (ι:=Array Nat×MM Nat Int×Nat) (KS:=fun g=>[(3,.map (some b)),(5,.pointer (some ⟨b5,0,none⟩)),(6,.map (some b32)),(7,.func (.func 31) #[stv e30] #[]),(26,.slice a2 ls.length c2),(27,iv ls.length),(28,iv k),(36,.pointer (some ⟨b36,0,none⟩))])
   (OS:=fun g=>[.blk b36 (.mapIter (some b) c g.1 c),.blk b32 (mO g.2.1 g.2.2),.blk b (mO M c),.blk b5 (LC (ste e30) 73)])
   (VS:=fun g V''=>Le V' V''∧MI g.2.1 g.2.2∧∀ x,kW x g.2.1=true↔∃ e∈M,e.2.2∈g.1∧Stp e30 e.1 x) (μ:=fun g=>(M.filter fun e=>!g.1.contains e.2.2).length) (#[],[],0) ?_ ?_ ?_ ?_
  ·exact⟨rfl,rfl,rfl,rfl,rfl,rfl,rfl,rfl,trivial⟩
  ·exact Pt.zx
  ·exact⟨Le.refl _,mi_nil,fun x=>by simp[kW]⟩
  rintro⟨seen,M2,c2'⟩ V2 ks' O' ⟨hV2,hmi2,hmem2⟩ hk hO hl3
  dsimp only at hmi2 hmem2 hk hO
  subst hk hO
  refine At.nrm ?_
  refine At.zh (.n true 0 (.q 1 .done)) ?_
  all_goals (refine AtT.next rfl trivial rfl zN.zx zN.zx (fun e he=>hmi.born e he) (Nat.le_refl _) (by decide) (fun hall=>?_) (fun e he hns=>?_))
  all_goals (refine AtT.zI ?_)
  all_goals refine AtT.done ?_
  all_goals (refine At.nrm ?_)
  ·refine At.qf rfl rfl ?_
   refine At.nrm ?_
   refine At.zh (.q 0 (.q 1 .done)) ?_
   refine AtT.ze ?_
   refine AtT.zf ?_
   refine AtT.done ?_
   refine At.nrm ?_
   refine At.zh (.q 0 (.q 1 .done)) ?_
   first | refine AtT.qm ?_ | refine AtT.zR ?_
   refine AtT.ze ?_
   refine AtT.done ?_
   refine At.nrm ?_
   refine At.round (k+1,b32,M2,c2') ?_ ?_ ?_ ?_
   ·show ls.length-(k+1)<ls.length-k; omega
   ·refine⟨hVV.trans hV2,by dsimp only; omega,hmi2,fun x=>?_⟩
    show kW x M2=true↔GsK ls (k+1) x
    rw[hmem2]
    simp only[GsK,hgt]
    constructor
    ·rintro⟨e,he,_,hst⟩; exact⟨e.1,(hmem e.1).1 ((jq e.1 M).2 ⟨e,he,rfl⟩),hst⟩
    ·rintro⟨s,hs,hst⟩
     obtain⟨e,he,rfl⟩:=(jq s M).1 ((hmem s).2 hs)
     exact⟨e,he,hall e he,hst⟩
   ·exact⟨rfl,rfl,rfl,ivs (by dsimp only; omega),trivial⟩
   dsimp only
   ·exact Pt.zx
  refine At.qK rfl rfl ?_
  have hun:=jN he hns
  have hev:=hmi.val e he
  have hel:=hmi.lt e he
  have hci:=cntK_le e.1 15
  have hseen:∀ (e':Nat×Int×Nat),e'∈M→(e'.2.2∈seen.push e.2.2↔e'.2.2∈seen∨e'=e):=fun e' he'=>by
   rw[Array.mem_push]
   constructor
   ·rintro(h | h)
    ·exact .inl h
    ·exact .inr (inj_of (fun e:Nat×Int×Nat=>e.2.2) hmi.nodB he' he h)
   ·rintro(h | rfl)
    ·exact .inl h
    ·exact .inr rfl
  have hsee2:∀ x,(∃ e'∈M,e'.2.2∈seen.push e.2.2∧Stp e30 e'.1 x)↔(∃ e'∈M,e'.2.2∈seen∧Stp e30 e'.1 x)∨Stp e30 e.1 x:=fun x=>by
   constructor
   ·rintro⟨e',h1,h2,h3⟩
    rcases(hseen e' h1).1 h2 with h | rfl
    ·exact .inl ⟨e',h1,h,h3⟩
    ·exact .inr h3
   ·rintro(⟨e',h1,h2,h3⟩ | h3)
    ·exact⟨e',h1,(hseen e' h1).2 (.inl h2),h3⟩
    ·exact⟨e,he,(hseen e he).2 (.inr rfl),h3⟩
  refine At.nrm ?_
  refine At.zh (.n false 0 (.q 1 (.q 2 (.n false 3 (.n true 4 (.q 5 .done)))))) ?_
  refine AtT.entry rfl trivial rfl zN.zx zN.zx he hmi.nodB (by decide) ?_
  refine AtT.zI ?_
  refine AtT.zI ?_
  refine AtT.qE z73 ?_
  intro b8
  refine AtT.qc zY ?_
  refine AtT.zf ?_
  refine AtT.done ?_
  refine At.nrm ?_
  have hmeet:Fnc Tryz.prog 31 ([stv e30]++[stv e.1]++[]) V2 fun r _=>r=.bool (mtB e30 e.1):=meets_f e30 e.1 (by omega) (by omega) V2
  cases hmt:mtB e30 e.1 with
  | true=>
   rw[hmt]at hmeet
   refine At.zh (.q 0 (.q 1 (.n false 2 .done))) ?_
   refine AtT.ze ?_
   first | refine AtT.zB zY ?_ | refine AtT.zM zY ?_ | refine AtT.zA zY ?_
   refine AtT.kcallV rfl rfl rfl ok31 (hmeet) ?_
   rintro _ rfl
   refine AtT.done ?_
   refine At.nrm ?_
   refine At.qK rfl rfl ?_
   refine At.nrm ?_
   have hput:∀ e'∈M2,e'.1=e.1→e'.2.1=e.2.1:=fun e' h1 h2=>by rw[hmi2.val e' h1,h2,hev]
   refine At.zh (.q 0 (.q 1 (.q 2 (.n true 3 .done)))) ?_
   refine AtT.ze ?_
   first | refine AtT.zB zY ?_ | refine AtT.zM zY ?_ | refine AtT.zA zY ?_
   refine AtT.ze ?_
   refine AtT.mapPut rfl trivial key72 e.1 e.2.1 Tryz.underlying155 rfl rfl rfl hput (by repeat first|exact Upd.here|apply Upd.there) ?_
   refine AtT.done ?_
   refine At.nrm ?_
   refine At.round (seen.push e.2.2,(mIns e.1 e.2.1 M2 c2').1,(mIns e.1 e.2.1 M2 c2').2) ?_ ?_ ?_ ?_
   ·exact hun
   ·refine⟨hV2,?_,fun x=>?_⟩
    ·dsimp only; rw[hev]; exact mi_ins hmi2 hel
    ·dsimp only
     rw[mi_has,hmem2,hsee2]
     constructor
     ·rintro(h | rfl)
      ·exact .inl h
      ·exact .inr (.inl ⟨hmt,rfl⟩)
     ·rintro(h | h)
      ·exact .inl h
      ·rcases h with ⟨_,rfl⟩ | ⟨h1,_⟩
       ·exact .inr rfl
       ·rw[hmt]at h1; cases h1
   ·exact⟨rfl,rfl,rfl,rfl,rfl,rfl,rfl,rfl,trivial⟩
   dsimp only
   ·exact Pt.zx
  | false=>
   rw[hmt]at hmeet
   refine At.zh (.q 0 (.q 1 (.n false 2 .done))) ?_
   refine AtT.ze ?_
   first | refine AtT.zB zY ?_ | refine AtT.zM zY ?_ | refine AtT.zA zY ?_
   refine AtT.kcallV rfl rfl rfl ok31 (hmeet) ?_
   rintro _ rfl
   refine AtT.done ?_
   refine At.nrm ?_
   refine At.qf rfl rfl ?_
   refine At.nrm ?_
   refine At.zh (.q 0 (.n false 1 (.q 2 (.q 3 .done)))) ?_
   first | refine AtT.zB zY ?_ | refine AtT.zM zY ?_ | refine AtT.zA zY ?_
   refine AtT.jQ rfl rfl ok27 (list_f e30 (by omega) _) ?_
   rintro v49 V49 hV49 hs49
   first | refine AtT.zK Tryz.underlying22 ?_ | refine AtT.zL Tryz.underlying22 ?_
   refine AtT.ze ?_
   refine AtT.done ?_
   refine At.nrm ?_
   obtain⟨a9,c9,rfl,_⟩:=id hs49
   have hbl:=cntK_le e30 15
   unfold cntK at hbl
   have hcnt:e.2.1≤15:=by rw[hev]; unfold cnt cntK; unfold cntK at hci; omega
   have hcn0:0≤e.2.1:=by rw[hev]; omega
   refine At.lp (ι:=Nat×MM Nat Int×Nat) (KS:=fun g=>[(3,.map (some b)),(5,.pointer (some ⟨b5,0,none⟩)),(6,.map (some b32)),(7,.func (.func 31) #[stv e30] #[]),(8,.pointer (some ⟨b8,0,none⟩)),(9,iv e.2.1),(26,.slice a2 ls.length c2),(27,iv ls.length),(28,iv k),(36,.pointer (some ⟨b36,0,none⟩)),(49,.slice a9 (ql e30 15).length c9),(50,iv (ql e30 15).length),(51,iv g.1)])
    (OS:=fun g=>[.blk b36 (.mapIter (some b) c (seen.push e.2.2) c),.blk b32 (mO g.2.1 g.2.2),.blk b (mO M c),.blk b5 (LC (ste e30) 73),.blk b8 (LC (ste e.1) 73)])
    (VS:=fun g V''=>Le V49 V''∧g.1≤(ql e30 15).length∧MI g.2.1 g.2.2∧∀ x,kW x g.2.1=true↔kW x M2=true∨∃ i:Nat,(i:Int)∈(ql e30 15).take g.1∧x=e.1 ||| 2 ^ i) (μ:=fun g=>(ql e30 15).length-g.1) (0,M2,c2') ?_ ?_ ?_ ?_
   ·exact⟨rfl,rfl,rfl,rfl,rfl,rfl,rfl,rfl,rfl,rfl,rfl,rfl,rfl,trivial⟩
   ·exact Pt.zx
   ·exact⟨Le.refl _,Nat.zero_le _,hmi2,fun x=>by simp⟩
   rintro⟨j,M3,c3⟩ V3 ks' O' ⟨hV3,hjl,hmi3,hmem3⟩ hk hO hl4
   dsimp only at hjl hmi3 hmem3 hk hO
   subst hk hO
   have hs3:=hs49.le hV3
   refine At.nrm ?_
   refine At.zh (.q 0 .done) ?_
   refine AtT.qg ?_
   refine AtT.done ?_
   refine At.nrm ?_
   refine At.zZ rfl (fun hq=>?_) (fun hq=>?_)
   ·obtain⟨y,hy⟩:∃ y,(ql e30 15)[j]? = some y:=⟨_,List.getElem?_eq_getElem (by omega)⟩
    obtain⟨i,hi15,rfl,hbit⟩:=jY.1 (List.mem_of_getElem? hy)
    have hpw:2 ^ i<32768:=pow_lt15 (x:=(i:Int)) (by omega)
    have hno:=mtB_no hmt hbit
    have hcor:=cnt_or hno hi15
    have hput:∀ e'∈M3,e'.1=e.1 ||| 2 ^ i→e'.2.1=e.2.1+1:=fun e' h1 h2=>by rw[hmi3.val e' h1,h2,hcor,hev]; push_cast; rfl
    have hval1:e.2.1+1=(cnt (e.1 ||| 2 ^ i):Int):=by rw[hcor,hev]; push_cast; rfl
    refine At.nrm ?_
    refine At.zh (.q 0 (.q 1 (.q 2 .done))) ?_
    refine AtT.zU Tryz.underlying22 tk3 ?_
    intro p53 e53 he53 hc53
    obtain rfl:e53=(i:Int):=by have:(ql e30 15)[j]? = some e53:=(by simpa using he53); rw[hy]at this; simpa using this.symm
    first | refine AtT.zk tk3 ?_ | refine AtT.zo tk3 ?_
    refine AtT.zf ?_
    refine AtT.done ?_
    refine At.nrm ?_
    refine At.draw (.q 0 (.q 1 (.q 2 (.q 3 (.q 4 (.q 5 (.q 6 (.q 7 (.q 8 (.n true 9 .done)))))))))) ffm (by kernel_rfl) ?_
    refine AtT.ze ?_
    first | refine AtT.zm qQ ?_ | with_reducible refine AtT.zn qQ ?_ | refine AtT.zq qQ ?_
    first | refine AtT.zk tk3 ?_ | refine AtT.zo tk3 ?_
    refine AtT.ze ?_
    refine AtT.shlN rfl trivial rfl rfl (N:=i) rfl (by omega) (by decide) ?_
    refine AtT.orN rfl trivial rfl rfl rfl rfl (by omega) (by omega) (by decide) (A:=e.1) (B:=2 ^ i) ?_
    refine AtT.jk (bd73_0 _) ?_
    refine AtT.ze ?_
    first | refine AtT.qm ?_ | refine AtT.zR ?_
    refine AtT.mapPut rfl trivial key72 (e.1 ||| 2 ^ i) (e.2.1+1) Tryz.underlying155 rfl rfl rfl hput (by repeat first|exact Upd.here|apply Upd.there) ?_
    refine AtT.done ?_
    refine At.nrm ?_
    refine At.zh (.q 0 (.q 1 .done)) ?_
    first | refine AtT.qm ?_ | refine AtT.zR ?_
    refine AtT.ze ?_
    refine AtT.done ?_
    refine At.nrm ?_
    refine At.round (j+1,(mIns (e.1 ||| 2 ^ i) (e.2.1+1) M3 c3).1,(mIns (e.1 ||| 2 ^ i) (e.2.1+1) M3 c3).2) ?_ ?_ ?_ ?_
    ·show(ql e30 15).length-(j+1)<(ql e30 15).length-j; omega
    ·refine⟨hV3,by dsimp only; omega,?_,fun x=>?_⟩
     ·dsimp only; rw[hval1]; exact mi_ins hmi3 (or_lt15 hel hi15)
     ·dsimp only
      rw[mi_has,hmem3,take_snoc' hy]
      constructor
      ·rintro((h | ⟨i',h1,h2⟩) | rfl)
       ·exact .inl h
       ·exact .inr ⟨i',List.mem_append_left _ h1,h2⟩
       ·exact .inr ⟨i,by simp,rfl⟩
      ·rintro(h | ⟨i',h1,rfl⟩)
       ·exact .inl (.inl h)
       ·rcases List.mem_append.1 h1 with h1 | h1
        ·exact .inl (.inr ⟨i',h1,rfl⟩)
        ·rw[List.mem_singleton]at h1
         obtain rfl:i'=i:=by omega
         exact .inr rfl
    ·exact⟨rfl,rfl,rfl,rfl,rfl,rfl,rfl,rfl,rfl,rfl,rfl,rfl,ivs (by dsimp only; omega),trivial⟩
    dsimp only
    ·exact Pt.zx
   ·obtain rfl:j=(ql e30 15).length:=by omega
    rw[List.take_length]at hmem3
    refine At.nrm ?_
    refine At.round (seen.push e.2.2,M3,c3) ?_ ?_ ?_ ?_
    ·exact hun
    ·refine⟨(hV2.trans hV49).trans hV3,hmi3,fun x=>?_⟩
     dsimp only
     rw[hmem3,hmem2,hsee2]
     constructor
     ·rintro(h | ⟨i,h1,rfl⟩)
      ·exact .inl h
      ·obtain⟨i',h2,h3,h4⟩:=jY.1 h1
       obtain rfl:i=i':=by omega
       exact .inr (.inr ⟨hmt,i,h2,h4,rfl⟩)
     ·rintro(h | h)
      ·exact .inl h
      ·rcases h with ⟨h1,_⟩ | ⟨_,i,h2,h3,rfl⟩
       ·rw[hmt]at h1; cases h1
       ·exact .inr ⟨i,jY.2 ⟨i,h2,rfl,h3⟩,rfl⟩
    ·exact⟨rfl,rfl,rfl,rfl,rfl,rfl,rfl,rfl,trivial⟩
    dsimp only
    ·exact Pt.zx
 obtain rfl:k=ls.length:=by omega
 have hml:=mi_len hmi
 obtain⟨x0,hx0⟩:=gsK_ex hne ls.length (Nat.le_refl _)
 obtain⟨e0,he0,_⟩:=(jq x0 M).1 ((hmem x0).2 hx0)
 refine At.nrm ?_
 refine At.zh (.q 0 .done) ?_
 refine AtT.zf ?_
 refine AtT.done ?_
 refine At.nrm ?_
 refine At.zh (.q 0 (.n false 1 .done)) ?_
 refine AtT.ze ?_
 refine AtT.range rfl trivial Tryz.underlying155 rfl zN.zx (by decide) ?_
 intro b68
 refine AtT.done ?_
 refine At.nrm ?_
 refine At.newRow 3 1 ?_
 refine At.lp (ι:=Array Nat×List Int×Option Addr×Nat) (KS:=fun g=>[(3,.map (some b)),(12,.slice g.2.2.1 g.2.1.length g.2.2.2),(68,.pointer (some ⟨b68,0,none⟩))])
  (OS:=fun g=>[.blk b68 (.mapIter (some b) c g.1 c),.blk b (mO M c),.row (.slice g.2.2.1 g.2.1.length g.2.2.2) 3 1 g.2.1.length (flat ei g.2.1)])
  (VS:=fun g V''=>Le V V''∧(∀ v∈g.2.1,∃ e∈M,v=e.2.1)∧(∀ e∈M,e.2.2∈g.1→e.2.1∈g.2.1)∧g.2.1.length+(M.filter fun e=>!g.1.contains e.2.2).length≤M.length) (μ:=fun g=>(M.filter fun e=>!g.1.contains e.2.2).length) (#[],[],none,0) ?_ ?_ ?_ ?_
 ·exact⟨rfl,rfl,rfl,trivial⟩
 ·exact Pt.zx
 ·exact⟨hVV,fun v h=>(by cases h),fun e _ h=>(by simp at h),by show 0+_≤_; rw[Nat.zero_add]; exact List.length_filter_le _ _⟩
 rintro⟨seen,sz,ao,co⟩ V2 ks' O' ⟨hV2,hz1,hz2,hz3⟩ hk hO hl3
 dsimp only at hz1 hz2 hz3 hk hO
 subst hk hO
 refine At.nrm ?_
 refine At.zh (.n true 0 (.q 1 .done)) ?_
 all_goals (refine AtT.next rfl trivial rfl zN.zx zN.zx (fun e he=>hmi.born e he) (Nat.le_refl _) (by decide) (fun hall=>?_) (fun e he hns=>?_))
 all_goals (refine AtT.zI ?_)
 all_goals refine AtT.done ?_
 all_goals (refine At.nrm ?_)
 rotate_left
 ·refine At.qK rfl rfl ?_
  have hun:=jN he hns
  refine At.nrm ?_
  refine At.zh (.n false 0 (.q 1 (.q 2 .done))) ?_
  refine AtT.entry rfl trivial rfl zN.zx zN.zx he hmi.nodB (by decide) ?_
  refine AtT.zI ?_
  refine AtT.zf ?_
  refine AtT.done ?_
  refine At.nrm ?_
  refine At.zh (.q 0 (.q 1 (.n false 2 (.n true 3 (.q 4 .done))))) ?_
  refine AtT.ze ?_
  refine AtT.ze ?_
  refine AtT.qi (qX _) ?_
  intro q75 V75 hV75 hq75
  have g75:Le V V75:=by first | exact hV75 | exact Le.trans (by assumption) hV75
  first | refine AtT.kX Tryz.underlying22 rw3 ?_
  intro a76 c76
  refine AtT.zf ?_
  refine AtT.done ?_
  refine At.nrm ?_
  refine At.round (seen.push e.2.2,sz++[e.2.1],a76,c76) ?_ ?_ ?_ ?_
  ·exact hun
  ·refine⟨hV2.trans (by first | assumption | exact Le.refl _),fun v hv=>?_,fun e' h1 h2=>?_,?_⟩
   ·rcases List.mem_append.1 hv with h | h
    ·exact hz1 v h
    ·rw[List.mem_singleton]at h; exact⟨e,he,h⟩
   ·rcases(seen_push hmi.nodB he h1).1 h2 with h | rfl
    ·exact List.mem_append_left _ (hz2 e' h1 h)
    ·exact List.mem_append_right _ (List.mem_singleton.2 rfl)
   ·dsimp only; rw[List.length_append]; simp only[List.length_cons,List.length_nil]; omega
  ·dsimp only; rw[List.length_append]; exact⟨rfl,rfl,rfl,trivial⟩
  dsimp only
  rw[qB,List.length_append]
  ·exact Pt.zx
 refine At.qf rfl rfl ?_
 have hsn:sz≠[]:=fun h=>by have:=hz2 e0 he0 (hall e0 he0); rw[h]at this; cases this
 refine At.nrm ?_
 refine At.giveSl (l:=sz) (m:=sz.length) Lw.jd rfl rfl zN.zx (fun V3 hV3 hs3=>?_)
 refine At.zh (.q 0 (.n false 1 (.q 2 .done))) ?_
 refine AtT.ze ?_
 refine AtT.zJ rfl rfl ok108 (min_f sz hsn _ _ hs3) ?_
 rintro _ ⟨few,rfl,hf1,hf2⟩
 refine AtT.zf ?_
 refine AtT.done ?_
 refine At.nrm ?_
 have hfew:∀ e∈M,few≤e.2.1:=fun e he=>hf2 _ (hz2 e he (hall e he))
 obtain⟨e1,he1,hfe1⟩:=hz1 few hf1
 refine At.zh (.q 0 (.n false 1 .done)) ?_
 refine AtT.ze ?_
 refine AtT.range rfl trivial Tryz.underlying155 rfl zN.zx (by decide) ?_
 intro b80
 refine AtT.done ?_
 refine At.nrm ?_
 refine At.lp (ι:=Array Nat) (KS:=fun _=>[(3,.map (some b)),(15,iv few),(80,.pointer (some ⟨b80,0,none⟩))])
  (OS:=fun seen=>[.blk b80 (.mapIter (some b) c seen c),.blk b (mO (left (fun e=>decide (¬ few<e.2.1)) M seen) c)])
  (VS:=fun _ V''=>Le V3 V'') (μ:=fun seen=>(M.filter fun e=>!seen.contains e.2.2).length) #[] ?_ ?_ ?_ ?_
 ·exact⟨rfl,rfl,rfl,trivial⟩
 ·rw[left_nil]
  ·exact Pt.zx
 ·exact Le.refl _
 rintro seen2 V4 ks' O' hV4 hk hO hl4
 subst hk hO
 have hsub:∀ e∈left (fun e=>decide (¬ few<e.2.1)) M seen2,e∈M:=fun e he=>(List.mem_filter.1 he).1
 refine At.nrm ?_
 refine At.zh (.n true 0 (.q 1 .done)) ?_
 all_goals (refine AtT.next rfl trivial rfl zN.zx zN.zx (fun e he=>hmi.born e (hsub e he)) (Nat.le_refl _) (by decide) (fun hall2=>?_) (fun e he hns=>?_))
 all_goals (refine AtT.zI ?_)
 all_goals refine AtT.done ?_
 all_goals (refine At.nrm ?_)
 rotate_left
 ·refine At.qK rfl rfl ?_
  have heM:=hsub e he
  have hun:=jN heM hns
  have hnd2:((left (fun e=>decide (¬ few<e.2.1)) M seen2).map (·.2.2)).Nodup:=hmi.nodB.sublist (List.filter_sublist.map _)
  refine At.nrm ?_
  refine At.zh (.n false 0 (.q 1 (.q 2 (.n false 3 (.n true 4 (.q 5 .done)))))) ?_
  refine AtT.entry rfl trivial rfl zN.zx zN.zx he hnd2 (by decide) ?_
  refine AtT.zI ?_
  refine AtT.zI ?_
  refine AtT.qE z73 ?_
  intro b16
  refine AtT.qc zY ?_
  refine AtT.zf ?_
  refine AtT.done ?_
  refine At.nrm ?_
  refine At.zh (.q 0 (.q 1 (.q 2 .done))) ?_
  refine AtT.ze ?_
  refine AtT.ze ?_
  refine AtT.qx ?_
  refine AtT.done ?_
  refine At.nrm ?_
  refine At.zZ rfl (fun hm=>?_) (fun hm=>?_)
  ·have hg:decide (¬ few<e.2.1)=false:=decide_eq_false (fun h=>h hm)
   have hdel:=left_del (g:=fun e:Nat×Int×Nat=>decide (¬ few<e.2.1)) (seen:=seen2) hmi.nodB hmi.nodK heM hg
   refine At.nrm ?_
   refine At.zh (.q 0 (.q 1 (.n true 2 .done))) ?_
   refine AtT.ze ?_
   first | refine AtT.zB zY ?_ | refine AtT.zM zY ?_ | refine AtT.zA zY ?_
   refine AtT.mapDel rfl trivial key72 e.1 (fun n:Int=>iv n) rfl Tryz.underlying155 rfl rfl (by repeat first|exact Upd.here|apply Upd.there) ?_
   refine AtT.done ?_
   refine At.nrm ?_
   refine At.round (seen2.push e.2.2) hun hV4 ⟨rfl,rfl,rfl,trivial⟩ ?_
   rw[hdel]
   ·exact Pt.zx
  ·have hg:decide (¬ few<e.2.1)=true:=decide_eq_true hm
   have hkeep:=left_keep (g:=fun e:Nat×Int×Nat=>decide (¬ few<e.2.1)) (seen:=seen2) hmi.nodB heM hg
   refine At.nrm ?_
   refine At.round (seen2.push e.2.2) hun hV4 ⟨rfl,rfl,rfl,trivial⟩ ?_
   rw[hkeep]
   ·exact Pt.zx
 refine At.qf rfl rfl ?_
 rw[left_end hall2]
 obtain⟨N,hN⟩:∃ N,N=M.filter fun e=>decide (¬ few<e.2.1):=⟨_,rfl⟩
 rw[←hN]
 have hNs:∀ e∈N,e∈M∧¬ few<e.2.1:=fun e he=>by rw[hN]at he; have:=List.mem_filter.1 he; exact⟨this.1,by simpa using this.2⟩
 have hNi:∀ e∈M,¬ few<e.2.1→e∈N:=fun e he h=>by rw[hN]; exact List.mem_filter.2 ⟨he,by simpa using h⟩
 have hNB:(N.map (·.2.2)).Nodup:=by rw[hN]; exact hmi.nodB.sublist (List.filter_sublist.map _)
 have hNK:(N.map (·.1)).Nodup:=by rw[hN]; exact hmi.nodK.sublist (List.filter_sublist.map _)
 have hNl:N.length≤32768:=by rw[hN]; exact Nat.le_trans (List.length_filter_le _ _) hml
 refine At.nrm ?_
 refine At.zh (.q 0 .done) ?_
 refine AtT.zf ?_
 refine AtT.done ?_
 refine At.nrm ?_
 refine At.zh (.q 0 (.n false 1 .done)) ?_
 refine AtT.ze ?_
 refine AtT.range rfl trivial Tryz.underlying155 rfl zN.zx (by decide) ?_
 intro b92
 refine AtT.done ?_
 refine At.nrm ?_
 refine At.newRow 73 1 ?_
 refine At.lp (ι:=Array Nat×List Nat×Option Addr×Nat) (KS:=fun g=>[(18,.slice g.2.2.1 g.2.1.length g.2.2.2),(92,.pointer (some ⟨b92,0,none⟩))])
  (OS:=fun g=>[.blk b92 (.mapIter (some b) c g.1 c),.blk b (mO N c),.row (.slice g.2.2.1 g.2.1.length g.2.2.2) 73 1 g.2.1.length (flat ste g.2.1)])
  (VS:=fun g V''=>Le V V''∧g.2.1.Nodup∧(∀ x,x∈g.2.1↔∃ e∈N,e.2.2∈g.1∧e.1=x)∧g.2.1.length+(N.filter fun e=>!g.1.contains e.2.2).length≤N.length) (μ:=fun g=>(N.filter fun e=>!g.1.contains e.2.2).length) (#[],[],none,0) ?_ ?_ ?_ ?_
 ·exact⟨rfl,rfl,trivial⟩
 ·exact Pt.zx
 ·exact⟨hV2.trans (hV3.trans hV4),List.nodup_nil,fun x=>(by simp),by show 0+_≤_; rw[Nat.zero_add]; exact List.length_filter_le _ _⟩
 rintro⟨seen3,out,ao3,co3⟩ V5 ks' O' ⟨hV5,ho1,ho2,ho3⟩ hk hO hl5
 dsimp only at ho1 ho2 ho3 hk hO
 subst hk hO
 refine At.nrm ?_
 refine At.zh (.n true 0 (.q 1 .done)) ?_
 all_goals (refine AtT.next rfl trivial rfl zN.zx zN.zx (fun e he=>hmi.born e (hNs e he).1) (Nat.le_refl _) (by decide) (fun hall3=>?_) (fun e he hns=>?_))
 all_goals (refine AtT.zI ?_)
 all_goals refine AtT.done ?_
 all_goals (refine At.nrm ?_)
 rotate_left
 ·refine At.qK rfl rfl ?_
  have hun:=jN he hns
  have hno:e.1∉out:=fun h=>by
   obtain⟨e',h1,h2,h3⟩:=(ho2 e.1).1 h
   have:=inj_of (fun e:Nat×Int×Nat=>e.1) hNK h1 he h3
   subst this; exact hns h2
  refine At.nrm ?_
  refine At.zh (.n false 0 (.q 1 (.n false 2 (.n true 3 .done)))) ?_
  refine AtT.entry rfl trivial rfl zN.zx zN.zx he hNB (by decide) ?_
  refine AtT.zI ?_
  refine AtT.qE z73 ?_
  intro b19
  refine AtT.qc zY ?_
  refine AtT.done ?_
  refine At.nrm ?_
  refine At.zh (.q 0 (.q 1 (.n false 2 (.n true 3 (.q 4 .done))))) ?_
  refine AtT.ze ?_
  first | refine AtT.zB zY ?_ | refine AtT.zM zY ?_ | refine AtT.zA zY ?_
  refine AtT.qi (bs69_1_0 _) ?_
  intro q99 V99 hV99 hq99
  have g99:Le V V99:=by first | exact hV99 | exact Le.trans (by assumption) hV99
  first | refine AtT.kX Tryz.underlying69 rw73 ?_
  intro a100 c100
  refine AtT.zf ?_
  refine AtT.done ?_
  refine At.nrm ?_
  refine At.round (seen3.push e.2.2,out++[e.1],a100,c100) ?_ ?_ ?_ ?_
  ·exact hun
  ·refine⟨hV5.trans (by first | assumption | exact Le.refl _),?_,fun x=>?_,?_⟩
   ·exact List.nodup_append.2 ⟨ho1,by simp,fun x hx y hy=>by rw[List.mem_singleton]at hy; subst hy; intro h; subst h; exact hno hx⟩
   ·dsimp only
    rw[List.mem_append,List.mem_singleton,ho2]
    constructor
    ·rintro(⟨e',h1,h2,h3⟩ | rfl)
     ·exact⟨e',h1,(seen_push hNB he h1).2 (.inl h2),h3⟩
     ·exact⟨e,he,(seen_push hNB he he).2 (.inr rfl),rfl⟩
    ·rintro⟨e',h1,h2,h3⟩
     rcases(seen_push hNB he h1).1 h2 with h | rfl
     ·exact .inl ⟨e',h1,h,h3⟩
     ·exact .inr h3.symm
   ·dsimp only; rw[List.length_append]; simp only[List.length_cons,List.length_nil]; omega
  ·dsimp only; rw[List.length_append]; exact⟨rfl,rfl,trivial⟩
  dsimp only
  rw[qB,List.length_append]
  ·exact Pt.zx
 refine At.qf rfl rfl ?_
 have hfm:e1.2.1=few:=hfe1.symm
 have hone:e1.1∈out:=(ho2 e1.1).2 ⟨e1,hNi e1 he1 (by omega),hall3 e1 (hNi e1 he1 (by omega)),rfl⟩
 have hon0:out.length≠0:=fun h=>by rw[List.eq_nil_of_length_eq_zero h]at hone; cases hone
 refine At.nrm ?_
 refine At.rowBlk2 (v:=.slice ao3 out.length co3) zN.zx hon0 (fun bb cap rest hbb hcap hcm hrl=>?_)
 cases hbb
 refine At.zh (.q 0 (.n true 1 .done)) ?_
 refine AtT.ze ?_
 refine AtT.sortS rfl trivial rfl rfl (l:=out) (rest:=rest) (by omega) zN.zx (by decide) (fun l' hperm hsrt=>?_)
 refine AtT.done ?_
 refine At.nrm ?_
 have hpl:=hperm.length_eq
 refine At.giveM (b:=bb) zN.zx (fun V6 hV6 hb6 hn6=>?_)
 have hl6:(flat ste l').length=l'.length*1:=qa ste_len _
 have hl7:(flat ste out).length=out.length*1:=qa ste_len _
 have hnv:V bb=none:=by
  cases hv:V bb with
  | none=>rfl
  | some o=>rw[hV5 _ _ hv]at hn6; cases hn6
 have hs6:RwB V V6 73 1 ste (.slice (some ⟨bb,0,none⟩) l'.length co3) l':=⟨bb,co3,_,rfl,by rw[hpl]; exact hcap,hcm,hnv,hb6,by rw[←hrl,List.length_append,List.length_append,hl6,hl7,hpl],by rw[←hl6]; exact List.take_left⟩
 rw[hpl]at hs6
 refine At.zh (.q 0 (.q 1 .done)) ?_
 refine AtT.ze ?_
 refine AtT.zf ?_
 refine AtT.done ?_
 refine At.nrm ?_
 refine At.zT rfl (.tmp rfl) ⟨l',hs6,hperm.nodup_iff.2 ho1,hsrt,fun x=>?_⟩
 rw[hperm.mem_iff,ho2]
 constructor
 ·rintro⟨e,h1,_,rfl⟩
  obtain⟨h2,h3⟩:=hNs e h1
  refine⟨(hmem e.1).1 ((jq e.1 M).2 ⟨e,h2,rfl⟩),fun y hy=>?_⟩
  obtain⟨e',h4,h5⟩:=(jq y M).1 ((hmem y).2 hy)
  have a1:=hfew e' h4
  have a2':=hmi.val e' h4
  have a3:=hmi.val e h2
  rw[h5]at a2'
  omega
 ·rintro⟨h1,h2⟩
  obtain⟨e,h3,h4⟩:=(jq x M).1 ((hmem x).2 h1)
  have a1:=h2 e1.1 ((hmem e1.1).1 ((jq e1.1 M).2 ⟨e1,he1,rfl⟩))
  have a2':=hmi.val e h3
  have a3:=hmi.val e1 he1
  rw[h4]at a2'
  have:e∈N:=hNi e h3 (by omega)
  exact⟨e,this,hall3 e this,h4⟩
theorem smallest_f (ts:List Tq) (ht:∀ t∈ts,sndB t.p=true) (h16:ts.length≤16) (hz:(lsL ts).any (· == 0)=false) (V:View) (p:Addr) (hb:BcV V p ts):Fnc Tryz.prog 64 [.pointer (some p)] V fun r V'=>∃ l,Sl V' ste 1 r l∧SmS (lsL ts) SrtL l:=by
 obtain⟨a2,c2,hc26,hsl⟩:=bc_left hb
 have hlt:=ls_lt (no:=clA ts) ht ts.length
 have hfl:=fl_ls (clA ts) ts ts.length
 have hne:∀ s∈lsL ts,s≠0∧s<32768:=fun s hs=>⟨fun e=>by rw[List.any_eq_false]at hz; exact hz s hs (by rw[e]; rfl),hlt s hs⟩
 exact(smallest_g (lsL ts) (by unfold lsL; omega) hne V p a2 c2 hc26 hsl).mono fun v V' _ ⟨l,h1,h2⟩=>⟨l,h1.sl ste_len,h2⟩
end Go.Proofs.YtfmmggphdeiajaaGreatDoor
end
section
set_option linter.unusedVariables false
namespace Go.Proofs.YtfmmggphdeiajaaGreatDoor
open Go.Lw Go.Gl Go.Bl Go.RowKit
theorem alE_zero {ts:List Tq} (h:alE ts=0):trE ts=0∧(lsL ts).any (· == 0)=false:=by
 have h0:trE ts=0:=by
  by_cases c:trE ts=0
  ·exact c
  ·rw[alE_tr c]at h; exact absurd h c
 refine⟨h0,?_⟩
 cases c:(lsL ts).any (· == 0)with
 | false=>rfl
 | true=>rw[alE_z h0 c]at h; cases h
theorem explained_ok (ts:List Tq) (h:alE ts=0) (V:View) (v:Value) (hs:Sl V tqe 4 v ts):Fnc Tryz.prog 26 [v] V fun r V'=>∃ p u l,r=.tuple #[.pointer (some p),u,iv 0]∧BcV V' p ts∧Sl V' ste 1 u l∧SmS (lsL ts) SrtL l:=by
 obtain⟨h0,hz⟩:=alE_zero h
 obtain⟨h16,ht⟩:=trE_ok h0
 refine zS Tryz.func26 rfl Tryz.ntmps26 (Nat.le_of_ble_eq_true rfl) ?_
 intro w0 hw0
 refine At.nrm ?_
 refine At.zh (.q 0 (.q 1 (.q 2 .done))) ?_
 refine AtT.zf ?_
 refine AtT.zf ?_
 refine AtT.zf ?_
 refine AtT.done ?_
 refine At.nrm ?_
 refine At.zh (.q 0 (.n false 1 (.q 2 (.q 3 (.q 4 (.q 5 (.q 6 .done))))))) ?_
 refine AtT.ze ?_
 refine AtT.jQ rfl rfl ok28 (open_ok ts h0 _ _ hs) ?_
 rintro _ V1 hV1 ⟨p,rfl,hb⟩
 refine AtT.ze ?_
 refine AtT.zI ?_
 refine AtT.zI ?_
 refine AtT.zf ?_
 refine AtT.zf ?_
 refine AtT.done ?_
 refine At.nrm ?_
 refine At.zh (.q 0 (.q 1 (.q 2 .done))) ?_
 refine AtT.ze ?_
 refine AtT.jV ?_
 refine AtT.zf ?_
 refine AtT.done ?_
 refine At.nrm ?_
 refine At.qf rfl (decide_eq_false (by simp)) ?_
 obtain⟨a2,c2,hc20,hsl⟩:=bc_left hb
 refine At.nrm ?_
 refine At.zh (.q 0 (.q 1 (.q 2 (.q 3 (.q 4 (.n false 5 (.q 6 .done))))))) ?_
 refine AtT.ze ?_
 refine AtT.jI ?_
 first | refine AtT.zm jy ?_ | with_reducible refine AtT.zn jy ?_ | refine AtT.zq jy ?_
 first | refine AtT.zk tk69 ?_ | refine AtT.zo tk69 ?_
 refine AtT.jk (bd73) ?_
 refine AtT.zJ rfl rfl ok63 (containsS_f (lsL ts) _ _ hsl) ?_
 rintro _ rfl; rw[hz]
 refine AtT.zf ?_
 refine AtT.done ?_
 refine At.nrm ?_
 refine At.qf rfl rfl ?_
 refine At.nrm ?_
 refine At.zh (.q 0 (.q 1 (.n false 2 (.q 3 (.q 4 (.q 5 .done)))))) ?_
 refine AtT.ze ?_
 refine AtT.ze ?_
 refine AtT.jQ rfl rfl ok64 (smallest_f ts ht h16 hz _ p hb) ?_
 rintro v25 V25 hV25 ⟨l,hl,hsm⟩
 refine AtT.zf ?_
 refine AtT.zf ?_
 refine AtT.zf ?_
 refine AtT.done ?_
 refine At.nrm ?_
 exact At.ret3 rfl (.tmp rfl) (.tmp rfl) (.tmp rfl) ⟨p,v25,l,rfl,hb.le hV25,hl,hsm⟩
theorem sms_ne {ts:List Tq} {l:List Nat} (h:alE ts=0) (hs:SmS (lsL ts) SrtL l):l≠[]∧∀ x∈l,x<32768:=by
 obtain⟨h0,hz⟩:=alE_zero h
 obtain⟨h16,ht⟩:=trE_ok h0
 have hlt:=ls_lt (no:=clA ts) ht ts.length
 have hne:∀ s∈lsL ts,s≠0∧s<32768:=fun s hs=>⟨fun e=>by rw[List.any_eq_false]at hz; exact hz s hs (by rw[e]; rfl),hlt s hs⟩
 refine⟨fun e=>?_,fun x hx=>gsK_lt ((hs.mem x).1 hx).1⟩
 obtain⟨x0,hx0⟩:=gsK_ex hne _ (Nat.le_refl _)
 -- some set is least
 have:∃ x,GsK (lsL ts) (lsL ts).length x∧∀ y,GsK (lsL ts) (lsL ts).length y→cnt x≤cnt y:=by
  have key:∀ n x,cnt x≤n→GsK (lsL ts) (lsL ts).length x→∃ x,GsK (lsL ts) (lsL ts).length x∧∀ y,GsK (lsL ts) (lsL ts).length y→cnt x≤cnt y:=by
   intro n
   induction n with
   | zero=>intro x h1 h2; exact⟨x,h2,fun y _=>by omega⟩
   | succ n ih=>
    intro x h1 h2
    by_cases c:∃ y,GsK (lsL ts) (lsL ts).length y∧cnt y<cnt x
    ·obtain⟨y,h3,h4⟩:=c; exact ih y (by omega) h3
    ·exact⟨x,h2,fun y hy=>by
      apply Classical.byContradiction
      intro hc; exact c ⟨y,hy,by omega⟩⟩
  exact key _ x0 (Nat.le_refl _) hx0
 obtain⟨x,hx1,hx2⟩:=this
 have:=(hs.mem x).2 ⟨hx1,hx2⟩
 rw[e]at this; cases this
theorem fewest_ok (ts:List Tq) (h:alE ts=0) (V:View) (v:Value) (hs:Sl V tqe 4 v ts):Fnc Tryz.prog 14 [v] V fun r _=>∃ l x,SmS (lsL ts) SrtL l∧l[0]? = some x∧r=.tuple #[iv (cnt x),iv 0]:=by
 refine zS Tryz.func14 rfl Tryz.ntmps14 (Nat.le_of_ble_eq_true rfl) ?_
 intro w0 hw0
 refine At.nrm ?_
 refine At.zh (.q 0 (.q 1 .done)) ?_
 refine AtT.zf ?_
 refine AtT.zf ?_
 refine AtT.done ?_
 refine At.nrm ?_
 refine At.zh (.q 0 (.n false 1 (.q 2 (.q 3 (.q 4 (.q 5 (.q 6 (.q 7 (.q 8 .done))))))))) ?_
 refine AtT.ze ?_
 refine AtT.jQ rfl rfl ok26 (explained_ok ts h _ _ hs) ?_
 rintro _ V1 hV1 ⟨p,u,l,rfl,hb,hl,hsm⟩
 refine AtT.ze ?_
 refine AtT.zI ?_
 refine AtT.zI ?_
 refine AtT.zI ?_
 refine AtT.zf ?_
 refine AtT.zf ?_
 refine AtT.zf ?_
 refine AtT.done ?_
 refine At.nrm ?_
 obtain⟨hne,hlt⟩:=sms_ne h hsm
 have hpos:0<l.length:=List.length_pos_iff.2 hne
 obtain⟨a,c,rfl,_⟩:=id hl
 refine At.zh (.q 0 (.q 1 .done)) ?_
 refine AtT.ze ?_
 refine AtT.jV ?_
 refine AtT.done ?_
 refine At.nrm ?_
 refine At.qf rfl (decide_eq_false (by simp)) ?_
 obtain⟨x,hx⟩:∃ x,l[0]? = some x:=⟨_,List.getElem?_eq_getElem hpos⟩
 have hxl:=hlt x (List.mem_of_getElem? hx)
 refine At.nrm ?_
 refine At.zh (.q 0 (.q 1 (.q 2 (.n false 3 (.q 4 (.q 5 (.q 6 .done))))))) ?_
 refine AtT.ze ?_
 refine AtT.zU Tryz.underlying69 zY ?_
 intro p17 e17 he17 hc17
 obtain rfl:e17=x:=by have:l[0]? = some e17:=(by simpa using he17); rw[hx]at this; simpa using this.symm
 first | refine AtT.zB zY ?_ | refine AtT.zM zY ?_ | refine AtT.zA zY ?_
 refine AtT.jQ rfl rfl ok27 (list_f e17 (by omega) _) ?_
 rintro v19 V19 hV19 hs19; obtain⟨a9,c9,rfl,_⟩:=id hs19
 first | refine AtT.zK Tryz.underlying22 ?_ | refine AtT.zL Tryz.underlying22 ?_
 refine AtT.zf ?_
 refine AtT.zf ?_
 refine AtT.done ?_
 refine At.nrm ?_
 exact At.ret2 rfl (.tmp rfl) (.tmp rfl) ⟨l,e17,hsm,hx,rfl⟩
end Go.Proofs.YtfmmggphdeiajaaGreatDoor
end
section
set_option linter.unusedVariables false
namespace Go.Proofs.YtfmmggphdeiajaaGreatDoor
open Go.Lw Go.Gl Go.Bl Go.RowKit
abbrev sle (q:Option Addr×Nat×Nat):List Value:=[.slice q.1 q.2.1 q.2.2]
theorem sle_len (q:Option Addr×Nat×Nat):(sle q).length=1:=rfl
def SL (V:View) (v:Value) (ll:List (List Int)):Prop:=∃ qs:List (Option Addr×Nat×Nat),Sl V sle 1 v qs∧qs.length=ll.length∧∀ (i:Nat) (q:Option Addr×Nat×Nat) (l:List Int),qs[i]? = some q→ll[i]? = some l→SlI V (.slice q.1 q.2.1 q.2.2) l
theorem SL.le {V V':View} {v:Value} {ll:List (List Int)} (h:SL V v ll) (hl:Le V V'):SL V' v ll:=by
 obtain⟨qs,h1,h2,h3⟩:=h
 exact⟨qs,h1.le hl,h2,fun i q l a b=>(h3 i q l a b).le hl⟩
theorem SL.nil (V:View):SL V (.slice none 0 0) []:=⟨[],Sl.nil _ _ _,rfl,fun i q l h=>by simp at h⟩
theorem all_ok (ts:List Tq) (h:alE ts=0) (V:View) (v:Value) (hs:Sl V tqe 4 v ts):Fnc Tryz.prog 24 [v] V fun r V'=>∃ u l,r=.tuple #[u,iv 0]∧SmS (lsL ts) SrtL l∧SL V' u (l.map fun s=>ql s 15):=by
 refine zS Tryz.func24 rfl Tryz.ntmps24 (Nat.le_of_ble_eq_true rfl) ?_
 intro w0 hw0
 refine At.nrm ?_
 refine At.zh (.q 0 (.q 1 .done)) ?_
 refine AtT.zf ?_
 refine AtT.zf ?_
 refine AtT.done ?_
 refine At.nrm ?_
 refine At.zh (.q 0 (.n false 1 (.q 2 (.q 3 (.q 4 (.q 5 (.q 6 (.q 7 (.q 8 .done))))))))) ?_
 refine AtT.ze ?_
 refine AtT.jQ rfl rfl ok26 (explained_ok ts h _ _ hs) ?_
 rintro _ V1 hV1 ⟨p,u,l,rfl,hb,hl,hsm⟩
 refine AtT.ze ?_
 refine AtT.zI ?_
 refine AtT.zI ?_
 refine AtT.zI ?_
 refine AtT.zf ?_
 refine AtT.zf ?_
 refine AtT.zf ?_
 refine AtT.done ?_
 refine At.nrm ?_
 obtain⟨hne,hlt⟩:=sms_ne h hsm
 have hlen:l.length≤32768:=pigeonN hsm.nod hlt
 obtain⟨a,c,rfl,_⟩:=id hl
 refine At.zh (.q 0 .done) ?_
 refine AtT.zf ?_
 refine AtT.done ?_
 refine At.nrm ?_
 refine At.newRow 22 1 ?_
 refine At.zh (.q 0 (.q 1 (.q 2 .done))) ?_
 refine AtT.ze ?_
 first | refine AtT.zK Tryz.underlying69 ?_ | refine AtT.zL Tryz.underlying69 ?_
 refine AtT.ze ?_
 refine AtT.done ?_
 refine At.nrm ?_
 refine At.lp (ι:=Nat×List (Option Addr×Nat×Nat)×Option Addr×Nat) (KS:=fun g=>[(6,iv 0),(7,.slice g.2.2.1 g.2.1.length g.2.2.2),(16,.slice a l.length c),(17,iv l.length),(18,iv g.1)])
  (OS:=fun g=>[.row (.slice g.2.2.1 g.2.1.length g.2.2.2) 22 1 g.2.1.length (flat sle g.2.1)])
  (VS:=fun g V'=>Le V1 V'∧g.1≤l.length∧g.2.1.length=g.1∧∀ (i:Nat) (q:Option Addr×Nat×Nat) (x:Nat),g.2.1[i]? = some q→l[i]? = some x→SlI V' (.slice q.1 q.2.1 q.2.2) (ql x 15)) (μ:=fun g=>l.length-g.1) (0,[],none,0) ?_ ?_ ?_ ?_
 ·exact⟨rfl,rfl,rfl,rfl,rfl,trivial⟩
 ·exact Pt.zx
 ·exact⟨Le.refl _,Nat.zero_le _,rfl,fun i q x h=>(by simp at h)⟩
 rintro⟨k,qs,ao,co⟩ V' ks' O' ⟨hVV,hkl,hql,hqs⟩ hk hO hl2
 dsimp only at hkl hql hqs hk hO
 subst hk hO
 have hl':=hl.le hVV
 have hV0:=hV1.trans hVV
 refine At.nrm ?_
 refine At.zh (.q 0 .done) ?_
 refine AtT.qg ?_
 refine AtT.done ?_
 refine At.nrm ?_
 refine At.zZ rfl (fun hp=>?_) (fun hp=>?_)
 ·obtain⟨x,hx⟩:∃ x,l[k]? = some x:=⟨_,List.getElem?_eq_getElem (by omega)⟩
  have hxl:=hlt x (List.mem_of_getElem? hx)
  refine At.nrm ?_
  refine At.zh (.q 0 (.q 1 (.n false 2 (.n true 3 .done)))) ?_
  refine AtT.zU Tryz.underlying69 zY ?_
  intro p20 e20 he20 hc20
  obtain rfl:e20=x:=by have:l[k]? = some e20:=(by simpa using he20); rw[hx]at this; simpa using this.symm
  first | refine AtT.zB zY ?_ | refine AtT.zM zY ?_ | refine AtT.zA zY ?_
  refine AtT.qE z73 ?_
  intro b9
  refine AtT.qc zY ?_
  refine AtT.done ?_
  refine At.nrm ?_
  refine At.cutG (ι:=Option Addr×Nat×Option Addr×Nat×Nat) (fun g=>[(6,iv 0),(7,.slice g.1 (qs.length+1) g.2.1),(16,.slice a l.length c),(17,iv l.length),(18,iv k)])
   (fun g=>[.row (.slice g.1 (qs.length+1) g.2.1) 22 1 (qs.length+1) (flat sle qs++[.slice g.2.2.1 g.2.2.2.1 g.2.2.2.2])]) (fun g V''=>Le V' V''∧SlI V'' (.slice g.2.2.1 g.2.2.2.1 g.2.2.2.2) (ql e20 15)) ?_ ?_
  ·refine At.draw (.q 0 (.q 1 (.q 2 (.q 3 (.q 4 (.q 5 (.q 6 (.n false 7 (.n false 8 (.n true 9 (.q 10 .done))))))))))) ffm (by kernel_rfl) ?_
   refine AtT.ze ?_
   refine AtT.ze ?_
   first | refine AtT.zK Tryz.underlying30 ?_ | refine AtT.zL Tryz.underlying30 ?_
   refine AtT.ze ?_
   first | refine AtT.zK Tryz.underlying30 ?_ | refine AtT.zL Tryz.underlying30 ?_
   refine AtT.clipR rfl trivial Tryz.underlying30 zQ rfl zN.zx rfl rfl rfl rfl (by decide) ?_
   first | refine AtT.zB zY ?_ | refine AtT.zM zY ?_ | refine AtT.zA zY ?_
   refine AtT.jQ rfl rfl ok27 (list_f e20 (by omega) _) ?_
   rintro v29 V29 hV29 hs29; obtain⟨a9,c9,rfl,_⟩:=id hs29; have hV029:=hV0.trans hV29
   refine AtT.qi (bs30_1_0 _ _ _) ?_
   intro q30 V30 hV30 hq30
   have g30:Le V V30:=by first | exact hV30 | exact Le.trans (by assumption) hV30
   refine AtT.appendR rfl trivial Tryz.underlying30 rw22 rfl (by decide) rfl rfl zN.zx hq30 rfl (by decide) (by unfold maxLen; omega) (by omega) (by decide) (fun a31 c31=>?_)
   refine AtT.zf ?_
   refine AtT.done ?_
   refine At.nrm ?_
   all_goals (exact At.kH (a31,c31,a9,(ql e20 15).length,c9) ⟨by first | exact hV29.trans (by assumption) | exact hV29,hs29.le (by first | assumption | exact Le.refl _)⟩ ⟨rfl,rfl,rfl,rfl,rfl,trivial⟩ Pt.zx)
  rintro⟨a31,c31,a9,n9,c9⟩ V3 ks' O' ⟨hV3,hs9⟩ hk hO hl3
  dsimp only at hs9 hk hO
  subst hk hO
  refine At.nrm ?_
  refine At.zh (.q 0 (.q 1 .done)) ?_
  first | refine AtT.qm ?_ | refine AtT.zR ?_
  refine AtT.ze ?_
  refine AtT.done ?_
  refine At.nrm ?_
  refine At.round (k+1,qs++[(a9,n9,c9)],a31,c31) ?_ ?_ ?_ ?_
  ·show l.length-(k+1)<l.length-k; omega
  ·refine⟨hVV.trans hV3,by dsimp only; omega,by dsimp only; rw[List.length_append]; simp only[List.length_cons,List.length_nil]; omega,fun i q x hq hx'=>?_⟩
   by_cases hi:i<qs.length
   ·rw[List.getElem?_append_left hi]at hq
    exact(hqs i q x hq hx').le hV3
   ·rw[List.getElem?_append_right (by omega)]at hq
    have hii:i-qs.length=0:=by
     have:=(List.getElem?_eq_some_iff.1 hq).1
     simp only[List.length_cons,List.length_nil]at this; omega
    rw[hii]at hq
    simp at hq
    subst hq
    obtain rfl:i=k:=by omega
    rw[hx]at hx'; cases hx'
    exact hs9
  ·dsimp only; rw[List.length_append]; exact⟨rfl,rfl,rfl,rfl,ivs (by omega),trivial⟩
  dsimp only
  rw[qB,List.length_append]
  ·exact Pt.zx
 ·obtain rfl:k=l.length:=by omega
  refine At.nrm ?_
  refine At.giveSl (l:=qs) (m:=qs.length) sle_len rfl rfl zN.zx (fun V3 hV3 hs3=>?_)
  refine At.zh (.q 0 (.q 1 (.q 2 (.q 3 .done)))) ?_
  refine AtT.ze ?_
  refine AtT.ze ?_
  refine AtT.zf ?_
  refine AtT.zf ?_
  refine AtT.done ?_
  refine At.nrm ?_
  exact At.ret2 rfl (.tmp rfl) (.tmp rfl) ⟨_,l,rfl,hsm,qs,hs3,by rw[List.length_map]; exact hql,fun i q l' hq hl''=>by
   rw[List.getElem?_map]at hl''
   obtain⟨x,hx,rfl⟩:=Option.map_eq_some_iff.1 hl''
   exact(hqs i q x hq hx).le hV3⟩
end Go.Proofs.YtfmmggphdeiajaaGreatDoor
end
section
set_option linter.unusedVariables false
namespace Go.Bl
open Go.Gl Go.Lw Go.Sort
def stN (n k m:Nat):Nat:=((n / 2 ^ k) &&& m) ||| (((n &&& m)*2 ^ k) % 2 ^ 64)
theorem bits_andU {A B:Nat} (hA:A<2 ^ 64) (hB:B<2 ^ 64):Go.bits .and .u64 (A:Int) (B:Int)=((A &&& B:Nat):Int):=by
 show IntKind.u64.wrap (((BitVec.ofInt 64 (A:Int) &&& BitVec.ofInt 64 (B:Int)).toNat:Nat):Int)=_
 rw[BitVec.toNat_and,ofInt_u64 A hA,ofInt_u64 B hB,wrapU (Nat.lt_of_le_of_lt Nat.and_le_left hA)]
theorem bits_orU {A B:Nat} (hA:A<2 ^ 64) (hB:B<2 ^ 64):Go.bits .or .u64 (A:Int) (B:Int)=((A ||| B:Nat):Int):=by
 show IntKind.u64.wrap (((BitVec.ofInt 64 (A:Int) ||| BitVec.ofInt 64 (B:Int)).toNat:Nat):Int)=_
 rw[BitVec.toNat_or,ofInt_u64 A hA,ofInt_u64 B hB,wrapU (Nat.or_lt_two_pow hA hB)]
theorem wrapM (A:Nat):IntKind.u64.wrap (A:Int)=((A % 2 ^ 64:Nat):Int):=by
 simp[IntKind.wrap,IntKind.bits,IntKind.signed]
theorem stN_lt {n k m:Nat} (hm:m<2 ^ 64):stN n k m<2 ^ 64:=Nat.or_lt_two_pow (Nat.lt_of_le_of_lt Nat.and_le_right hm) (Nat.mod_lt _ (by decide))
theorem st_nat {n k m:Nat} (hn:n<2 ^ 64) (hm:m<2 ^ 64):stI (n:Int) ((2 ^ k:Nat):Int) (m:Int)=((stN n k m:Nat):Int):=by
 unfold stI
 rw[show((n:Int) / ((2 ^ k:Nat):Int))=((n / 2 ^ k:Nat):Int)from rfl,bits_andU (Nat.lt_of_le_of_lt (Nat.div_le_self _ _) hn) hm,bits_andU hn hm,←Int.natCast_mul,wrapM,
  bits_orU (Nat.lt_of_le_of_lt Nat.and_le_right hm) (Nat.mod_lt _ (by decide))]
 rfl
theorem or_mod (a b n:Nat):(a ||| b) % 2 ^ n=a % 2 ^ n ||| b % 2 ^ n:=by
 refine Nat.eq_of_testBit_eq fun i=>?_
 rw[Nat.testBit_or,Nat.testBit_mod_two_pow,Nat.testBit_mod_two_pow,Nat.testBit_mod_two_pow,Nat.testBit_or,Bool.and_or_distrib_left]
theorem or_div (a b k:Nat):(a ||| b) / 2 ^ k=a / 2 ^ k ||| b / 2 ^ k:=by
 rw[←Nat.shiftRight_eq_div_pow,←Nat.shiftRight_eq_div_pow,←Nat.shiftRight_eq_div_pow,Nat.shiftRight_or_distrib]
theorem or_mul (a b k:Nat):(a ||| b)*2 ^ k=a*2 ^ k ||| b*2 ^ k:=by
 rw[←Nat.shiftLeft_eq,←Nat.shiftLeft_eq,←Nat.shiftLeft_eq,Nat.shiftLeft_or_distrib]
theorem or_and (a b m:Nat):(a ||| b) &&& m=a &&& m ||| b &&& m:=Nat.and_or_distrib_right a b m
theorem or_four (a b c d:Nat):(a ||| b) ||| (c ||| d)=(a ||| c) ||| (b ||| d):=by
 refine Nat.eq_of_testBit_eq fun i=>?_
 simp only[Nat.testBit_or]
 cases a.testBit i<;>cases b.testBit i<;>cases c.testBit i<;>cases d.testBit i<;>rfl
theorem stN_or (a b k m:Nat):stN (a ||| b) k m=stN a k m ||| stN b k m:=by
 unfold stN
 rw[or_div,or_and,or_and,or_mul,or_mod,or_four]
def rvN (n:Nat):Nat:=
 let x:=stN (stN (stN (stN (stN n 1 6148914691236517205) 2 3689348814741910323) 4 1085102592571150095) 8 71777214294589695) 16 281470681808895
 (x / 2 ^ 32) ||| ((x*2 ^ 32) % 2 ^ 64)
theorem rvN_or (a b:Nat):rvN (a ||| b)=rvN a ||| rvN b:=by
 unfold rvN
 simp only[stN_or]
 rw[or_div,or_mul,or_mod,or_four]
theorem rv_nat {n:Nat} (hn:n<2 ^ 64):rvI (n:Int)=((rvN n:Nat):Int):=by
 have h1:=stN_lt (n:=n) (k:=1) (m:=6148914691236517205) (by decide)
 have e1:=st_nat (n:=n) (k:=1) (m:=6148914691236517205) hn (by decide)
 have h2:=stN_lt (n:=stN n 1 6148914691236517205) (k:=2) (m:=3689348814741910323) (by decide)
 have e2:=st_nat (k:=2) (m:=3689348814741910323) h1 (by decide)
 have h3:=stN_lt (n:=stN (stN n 1 6148914691236517205) 2 3689348814741910323) (k:=4) (m:=1085102592571150095) (by decide)
 have e3:=st_nat (k:=4) (m:=1085102592571150095) h2 (by decide)
 have h4:=stN_lt (n:=stN (stN (stN n 1 6148914691236517205) 2 3689348814741910323) 4 1085102592571150095) (k:=8) (m:=71777214294589695) (by decide)
 have e4:=st_nat (k:=8) (m:=71777214294589695) h3 (by decide)
 have h5:=stN_lt (n:=stN (stN (stN (stN n 1 6148914691236517205) 2 3689348814741910323) 4 1085102592571150095) 8 71777214294589695) (k:=16) (m:=281470681808895) (by decide)
 have e5:=st_nat (k:=16) (m:=281470681808895) h4 (by decide)
 unfold rvI rbI
 rw[show(2:Int)=((2 ^ 1:Nat):Int)from rfl,show(6148914691236517205:Int)=((6148914691236517205:Nat):Int)from rfl,e1,show(4:Int)=((2 ^ 2:Nat):Int)from rfl,show(3689348814741910323:Int)=((3689348814741910323:Nat):Int)from rfl,e2,
  show(16:Int)=((2 ^ 4:Nat):Int)from rfl,show(1085102592571150095:Int)=((1085102592571150095:Nat):Int)from rfl,e3,show(256:Int)=((2 ^ 8:Nat):Int)from rfl,show(71777214294589695:Int)=((71777214294589695:Nat):Int)from rfl,e4,
  show(65536:Int)=((2 ^ 16:Nat):Int)from rfl,show(281470681808895:Int)=((281470681808895:Nat):Int)from rfl,e5]
 rw[show(4294967296:Int)=((2 ^ 32:Nat):Int)from rfl,←Int.natCast_mul,wrapM]
 show Go.bits .or .u64 ((_ / 2 ^ 32:Nat):Int) _=_
 rw[bits_orU (Nat.lt_of_le_of_lt (Nat.div_le_self _ _) h5) (Nat.mod_lt _ (by decide))]
 rfl
def rvM (q:Nat→Bool):Nat→Nat
 | 0=>0
 | k+1=>if q k=true then rvM q k ||| 2 ^ (63-k)else rvM q k
theorem rvM_bit (q:Nat→Bool):∀ n,n≤15→∀ j,(rvM q n).testBit j=(decide (63<j+n∧j≤63) && q (63-j))
 | 0,_,j=>by simp[rvM]; omega
 | n+1,h,j=>by
  have ih:=rvM_bit q n (by omega) j
  simp only[rvM]
  by_cases c:j=63-n
  ·subst c
   have e:63-(63-n)=n:=by omega
   rw[e]at ih⊢
   have d1:decide (63<63-n+(n+1)∧63-n≤63)=true:=decide_eq_true (by omega)
   rw[d1,Bool.true_and]
   cases hq:q n with
   | true=>rw[if_pos rfl,Nat.testBit_or,Nat.testBit_two_pow]; simp
   | false=>rw[if_neg (by simp),ih,hq,Bool.and_false]
  ·have d1:decide (63<j+(n+1)∧j≤63)=decide (63<j+n∧j≤63):=by rw[decide_eq_decide]; omega
   rw[d1,←ih]
   split
   ·rw[Nat.testBit_or,Nat.testBit_two_pow,decide_eq_false (fun e=>c e.symm),Bool.or_false]
   ·rfl
theorem rvN_pow:∀ k,k<15→rvN (2 ^ k)=2 ^ (63-k):=by decide +kernel
theorem rvN_0:rvN 0=0:=by decide +kernel
theorem rvN_M (q:Nat→Bool):∀ n,n≤15→rvN (mkM q n)=rvM q n
 | 0,_=>rvN_0
 | n+1,h=>by
  have ih:=rvN_M q n (by omega)
  simp only[mkM,rvM]
  split
  ·rw[rvN_or,ih,rvN_pow n (by omega)]
  ·exact ih
theorem mkM_self {A:Nat} (h:A<32768):mkM A.testBit 15=A:=by
 refine Nat.eq_of_testBit_eq fun i=>?_
 rw[mkM_bit]
 by_cases c:i<15
 ·rw[decide_eq_true c,Bool.true_and]
 ·rw[decide_eq_false c,Bool.false_and,Nat.testBit_lt_two_pow (Nat.lt_of_lt_of_le (show A<2 ^ 15 by omega) (Nat.pow_le_pow_right (by decide) (by omega)))]
theorem rv_bit {A:Nat} (h:A<32768) (j:Nat):(rvN A).testBit j=(decide (63<j+15∧j≤63) && A.testBit (63-j)):=by
 have:=rvN_M A.testBit 15 (Nat.le_refl _)
 rw[mkM_self h]at this
 rw[this,rvM_bit _ _ (Nat.le_refl _)]
theorem lt_bit {x y i:Nat} (h1:x.testBit i=false) (h2:y.testBit i=true) (h3:∀ j,i<j→x.testBit j=y.testBit j):x<y:=by
 have e:x / 2 ^ (i+1)=y / 2 ^ (i+1):=by
  rw[←Nat.shiftRight_eq_div_pow,←Nat.shiftRight_eq_div_pow]
  refine Nat.eq_of_testBit_eq fun j=>?_
  rw[Nat.testBit_shiftRight,Nat.testBit_shiftRight]
  exact h3 _ (by omega)
 have a:x % 2 ^ (i+1)<2 ^ i:=Nat.lt_pow_two_of_testBit _ fun j hj=>by
  rw[Nat.testBit_mod_two_pow]
  by_cases c:j=i
  ·subst c; rw[h1,Bool.and_false]
  ·rw[decide_eq_false (by omega)]; rfl
 have b:2 ^ i≤y % 2 ^ (i+1):=Nat.ge_two_pow_of_testBit (by rw[Nat.testBit_mod_two_pow,h2,decide_eq_true (by omega)]; rfl)
 have c:=Nat.div_add_mod x (2 ^ (i+1))
 have d:=Nat.div_add_mod y (2 ^ (i+1))
 rw[e]at c
 omega
theorem lex_rv {A B:Nat} (hA:A<32768) (hB:B<32768) (h:LexB A B):rvN B<rvN A:=by
 obtain⟨i,h1,h2,h3⟩:=h
 have hi:=lt15_bit hA h1
 refine lt_bit (i:=63-i) ?_ ?_ fun j hj=>?_
 ·rw[rv_bit hB,show 63-(63-i)=i by omega,h2,Bool.and_false]
 ·rw[rv_bit hA,show 63-(63-i)=i by omega,h1,decide_eq_true (by omega)]; rfl
 ·rw[rv_bit hA,rv_bit hB]
  by_cases c:63<j+15∧j≤63
  ·rw[decide_eq_true c,Bool.true_and,Bool.true_and,h3 (63-j) (by omega)]
  ·rw[decide_eq_false c]; rfl
end Go.Bl
namespace Go.Proofs.YtfmmggphdeiajaaGreatDoor
open Go.Lw Go.Gl Go.Bl Go.RowKit Go.Sort
theorem lt_lex {s t:Nat} (hs:s<32768) (ht:t<32768):ltOf cfS s t=true↔LexB s t:=by
 have key:ltOf cfS s t=decide (rvN t<rvN s):=by
  unfold ltOf cfS
  rw[wrapM,wrapM,Nat.mod_eq_of_lt (by omega),Nat.mod_eq_of_lt (by omega),rv_nat (by omega),rv_nat (by omega)]
  unfold cpI
  rw[decide_eq_decide]
  split
  ·simp; omega
  ·split
   ·simp; omega
   ·simp; omega
 rw[key,decide_eq_true_eq]
 constructor
 ·intro h
  by_cases c:s=t
  ·subst c; omega
  ·rcases lex_tot c with h1 | h1
   ·exact h1
   ·have:=lex_rv ht hs h1; omega
 ·exact lex_rv hs ht
theorem srt_lex {l:List Nat} (hl:∀ x∈l,x<32768) (hn:l.Nodup) (h:SrtL l):l.Pairwise LexB:=by
 rw[List.pairwise_iff_getElem]
 intro i j hi hj hij
 have h1:=h i j _ _ hij (List.getElem?_eq_getElem hi) (List.getElem?_eq_getElem hj)
 have hne:l[i]≠l[j]:=fun e=>by
  have:=(List.nodup_iff_pairwise_ne.1 hn)
  rw[List.pairwise_iff_getElem]at this
  exact this i j hi hj hij e
 rcases lex_tot hne with h2 | h2
 ·exact h2
 ·rw[(lt_lex (hl _ (List.getElem_mem hj)) (hl _ (List.getElem_mem hi))).2 h2]at h1; cases h1
end Go.Proofs.YtfmmggphdeiajaaGreatDoor
end
section
set_option linter.unusedVariables false
namespace Go.Proofs.YtfmmggphdeiajaaGreatDoor
open Go.Lw Go.Gl Go.Bl Go.RowKit
theorem ls_no {ts:List Tq} (ht:∀ t∈ts,sndB t.p=true):∀ s∈lsL ts,mtB s (clA ts)=false:=fun s hs=>by
 rw[lsL_map]at hs
 obtain⟨t,h1,rfl⟩:=List.mem_map.1 hs
 have h2:=cbN_lt (ht t (List.mem_filter.1 h1).1)
 have h3:clA ts<32768:=clN_lt ht _
 cases c:mtB (clrB (cbN t.p) (clA ts)) (clA ts)with
 | false=>rfl
 | true=>
  obtain⟨i,a,b⟩:=(qH _ _).1 c
  rw[clrB_bit _ _ _ (by omega) (by omega),b]at a
  simp at a
end Go.Proofs.YtfmmggphdeiajaaGreatDoor
end
section
set_option linter.unusedVariables false
namespace Go.Proofs.YtfmmggphdeiajaaGreatDoor
open Go.Lw Go.Gl Go.Bl Go.RowKit
structure AlS (ts:List Tq) (L:List Nat):Prop where
 nod:L.Nodup
 ord:L.Pairwise LexB
 mem:∀ x,x∈L↔Ex (clA ts) (lsL ts) x∧∀ y,Ex (clA ts) (lsL ts) y→cnt x≤cnt y
theorem alS_uniq {ts:List Tq} {L M:List Nat} (h:AlS ts L) (k:AlS ts M):L=M:=lex_ext h.ord k.ord fun x=>by rw[h.mem,k.mem]
theorem sms_als {ts:List Tq} {l:List Nat} (h:alE ts=0) (hs:SmS (lsL ts) SrtL l):AlS ts l:=by
 obtain⟨h0,_⟩:=alE_zero h
 obtain⟨_,ht⟩:=trE_ok h0
 obtain⟨_,hlt⟩:=sms_ne h hs
 exact⟨hs.nod,srt_lex hlt hs.nod hs.srt,fun x=>by rw[hs.mem,gs_min (ls_no ht)]⟩
theorem als_lt {ts:List Tq} {L:List Nat} (h:AlS ts L):∀ x∈L,x<32768:=fun x hx=>((h.mem x).1 hx).1.1
theorem als_len {ts:List Tq} {L:List Nat} (h:AlS ts L):L.length≤32768:=pigeonN h.nod (als_lt h)
theorem fewestA (ts:List Tq) (h:alE ts=0) (V:View) (v:Value) (hs:Sl V tqe 4 v ts):Fnc Tryz.prog 14 [v] V fun r _=>∃ L x,AlS ts L∧L[0]? = some x∧r=.tuple #[iv (cnt x),iv 0]:=
 (fewest_ok ts h V v hs).mono fun r V' _ ⟨l,x,h1,h2,h3⟩=>⟨l,x,sms_als h h1,h2,h3⟩
theorem allA (ts:List Tq) (h:alE ts=0) (V:View) (v:Value) (hs:Sl V tqe 4 v ts):Fnc Tryz.prog 24 [v] V fun r V'=>∃ u L,r=.tuple #[u,iv 0]∧AlS ts L∧SL V' u (L.map fun s=>ql s 15):=
 (all_ok ts h V v hs).mono fun r V' _ ⟨u,l,h1,h2,h3⟩=>⟨u,l,h1,sms_als h h2,h3⟩
theorem explainedA (ts:List Tq) (h:alE ts=0) (V:View) (v:Value) (hs:Sl V tqe 4 v ts):Fnc Tryz.prog 26 [v] V fun r V'=>∃ p u L,r=.tuple #[.pointer (some p),u,iv 0]∧BcV V' p ts∧Sl V' ste 1 u L∧AlS ts L:=
 (explained_ok ts h V v hs).mono fun r V' _ ⟨p,u,l,h1,h2,h3,h4⟩=>⟨p,u,l,h1,h2,h3,sms_als h h4⟩
end Go.Proofs.YtfmmggphdeiajaaGreatDoor
end
section
namespace Go.Lw
section
variable {cx:Cx} {n:Nat} {ks:List (Nat×Value)} {O R O1:List Own} {V V1:View} {P:Program} {ops:Array Oper} {Qn:Act→World→Prop} {t:Tr}
theorem AtC.giveSl {α:Type} {enc:α→List Value} {v:Value} {e:TypeId} {s m:Nat} {xs:List Value} {l:List α} (he:∀ x,(enc x).length=s) (hx:xs=flat enc l) (hm:m=l.length) (hp:zN (.row v e s m xs) O R)
  (h:∀ V',Le V V'→Sl V' enc s v l→AtC cx n ks R V' O1 V1 P ops Qn t):AtC cx n ks O V O1 V1 P ops Qn t:=fun h0 a w hk hw=>by
 obtain⟨V',a',cap,h1,h2,h3,h4,h5,h6,h7,h8⟩:=(hw.pick hp).giveRow
 subst hx; subst hm; subst h3
 refine h V' h1 ?_ h0 a w hk h2
 cases a' with
 | none=>
  have hl:l=[]:=by cases l with | nil=>rfl | cons _ _=>exact absurd (h7 (by simp)) (by simp)
  subst hl
  exact⟨none,cap,rfl,h4,h5,fun h=>absurd rfl h,fun _ h=>by cases h⟩
 | some q=>exact Sl.of_cells he (h8 q rfl) h4 h5
end
theorem Lent.entry {V V1 V2:View} {ao:Option Addr} {co:Nat} {e:TypeId} {s m:Nat} {xs:List Value} (hl:Le V V1) (h:Lent V1 V2 ao co e s m xs):Lent V V2 ao co e s m xs:=by
 rcases h with h | ⟨b,rest,h1,h2,h3,h4,h5,h6,h7⟩
 ·exact .inl h
 ·exact .inr ⟨b,rest,h1,h2,h3,h4,h5,none_of hl h6,h7⟩
end Go.Lw
end
section
set_option linter.unusedVariables false
namespace Go.Proofs.YtfmmggphdeiajaaGreatDoor
open Go.Lw Go.Gl Go.Bl Go.RowKit
theorem arr_at {l:List Int} {i:Nat} {x:Int} (h:l[i]? = some x):(flat ei l)[i]? = some (iv x):=by rw[jg,List.getElem?_map,h]; rfl
theorem plain3:Tryz.prog.plainKey 3=true:=by kernel_rfl
theorem cells3:Tryz.prog.cellsOf 3=1:=by kernel_rfl
theorem eqItems3 (w:World) (l m:List Int):∀ is:List Nat,(∀ i∈is,i<l.length∧i<m.length)→(Op.eqItems 9999 3 1 (flat ei l).toArray (flat ei m).toArray is).run Tryz.prog w=.ok (is.all fun i=>decide (l.getD i 0=m.getD i 0)) w
 | [],_=>by simp[Op.eqItems]
 | i::is,h=>by
  obtain⟨h1,h2⟩:=h i (by simp)
  obtain⟨x,hx⟩:∃ x,l[i]? = some x:=⟨_,List.getElem?_eq_getElem h1⟩
  obtain⟨y,hy⟩:∃ y,m[i]? = some y:=⟨_,List.getElem?_eq_getElem h2⟩
  have ih:=eqItems3 w l m is fun j hj=>h j (by simp[hj])
  have p1:(part 3 (flat ei l).toArray (i*1)).run Tryz.prog w=.ok (iv x) w:=run_part_plain w plain3 (by rw[Nat.mul_one]; simpa using arr_at hx)
  have p2:(part 3 (flat ei m).toArray (i*1)).run Tryz.prog w=.ok (iv y) w:=run_part_plain w plain3 (by rw[Nat.mul_one]; simpa using arr_at hy)
  have e1:l.getD i 0=x:=by simp[List.getD,hx]
  have e2:m.getD i 0=y:=by simp[List.getD,hy]
  have p3:(Op.equalIn 9999 3 (iv x) (iv y)).run Tryz.prog w=.ok (x == y) w:=run_equalIn_int w 9998 3 .i64 .i64 x y Tryz.underlying3
  simp only[Op.eqItems,Sem.run_bind,p1,p2,p3,Result.andThen_ok,List.all_cons,e1,e2]
  by_cases c:x=y
  ·subst c
   simp[ih]
  ·simp[c]
theorem eqS107 (l m:List Int) (h1:l.length=15) (h2:m.length=15):EqS Tryz.prog 107 (flat ei l) (flat ei m) (decide (l=m)):=by
 refine⟨by first | exact Tryz.eqGuardType107 | kernel_rfl,fun w=>?_⟩
 obtain⟨i3,hi3,_⟩:∃ i,Tryz.prog.info? 3=some i∧True:=by
  obtain⟨i,hi,_⟩:=rowB_info rw3
  exact⟨i,hi,trivial⟩
 have hb:((List.range 15).all fun i=>decide (l.getD i 0=m.getD i 0))=decide (l=m):=by
  rw[Bool.eq_iff_iff,List.all_eq_true,decide_eq_true_eq]
  constructor
  ·intro h
   apply List.ext_getElem?
   intro i
   by_cases hi:i<15
   ·have:=of_decide_eq_true (h i (List.mem_range.2 hi))
    obtain⟨x,hx⟩:∃ x,l[i]? = some x:=⟨_,List.getElem?_eq_getElem (by omega)⟩
    obtain⟨y,hy⟩:∃ y,m[i]? = some y:=⟨_,List.getElem?_eq_getElem (by omega)⟩
    simp only[List.getD,hx,hy,Option.getD_some]at this
    rw[hx,hy,this]
   ·rw[List.getElem?_eq_none (by omega),List.getElem?_eq_none (by omega)]
  ·rintro rfl i _; simp
 rw[show(10000:Nat)=9999+1 from rfl,run_equalIn_array w 9999 _ _ Tryz.underlying107 hi3,cells3,eqItems3 w l m _ (fun i hi=>by rw[List.mem_range]at hi; omega),hb]
theorem slice101 (b:Nat) (w:World):(Instr.sliceAt 107 (.pointer (some ⟨b,0,none⟩)) none none none).run Tryz.prog w=.ok (.slice (some ⟨b,0,none⟩) 15 15) w:=by kernel_rfl
theorem tally_f (L:List Nat) (hlt:∀ x∈L,x<32768) (hlen:L.length≤32768) (V:View) (v:Value) (hs:Sl V ste 1 v L):Fnc Tryz.prog 62 [v] V fun r _=>r=.agg (flat ei (tlL L)).toArray:=by
 obtain⟨al,cl,rfl,hx1,hx2,_⟩:=id hs
 clear hx1 hx2
 refine zS Tryz.func62 rfl Tryz.ntmps62 (Nat.le_of_ble_eq_true rfl) ?_
 intro w0 hw0
 refine At.nrm ?_
 refine At.zh (.n false 0 .done) ?_
 refine AtT.qE z107 ?_
 intro b2
 refine AtT.done ?_
 refine At.nrm ?_
 refine At.zh (.n false 0 .done) ?_
 refine AtT.qE z107 ?_
 intro b3
 refine AtT.done ?_
 refine At.nrm ?_
 refine At.zh (.q 0 (.n true 1 .done)) ?_
 refine AtT.slV rfl trivial rfl (slice101 b3) (by decide) ?_
 refine AtT.clearO rfl trivial Tryz.underlying22 z3 rfl (by kernel_rfl) rfl rfl (by repeat first|exact Upd.here|apply Upd.there) ?_ (us:=flat ei (tlL (L.take 0)))
 refine AtT.done ?_
 refine At.nrm ?_
 refine At.zh (.q 0 (.q 1 (.q 2 .done))) ?_
 refine AtT.ze ?_
 first | refine AtT.zK Tryz.underlying69 ?_ | refine AtT.zL Tryz.underlying69 ?_
 refine AtT.ze ?_
 refine AtT.done ?_
 refine At.nrm ?_
 refine At.lp (ι:=Nat) (KS:=fun k=>[(2,.pointer (some ⟨b2,0,none⟩)),(3,.pointer (some ⟨b3,0,none⟩)),(9,.slice al L.length cl),(10,iv L.length),(11,iv k)])
  (OS:=fun k=>[.blk b2 (LC (flat ei (List.replicate 15 0)) 107),.blk b3 (LC (flat ei (tlL (L.take k))) 107)])
  (VS:=fun k V'=>Le V V'∧k≤L.length) (μ:=fun k=>L.length-k) 0 ?_ ?_ ?_ ?_
 ·exact⟨rfl,rfl,rfl,rfl,rfl,trivial⟩
 ·exact Pt.zx
 ·exact⟨Le.refl _,Nat.zero_le _⟩
 rintro k V' ks' O' ⟨hVV,hkl⟩ hk hO hl2
 subst hk hO
 have hsv:=hs.le hVV
 refine At.nrm ?_
 refine At.zh (.q 0 .done) ?_
 refine AtT.qg ?_
 refine AtT.done ?_
 refine At.nrm ?_
 refine At.zZ rfl (fun hp=>?_) (fun hp=>?_)
 rotate_left
 ·obtain rfl:k=L.length:=by omega
  rw[List.take_length]
  have hfl:(flat ei (tlL L)).length=15:=by rw[qa Lw.jd,tlL_len]
  have hall:(flat ei (tlL L)).all Value.oneCell'=true:=by rw[jg,List.all_map,List.all_eq_true]; intro x _; rfl
  refine At.nrm ?_
  refine At.zh (.q 0 (.n true 1 .done)) ?_
  refine AtT.loadOA rfl trivial rfl tk107 zN.zx hfl (by decide) ?_
  refine AtT.storeA rfl trivial rfl rfl tk107 hfl rfl hall (by repeat first|exact Upd.here|apply Upd.there) ?_
  refine AtT.done ?_
  refine At.nrm ?_
  exact At.zT rfl (.agg rfl tk107 zN.zx hfl) rfl
 obtain⟨x,hx⟩:∃ x,L[k]? = some x:=⟨_,List.getElem?_eq_getElem (by omega)⟩
 have hxb:=hlt x (List.mem_of_getElem? hx)
 have hbl:=cntK_le x 15
 unfold cntK at hbl
 refine At.nrm ?_
 refine At.cutG (ι:=Nat) (fun b5=>[(2,.pointer (some ⟨b2,0,none⟩)),(3,.pointer (some ⟨b3,0,none⟩)),(9,.slice al L.length cl),(10,iv L.length),(11,iv k),(5,.pointer (some ⟨b5,0,none⟩))]) (fun b5=>[.blk b5 (LC (ste x) 73),.blk b2 (LC (flat ei (List.replicate 15 0)) 107),.blk b3 (LC (flat ei (tlL (L.take k))) 107)]) (fun _ V''=>V''=V') ?_ ?_
 ·refine At.zh (.q 0 (.q 1 (.n false 2 (.n true 3 .done)))) ?_
  refine AtT.zU Tryz.underlying69 zY ?_
  intro p13 e13 he13 hc13
  obtain rfl:x=e13:=by have:L[k]? = some e13:=(by simpa using he13); rw[hx]at this; simpa using this
  first | refine AtT.zB zY ?_ | refine AtT.zM zY ?_ | refine AtT.zA zY ?_
  refine AtT.qE z73 ?_
  intro b5
  refine AtT.qc zY ?_
  refine AtT.done ?_
  refine At.nrm ?_
  all_goals (exact At.kH b5 rfl ⟨rfl,rfl,rfl,rfl,rfl,rfl,trivial⟩ Pt.zx)
 rintro b5 V4 ks' O' rfl hk hO hl4
 subst hk hO
 refine At.nrm ?_
 refine At.zh (.q 0 (.n false 1 (.q 2 (.q 3 .done)))) ?_
 first | refine AtT.zB zY ?_ | refine AtT.zM zY ?_ | refine AtT.zA zY ?_
 refine AtT.jQ rfl rfl ok27 (list_f x (by omega) _) ?_
 rintro v16 V16 hV16 hs16; obtain⟨a16,c16,rfl,_⟩:=id hs16
 first | refine AtT.zK Tryz.underlying22 ?_ | refine AtT.zL Tryz.underlying22 ?_
 refine AtT.ze ?_
 refine AtT.done ?_
 refine At.nrm ?_
 refine At.lp (ι:=Nat×List Int) (KS:=fun g=>[(2,.pointer (some ⟨b2,0,none⟩)),(3,.pointer (some ⟨b3,0,none⟩)),(9,.slice al L.length cl),(10,iv L.length),(11,iv k),(16,.slice a16 (ql x 15).length c16),(17,iv (ql x 15).length),(18,iv g.1)])
  (OS:=fun g=>[.blk b2 (LC (flat ei (List.replicate 15 0)) 107),.blk b3 (LC (flat ei g.2) 107)])
  (VS:=fun g V''=>Le V16 V''∧g.1≤(ql x 15).length∧TlI L k x g.1 g.2) (μ:=fun g=>(ql x 15).length-g.1) (0,tlL (L.take k)) ?_ ?_ ?_ ?_
 ·exact⟨rfl,rfl,rfl,rfl,rfl,rfl,rfl,rfl,trivial⟩
 ·exact Pt.zx
 ·exact⟨Le.refl _,Nat.zero_le _,tlI_start⟩
 rintro⟨j,g⟩ V5 ks' O' ⟨hV5,hjl,hti⟩ hk hO hl5
 dsimp only at hjl hti hk hO
 subst hk hO
 have hs5:=hs16.le hV5
 refine At.nrm ?_
 refine At.zh (.q 0 .done) ?_
 refine AtT.qg ?_
 refine AtT.done ?_
 refine At.nrm ?_
 refine At.zZ rfl (fun hp3=>?_) (fun hp3=>?_)
 rotate_left
 ·obtain rfl:j=(ql x 15).length:=by omega
  have hge:=tlI_end hx hti
  subst hge
  refine At.nrm ?_
  refine At.zh (.q 0 (.q 1 .done)) ?_
  first | refine AtT.qm ?_ | refine AtT.zR ?_
  refine AtT.ze ?_
  refine AtT.done ?_
  refine At.nrm ?_
  refine At.round (k+1) ?_ ?_ ?_ ?_
  ·show L.length-(k+1)<L.length-k; omega
  ·exact⟨(hVV.trans hV16).trans hV5,by omega⟩
  ·exact⟨rfl,rfl,rfl,rfl,ivs (by omega),trivial⟩
  ·exact Pt.zx
 obtain⟨z,hz⟩:∃ z,(ql x 15)[j]? = some z:=⟨_,List.getElem?_eq_getElem (by omega)⟩
 obtain⟨i,hi15,rfl,hib⟩:=jY.1 (List.mem_of_getElem? hz)
 have hgl:=hti.len
 obtain⟨y,hy⟩:∃ y,g[i]? = some y:=⟨_,List.getElem?_eq_getElem (by omega)⟩
 have hyb:=tlI_bd hti hy
 have hoff:0+(i:Int).toNat*1=i:=by simp
 have hat:(flat ei g)[0+(i:Int).toNat*1]? = some (iv y):=by rw[hoff]; exact arr_at hy
 have hgf:(flat ei g).length=15:=by rw[qa Lw.jd,hgl]
 have hset:(flat ei g).set (0+(i:Int).toNat*1) (iv (y+1))=flat ei (g.set i (y+1)):=by
  rw[hoff,jg,jg,List.map_set]
 refine At.nrm ?_
 refine At.zh (.q 0 (.q 1 (.q 2 .done))) ?_
 refine AtT.zU Tryz.underlying22 tk3 ?_
 intro p20 e20 he20 hc20
 obtain rfl:(i:Int)=e20:=by have:(ql x 15)[j]? = some e20:=(by simpa using he20); rw[hz]at this; simpa using this
 first | refine AtT.zk tk3 ?_ | refine AtT.zo tk3 ?_
 refine AtT.zf ?_
 refine AtT.done ?_
 refine At.nrm ?_
 refine At.zh (.q 0 (.q 1 (.q 2 (.q 3 (.q 4 (.n true 5 .done)))))) ?_
 refine AtT.ze ?_
 refine AtT.kidxA Tryz.underlying107 tk3 ?_
 refine AtT.loadO rfl trivial rfl tk3 zN.zx hat (by decide) ?_
 first | refine AtT.qm ?_ | refine AtT.zR ?_
 refine AtT.kidxA Tryz.underlying107 tk3 ?_
 refine AtT.store1 rfl trivial rfl rfl tk3 rfl rfl (by repeat first|exact Upd.here|apply Upd.there) (setAt_of (by rw[hoff,hgf]; exact hi15) hset) ?_
 refine AtT.done ?_
 refine At.nrm ?_
 refine At.zh (.q 0 (.q 1 .done)) ?_
 first | refine AtT.qm ?_ | refine AtT.zR ?_
 refine AtT.ze ?_
 refine AtT.done ?_
 refine At.nrm ?_
 refine At.round (j+1,g.set i (y+1)) ?_ ?_ ?_ ?_
 ·show(ql x 15).length-(j+1)<(ql x 15).length-j; omega
 ·exact⟨hV5,by dsimp only; omega,tlI_step hti hz hi15 hy⟩
 ·exact⟨rfl,rfl,rfl,rfl,rfl,rfl,rfl,ivs (by dsimp only; omega),trivial⟩
 ·exact Pt.zx
end Go.Proofs.YtfmmggphdeiajaaGreatDoor
end
section
set_option linter.unusedVariables false
namespace Go.Proofs.YtfmmggphdeiajaaGreatDoor
open Go.Lw Go.Gl Go.Bl Go.RowKit
theorem fails_f (L:List Nat) (hlt:∀ x∈L,x<32768) (hlen:L.length≤32768) (p:Pq) (hp:sndB p=true) (V:View) (v:Value) (hs:Sl V ste 1 v L):Fnc Tryz.prog 94 [v,pqv p] V fun r _=>r=iv (flN L p):=by
 obtain⟨al,cl,rfl,hx1,hx2,_⟩:=id hs
 clear hx1 hx2
 have hcb:=cbN_lt hp
 refine zS Tryz.func94 rfl Tryz.ntmps94 (Nat.le_of_ble_eq_true rfl) ?_
 intro w0 hw0
 refine At.nrm ?_
 refine At.zh (.n false 0 (.q 1 .done)) ?_
 refine AtT.jS ?_
 intro b3
 refine AtT.zf ?_
 refine AtT.done ?_
 refine At.nrm ?_
 refine At.zh (.q 0 .done) ?_
 refine AtT.zf ?_
 refine AtT.done ?_
 refine At.nrm ?_
 by_cases hz:tlL L=List.replicate 15 0
 ·refine At.zh (.q 0 (.n false 1 (.q 2 (.q 3 .done)))) ?_
  refine AtT.ze ?_
  refine AtT.zJ rfl rfl ok62 (tally_f L hlt hlen _ _ hs) ?_
  rintro _ rfl
  refine AtT.jk (bd107) ?_
  refine AtT.keqS (eqS107 (tlL L) (List.replicate 15 0) (tlL_len L) rfl) ?_
  refine AtT.done ?_
  refine At.nrm ?_
  refine At.qK rfl (decide_eq_true hz) ?_
  refine At.nrm ?_
  refine At.zh (.q 0 (.q 1 .done)) ?_
  refine AtT.ze ?_
  refine AtT.zf ?_
  refine AtT.done ?_
  refine At.nrm ?_
  exact At.zT rfl (.tmp rfl) (by rw[fl_none hp hz]; rfl)
 refine At.zh (.q 0 (.n false 1 (.q 2 (.q 3 .done)))) ?_
 refine AtT.ze ?_
 refine AtT.zJ rfl rfl ok62 (tally_f L hlt hlen _ _ hs) ?_
 rintro _ rfl
 refine AtT.jk (bd107) ?_
 refine AtT.keqS (eqS107 (tlL L) (List.replicate 15 0) (tlL_len L) rfl) ?_
 refine AtT.done ?_
 refine At.nrm ?_
 refine At.qf rfl (decide_eq_false hz) ?_
 refine At.nrm ?_
 refine At.zh (.q 0 (.n false 1 (.q 2 (.q 3 .done)))) ?_
 first | refine AtT.zB tk40 ?_ | refine AtT.zM tk40 ?_ | refine AtT.zA tk40 ?_
 refine AtT.zJ rfl rfl ok89 (causes_f p hp _) ?_
 rintro _ rfl
 refine AtT.kfn ?_
 refine AtT.zf ?_
 refine AtT.done ?_
 refine At.nrm ?_
 refine At.zh (.q 0 (.q 1 (.q 2 .done))) ?_
 refine AtT.ze ?_
 first | refine AtT.zK Tryz.underlying69 ?_ | refine AtT.zL Tryz.underlying69 ?_
 refine AtT.ze ?_
 refine AtT.done ?_
 refine At.nrm ?_
 refine At.lp (ι:=Nat) (KS:=fun k=>[(5,iv (flN (L.take k) p)),(6,.func (.func 31) #[stv (cbN p)] #[]),(17,.slice al L.length cl),(18,iv L.length),(19,iv k)])
  (OS:=fun k=>[])
  (VS:=fun k V'=>V'=V∧k≤L.length) (μ:=fun k=>L.length-k) 0 ?_ ?_ ?_ ?_
 ·exact⟨rfl,rfl,rfl,rfl,rfl,trivial⟩
 ·exact Pt.zx
 ·exact⟨rfl,Nat.zero_le _⟩
 rintro k V' ks' O' ⟨rfl,hkl⟩ hk hO hl2
 subst hk hO
 refine At.nrm ?_
 refine At.zh (.q 0 .done) ?_
 refine AtT.qg ?_
 refine AtT.done ?_
 refine At.nrm ?_
 refine At.zZ rfl (fun hp2=>?_) (fun hp2=>?_)
 rotate_left
 ·obtain rfl:k=L.length:=by omega
  rw[List.take_length]
  refine At.nrm ?_
  refine At.zh (.q 0 (.q 1 .done)) ?_
  refine AtT.ze ?_
  refine AtT.zf ?_
  refine AtT.done ?_
  refine At.nrm ?_
  exact At.zT rfl (.tmp rfl) rfl
 obtain⟨x,hx⟩:∃ x,L[k]? = some x:=⟨_,List.getElem?_eq_getElem (by omega)⟩
 have hxb:=hlt x (List.mem_of_getElem? hx)
 have hst:=flN_take (p:=p) hx
 have hfl:=flN_le (L.take k) p
 rw[List.length_take]at hfl
 have hmeet:Fnc Tryz.prog 31 ([stv (cbN p)]++[stv x]++[]) V' fun r _=>r=.bool (mtB (cbN p) x):=meets_f (cbN p) x (by omega) (by omega) V'
 refine At.nrmB ?_
 refine At.cutG (ι:=Unit) (fun _=>[(5,iv (flN (L.take (k+1)) p)),(6,.func (.func 31) #[stv (cbN p)] #[]),(17,.slice al L.length cl),(18,iv L.length),(19,iv k)]) (fun _=>[]) (fun _ V''=>V''=V') ?_ ?_
 ·refine At.nrm ?_
  refine At.zh (.q 0 (.q 1 (.n false 2 (.n true 3 .done)))) ?_
  refine AtT.zU Tryz.underlying69 zY ?_
  intro p21 e21 he21 hc21
  obtain rfl:x=e21:=by have:L[k]? = some e21:=(by simpa using he21); rw[hx]at this; simpa using this
  first | refine AtT.zB zY ?_ | refine AtT.zM zY ?_ | refine AtT.zA zY ?_
  refine AtT.qE z73 ?_
  intro b8
  refine AtT.qc zY ?_
  refine AtT.done ?_
  refine At.nrm ?_
  refine At.zh (.q 0 (.q 1 (.n false 2 .done))) ?_
  refine AtT.ze ?_
  first | refine AtT.zB zY ?_ | refine AtT.zM zY ?_ | refine AtT.zA zY ?_
  refine AtT.kcallV rfl rfl rfl ok31 (hmeet) ?_
  rintro _ rfl
  refine AtT.done ?_
  refine At.nrm ?_
  cases hm:mtB (cbN p) x with
  | true=>
   rw[hm,if_pos rfl]at hst
   refine At.qK rfl rfl ?_
   refine At.nrm ?_
   refine At.zh (.q 0 (.q 1 (.q 2 .done))) ?_
   refine AtT.ze ?_
   first | refine AtT.qm ?_ | refine AtT.zR ?_
   refine AtT.zf ?_
   refine AtT.done ?_
   refine At.nrm ?_
   refine At.kH () rfl ⟨?_,rfl,rfl,rfl,rfl,trivial⟩ Pt.zx
   exact ivs (by omega)
  | false=>
   rw[hm,if_neg (by decide)]at hst
   refine At.qf rfl rfl ?_
   refine At.nrm ?_
   refine At.kH () rfl ⟨?_,rfl,rfl,rfl,rfl,trivial⟩ Pt.zx
   exact ivs (by omega)
 rintro _ V3 ks' O' rfl hk hO hl3
 subst hk hO
 refine At.nrm ?_
 refine At.zh (.q 0 (.q 1 .done)) ?_
 first | refine AtT.qm ?_ | refine AtT.zR ?_
 refine AtT.ze ?_
 refine AtT.done ?_
 refine At.nrm ?_
 refine At.round (k+1) ?_ ?_ ?_ ?_
 ·show L.length-(k+1)<L.length-k; omega
 ·exact⟨rfl,by omega⟩
 ·exact⟨rfl,rfl,rfl,rfl,ivs (by omega),trivial⟩
 ·exact Pt.zx
def bmN (L:List Nat) (c:Nat):Int:=if tN L c=0 then 0 else if tN L c=L.length then 2 else 1
theorem index101 (l:List Int) (hl:l.length=15) (c:Nat) (x:Int) (h:l[c]? = some x) (w:World):(Instr.index 107 (.agg (flat ei l).toArray) (iv c)).run Tryz.prog w=.ok (iv x) w:=by
 have hc:c<15:=by have:=(List.getElem?_eq_some_iff.1 h).1; omega
 have h0:(0:Int)≤(c:Int)∧(c:Int)<((15:Nat):Int):=by omega
 have p1:(part 3 (flat ei l).toArray (c*1)).run Tryz.prog w=.ok (iv x) w:=run_part_plain w plain3 (by rw[Nat.mul_one]; simpa using arr_at h)
 simp only[Instr.index,run_underlying Tryz.underlying107,asIntOf,Sem.run_bind,Sem.run_pure,Result.andThen_ok,if_pos h0,Go.Lw.run_sizeOf tk3,Int.toNat_natCast]
 exact p1
theorem wi_one (c:Int):wi 0 14 [c]=decide (0≤c∧c≤14):=by
 simp only[wi,List.any_cons,List.any_nil,outB]
 by_cases h1:c<0<;>by_cases h2:14<c<;>simp[h1,h2]<;>omega
theorem blame_ok (ts:List Tq) (h2:alE ts=0) (c:Nat) (hc:c<15) (V:View) (v:Value) (hs:Sl V tqe 4 v ts):Fnc Tryz.prog 25 [v,iv c] V fun r _=>∃ L,AlS ts L∧r=.tuple #[iv (bmN L c),iv 0]:=by
 have h:=(alE_zero h2).1
 refine zS Tryz.func25 rfl Tryz.ntmps25 (Nat.le_of_ble_eq_true rfl) ?_
 intro w0 hw0
 refine At.nrm ?_
 refine At.zh (.q 0 (.q 1 .done)) ?_
 refine AtT.zf ?_
 refine AtT.zf ?_
 refine AtT.done ?_
 refine At.nrm ?_
 refine At.zh (.q 0 (.n false 1 (.q 2 .done))) ?_
 refine AtT.ze ?_
 refine AtT.zJ rfl rfl ok60 (trials_f ts _ _ hs) ?_
 rintro _ rfl; rw[h]
 refine AtT.zf ?_
 refine AtT.done ?_
 refine At.nrm ?_
 refine At.zh (.q 0 (.q 1 (.q 2 .done))) ?_
 refine AtT.ze ?_
 refine AtT.jV ?_
 refine AtT.zf ?_
 refine AtT.done ?_
 refine At.nrm ?_
 refine At.qf rfl (decide_eq_false (by simp)) ?_
 refine At.nrm ?_
 refine At.zh (.q 0 (.n false 1 (.n false 2 (.q 3 (.q 4 .done))))) ?_
 refine AtT.ze ?_
 refine AtT.qi (qX _) ?_
 intro q17 V17 hV17 hq17
 have g17:Le V V17:=by first | exact hV17 | exact Le.trans (by assumption) hV17
 refine AtT.zJ rfl rfl ok61 (within_f 0 14 [(c:Int)] _ _ (Sl.lit hq17 rfl (by simp))) ?_
 rintro _ rfl; rw[wi_one,decide_eq_true (by omega)]
 refine AtT.knot ?_
 refine AtT.zf ?_
 refine AtT.done ?_
 refine At.nrm ?_
 refine At.qf rfl rfl ?_
 refine At.nrm ?_
 refine At.zh (.q 0 (.n false 1 (.q 2 (.q 3 (.q 4 (.q 5 (.q 6 (.q 7 (.q 8 .done))))))))) ?_
 refine AtT.ze ?_
 refine AtT.jQ rfl rfl ok26 (explainedA ts h2 _ _ (hs.le hV17)) ?_
 rintro _ V20 hV20 ⟨q,u,L,rfl,hbc,hsl,hal⟩
 refine AtT.ze ?_
 refine AtT.zI ?_
 refine AtT.zI ?_
 refine AtT.zI ?_
 refine AtT.zf ?_
 refine AtT.zf ?_
 refine AtT.zf ?_
 refine AtT.done ?_
 refine At.nrm ?_
 obtain⟨a24,c24,rfl,k1,k2,_⟩:=id hsl
 clear k1 k2
 have htn:=tN_le L c
 refine At.zh (.q 0 (.q 1 .done)) ?_
 refine AtT.ze ?_
 refine AtT.jV ?_
 refine AtT.done ?_
 refine At.nrm ?_
 refine At.qf rfl (decide_eq_false (by simp)) ?_
 refine At.nrm ?_
 refine At.zh (.q 0 (.n false 1 (.q 2 (.q 3 .done)))) ?_
 refine AtT.ze ?_
 refine AtT.zJ rfl rfl ok62 (tally_f L (als_lt hal) (als_len hal) _ _ hsl) ?_
 rintro _ rfl
 refine AtT.ze ?_
 refine AtT.ixV rfl trivial rfl rfl (index101 (tlL L) (tlL_len L) c _ (tlL_at hc)) (by decide) ?_
 refine AtT.done ?_
 refine At.nrm ?_
 refine At.zh (.q 0 (.q 1 .done)) ?_
 refine AtT.jR ?_
 refine AtT.zf ?_
 refine AtT.done ?_
 refine At.nrm ?_
 refine At.zZ rfl (fun h3=>?_) (fun h3=>?_)
 ·refine At.nrm ?_
  refine At.zh (.q 0 (.q 1 .done)) ?_
  refine AtT.zf ?_
  refine AtT.zf ?_
  refine AtT.done ?_
  refine At.nrm ?_
  exact At.ret2 rfl (.tmp rfl) (.tmp rfl) ⟨L,hal,by unfold bmN; rw[if_pos (by omega)]⟩
 refine At.nrm ?_
 refine At.zh (.q 0 (.q 1 (.q 2 (.q 3 .done)))) ?_
 refine AtT.ze ?_
 first | refine AtT.zK Tryz.underlying69 ?_ | refine AtT.zL Tryz.underlying69 ?_
 refine AtT.jR ?_
 refine AtT.zf ?_
 refine AtT.done ?_
 refine At.nrm ?_
 refine At.zZ rfl (fun h4=>?_) (fun h4=>?_)
 ·refine At.nrm ?_
  refine At.zh (.q 0 (.q 1 .done)) ?_
  refine AtT.zf ?_
  refine AtT.zf ?_
  refine AtT.done ?_
  refine At.nrm ?_
  exact At.ret2 rfl (.tmp rfl) (.tmp rfl) ⟨L,hal,by unfold bmN; rw[if_neg (by omega),if_pos (by omega)]⟩
 refine At.nrm ?_
 refine At.zh (.q 0 (.q 1 .done)) ?_
 refine AtT.zf ?_
 refine AtT.zf ?_
 refine AtT.done ?_
 refine At.nrm ?_
 exact At.ret2 rfl (.tmp rfl) (.tmp rfl) ⟨L,hal,by unfold bmN; rw[if_neg (by omega),if_neg (by omega)]⟩
end Go.Proofs.YtfmmggphdeiajaaGreatDoor
end
section
set_option linter.unusedVariables false
namespace Go.Bl
open Go.Gl Go.Lw
theorem clN_bit {ts:List Tq} {i:Nat} : ∀ k,k≤ts.length→((clN ts k).testBit i=true↔∃ t∈ts.take k,t.f=false∧(cbN t.p).testBit i=true)
 | 0,_=>by simp[clN]
 | k+1,h=>by
  obtain⟨t,ht⟩:∃ t,ts[k]? = some t:=⟨_,List.getElem?_eq_getElem (by omega)⟩
  have ih:=clN_bit (ts:=ts) (i:=i) k (by omega)
  rw[clN_at ht,take_snoc' ht]
  by_cases c:t.f=false
  ·rw[if_pos c,Nat.testBit_or,Bool.or_eq_true,ih]
   constructor
   ·rintro(⟨u,h1,h2⟩ | h1)
    ·exact⟨u,List.mem_append_left _ h1,h2⟩
    ·exact⟨t,by simp,c,h1⟩
   ·rintro⟨u,h1,h2,h3⟩
    rcases List.mem_append.1 h1 with h1 | h1
    ·exact .inl ⟨u,h1,h2,h3⟩
    ·rw[List.mem_singleton]at h1; subst h1; exact .inr h3
  ·rw[if_neg c,ih]
   constructor
   ·rintro⟨u,h1,h2⟩; exact⟨u,List.mem_append_left _ h1,h2⟩
   ·rintro⟨u,h1,h2,h3⟩
    rcases List.mem_append.1 h1 with h1 | h1
    ·exact⟨u,h1,h2,h3⟩
    ·rw[List.mem_singleton]at h1; subst h1; exact absurd h2 c
theorem clA_bit {ts:List Tq} {i:Nat} : (clA ts).testBit i=true↔∃ t∈ts,t.f=false∧(cbN t.p).testBit i=true:=by
 have:=clN_bit (ts:=ts) (i:=i) ts.length (Nat.le_refl _)
 rw[List.take_length]at this; exact this
theorem clr_bit {ts:List Tq} {t:Tq} {no i:Nat} (ht:sndB t.p=true) (hn:no<32768):(clrB (cbN t.p) no).testBit i=((cbN t.p).testBit i && !no.testBit i):=by
 have:=cbN_lt ht
 exact clrB_bit _ _ _ (by omega) (by omega)
def ExT (ts:List Tq) (x:Nat):Prop:=x<32768∧∀ t∈ts,mtB x (cbN t.p)=t.f
theorem ex_ext {ts:List Tq} (ht:∀ t∈ts,sndB t.p=true) {x:Nat} : Ex (clA ts) (lsL ts) x↔ExT ts x:=by
 have hno:clA ts<32768:=clN_lt ht _
 constructor
 ·rintro⟨h1,h2,h3⟩
  refine⟨h1,fun t hm=>?_⟩
  cases c:t.f with
  | false=>
   refine mt_no fun i hi=>?_
   cases d:(cbN t.p).testBit i with
   | false=>rfl
   | true=>rw[(qH x (clA ts)).2 ⟨i,hi,clA_bit.2 ⟨t,hm,c,d⟩⟩]at h2; cases h2
  | true=>
   have hs:clrB (cbN t.p) (clA ts)∈lsL ts:=by rw[lsL_map]; exact List.mem_map.2 ⟨t,List.mem_filter.2 ⟨hm,c⟩,rfl⟩
   obtain⟨i,a,b⟩:=(qH _ _).1 (h3 _ hs)
   rw[clr_bit (ts:=ts) (ht t hm) hno,Bool.and_eq_true]at b
   exact(qH _ _).2 ⟨i,a,b.1⟩
 ·rintro⟨h1,h2⟩
  have hz:∀ i,x.testBit i=true→(clA ts).testBit i=false:=fun i hi=>by
   cases d:(clA ts).testBit i with
   | false=>rfl
   | true=>
    obtain⟨t,hm,hf,hb⟩:=clA_bit.1 d
    have:=h2 t hm
    rw[hf,(qH _ _).2 ⟨i,hi,hb⟩]at this; cases this
  refine⟨h1,mt_no hz,fun s hs=>?_⟩
  rw[lsL_map]at hs
  obtain⟨t,hm,rfl⟩:=List.mem_map.1 hs
  obtain⟨hm,hf⟩:=List.mem_filter.1 hm
  have:=h2 t hm
  rw[show t.f=true from hf]at this
  obtain⟨i,a,b⟩:=(qH _ _).1 this
  exact(qH _ _).2 ⟨i,a,by rw[clr_bit (ts:=ts) (ht t hm) hno,b,hz i a]; rfl⟩
structure AlT (ts:List Tq) (L:List Nat):Prop where
 nod:L.Nodup
 ord:L.Pairwise LexB
 mem:∀ x,x∈L↔ExT ts x∧∀ y,ExT ts y→cnt x≤cnt y
theorem kw {ts:List Tq} {x i:Nat} (h:ExT ts x) (hi:i<15) (hc:(clA ts).testBit i=false):ExT ts (x ||| 2 ^ i):=by
 refine⟨or_lt15 h.1 hi,fun t ht=>?_⟩
 have h0:=h.2 t ht
 cases c:t.f with
 | true=>
  rw[c]at h0
  obtain⟨j,a,b⟩:=(qH _ _).1 h0
  exact(qH _ _).2 ⟨j,by rw[Nat.testBit_or,a]; rfl,b⟩
 | false=>
  rw[c]at h0
  refine mt_no fun j hj=>?_
  rw[Nat.testBit_or,Bool.or_eq_true,Nat.testBit_two_pow,decide_eq_true_eq]at hj
  rcases hj with hj | rfl
  ·exact mtB_no h0 hj
  ·cases d:(cbN t.p).testBit i with
   | false=>rfl
   | true=>rw[clA_bit.2 ⟨t,ht,c,d⟩]at hc; cases hc
end Go.Bl
end
section
set_option linter.unusedVariables false
namespace Go.Bl
open Go.Gl Go.Lw
structure OneG (ts:List Tq) (c:Nat):Prop where
 c15:c<15
 snd:∀ t∈ts,sndB t.p=true
 len:ts.length≤16
 bad:∀ t∈ts,t.f=(cbN t.p).testBit c
 some:∃ t∈ts,t.f=true
theorem mt_pow (c A:Nat):mtB (2 ^ c) A=A.testBit c:=by
 rw[Bool.eq_iff_iff,qH]
 constructor
 ·rintro⟨i,h1,h2⟩
  rw[Nat.testBit_two_pow,decide_eq_true_eq]at h1
  subst h1; exact h2
 ·intro h
  exact⟨c,by simp[Nat.testBit_two_pow],h⟩
variable {ts:List Tq} {c:Nat}
theorem OneG.tr (h:OneG ts c):trE ts=0:=by
 unfold trE
 rw[if_neg (by have:=h.len; omega),if_neg]
 rw[Bool.not_eq_true,List.any_eq_false]
 intro t ht
 unfold badT
 rw[h.snd t ht]
 decide
theorem OneG.ex (h:OneG ts c):ExT ts (2 ^ c):=⟨Nat.lt_of_le_of_lt (Nat.pow_le_pow_right (n:=2) (by decide) (show c≤14 by have:=h.c15; omega)) (by decide),fun t ht=>by
 rw[mt_pow,h.bad t ht]⟩
theorem OneG.al (h:OneG ts c):alE ts=0:=by
 refine alE_ok h.tr ?_
 rw[List.any_eq_false]
 intro s hs hz
 have hz:s=0:=by simpa using hz
 have:=((ex_ext h.snd).2 h.ex).2.2 s hs
 subst hz
 unfold mtB at this
 simp at this
theorem cnt_pow (hc:c<15):cnt (2 ^ c)=1:=by
 have:=cnt_or (A:=0) (i:=c) (by simp) (by omega)
 rw[Nat.zero_or,cnt_zero]at this
 exact this
theorem OneG.ne (h:OneG ts c) {x:Nat} (hx:ExT ts x):1≤cnt x:=by
 rcases Nat.eq_zero_or_pos (cnt x)with h0 | h0
 ·obtain⟨t,ht,hf⟩:=h.some
  have h1:=hx.2 t ht
  rw[hf]at h1
  obtain⟨i,h2,_⟩:=(qH _ _).1 h1
  have hi:=lt15_bit hx.1 h2
  have:(i:Int)∈ql x 15:=jY.2 ⟨i,hi,rfl,h2⟩
  unfold cnt cntK at h0
  rw[List.eq_nil_of_length_eq_zero h0]at this
  cases this
 ·exact h0
theorem OneG.mem (h:OneG ts c) {L:List Nat} (hA:AlT ts L):2 ^ c∈L∧∀ x∈L,cnt x=1:=by
 refine⟨(hA.mem _).2 ⟨h.ex,fun y hy=>by rw[cnt_pow h.c15]; exact h.ne hy⟩,fun x hx=>?_⟩
 obtain⟨h1,h2⟩:=(hA.mem x).1 hx
 have h3:=h2 _ h.ex
 rw[cnt_pow h.c15]at h3
 have:=h.ne h1
 omega
theorem OneG.only (h:OneG ts c) {L:List Nat} (hA:AlT ts L) {x:Nat} (hx:x∈L) (hb:x.testBit c=true):x=2 ^ c:=by
 have h1:=((hA.mem x).1 hx).1
 refine(sub_eq (A:=2 ^ c) (B:=x) (fun i hi=>?_) h.ex.1 h1.1 ?_).symm
 ·rw[Nat.testBit_two_pow,decide_eq_true_eq]at hi
  subst hi; exact hb
 ·rw[cnt_pow h.c15,(h.mem hA).2 x hx]; exact Nat.le_refl _
theorem OneG.may (h:OneG ts c) {L:List Nat} (hA:AlT ts L):tN L c≠0∧(tN L c=L.length↔L.length=1):=by
 obtain⟨h1,h2⟩:=h.mem hA
 have hb:(2 ^ c).testBit c=true:=by simp[Nat.testBit_two_pow]
 refine⟨fun e=>(by rw[tN_zero.1 e _ h1]at hb; cases hb),?_⟩
 rw[tN_all]
 constructor
 ·intro hall
  have hall:∀ x∈L,x=2 ^ c:=fun x hx=>h.only hA hx (hall x hx)
  have nod:=hA.nod
  match L,h1,nod,hall with
  | [x],_,_,_=>rfl
  | x::y::L,_,nod,hall=>
   have e1:=hall x (by simp)
   have e2:=hall y (by simp)
   rw[e1,e2]at nod
   simp at nod
 ·intro hl
  match L,hl,h1 with
  | [y],_,h1=>
   obtain rfl:2 ^ c=y:=by simpa using h1
   intro x hx
   obtain rfl:x=2 ^ c:=by simpa using hx
   exact hb
theorem OneG.cc (h:OneG ts c):ccR ts [(c:Int)]=0:=by
 have hbt:btL [(c:Int)]=2 ^ c:=by
  show 0 ||| 2 ^ ((c:Int)).toNat=2 ^ c
  rw[Nat.zero_or,Int.toNat_natCast]
 obtain⟨e1,e2,e3⟩:=(ex_ext h.snd).2 h.ex
 refine ccR_ok h.tr ?_ ?_ ?_
 ·have:=h.c15
  match c,this with
  | 0,_=>decide
  | 1,_=>decide
  | 2,_=>decide
  | 3,_=>decide
  | 4,_=>decide
  | 5,_=>decide
  | 6,_=>decide
  | 7,_=>decide
  | 8,_=>decide
  | 9,_=>decide
  | 10,_=>decide
  | 11,_=>decide
  | 12,_=>decide
  | 13,_=>decide
  | 14,_=>decide
  | n+15,h=>omega
 ·rw[hbt]
  unfold mtB at e2
  simpa using e2
 ·rw[hbt,ex_ls,List.all_eq_true]
  exact e3
structure NoF (ts:List Tq):Prop where
 snd:∀ t∈ts,sndB t.p=true
 len:ts.length≤16
 no:∀ t∈ts,t.f=false
theorem NoF.tr (h:NoF ts):trE ts=0:=by
 unfold trE
 rw[if_neg (by have:=h.len; omega),if_neg]
 rw[Bool.not_eq_true,List.any_eq_false]
 intro t ht
 unfold badT
 rw[h.snd t ht]
 decide
theorem mt_zero (A:Nat):mtB 0 A=false:=by unfold mtB; simp
theorem NoF.ex (h:NoF ts):ExT ts 0:=⟨by decide,fun t ht=>by rw[mt_zero,h.no t ht]⟩
theorem NoF.al (h:NoF ts):alE ts=0:=by
 refine alE_ok h.tr ?_
 rw[List.any_eq_false]
 intro s hs hz
 have hz:s=0:=by simpa using hz
 have:=((ex_ext h.snd).2 h.ex).2.2 s hs
 subst hz
 unfold mtB at this
 simp at this
theorem NoF.cnt (h:NoF ts) {L:List Nat} (hA:AlT ts L) {x:Nat} (hx:x∈L):cnt x=0:=by
 have:=((hA.mem x).1 hx).2 0 h.ex
 rw[cnt_zero]at this
 omega
theorem NoF.cc (h:NoF ts):ccR ts []=0:=by
 obtain⟨e1,e2,e3⟩:=(ex_ext h.snd).2 h.ex
 refine ccR_ok h.tr (by decide) ?_ ?_
 ·show 0 &&& _=0
  rw[Nat.zero_and]
 ·rw[show btL ([]:List Int)=0 from rfl,ex_ls,List.all_eq_true]
  exact e3
end Go.Bl
end
section
set_option linter.unusedVariables false
namespace Go.Proofs.YtfmmggphdeiajaaGreatDoor
open Go.Lw Go.Gl Go.Bl Go.RowKit
theorem als_alt {ts:List Tq} {L:List Nat} (h0:trE ts=0) (h:AlS ts L):AlT ts L:=by
 obtain⟨_,ht⟩:=trE_ok h0
 refine⟨h.nod,h.ord,fun x=>?_⟩
 rw[h.mem,ex_ext ht]
 constructor
 ·rintro⟨a,b⟩; exact⟨a,fun y hy=>b y ((ex_ext ht).2 hy)⟩
 ·rintro⟨a,b⟩; exact⟨a,fun y hy=>b y ((ex_ext ht).1 hy)⟩
theorem blamed_f (ts:List Tq) (c:Nat) (h1:OneG ts c) (V:View) (v:Value) (hs:Sl V tqe 4 v ts):Fnc Tryz.prog 13 [v,iv c] V fun r _=>r=.bool true:=by
 have hc15:c<15:=by have:=h1.c15; omega
 obtain⟨a,cc,rfl,k1,k2,_⟩:=id hs
 clear k1 k2
 refine zS Tryz.func13 rfl Tryz.ntmps13 (Nat.le_of_ble_eq_true rfl) ?_
 intro w0 hw0
 refine At.nrm ?_
 refine At.zh (.q 0 .done) ?_
 refine AtT.zf ?_
 refine AtT.done ?_
 refine At.nrm ?_
 refine At.zh (.q 0 (.n false 1 (.q 2 (.q 3 (.q 4 (.q 5 (.q 6 .done))))))) ?_
 refine AtT.ze ?_
 refine AtT.zJ rfl rfl ok14 (fewestA ts h1.al _ _ hs) ?_
 rintro _ ⟨L,x,hA,hx,rfl⟩
 refine AtT.ze ?_
 refine AtT.zI ?_
 refine AtT.zI ?_
 refine AtT.zf ?_
 refine AtT.zf ?_
 refine AtT.done ?_
 refine At.nrm ?_
 refine At.zh (.q 0 (.n false 1 (.q 2 (.q 3 (.q 4 (.q 5 (.q 6 .done))))))) ?_
 refine AtT.ze ?_
 refine AtT.jQ rfl rfl ok24 (allA ts h1.al _ _ hs) ?_
 rintro _ V20 hV20 ⟨u,L2,rfl,hA2,hsl⟩; obtain rfl:=alS_uniq hA2 hA
 refine AtT.ze ?_
 refine AtT.zI ?_
 refine AtT.zI ?_
 refine AtT.zf ?_
 refine AtT.zf ?_
 refine AtT.done ?_
 refine At.nrm ?_
 refine At.zh (.q 0 (.q 1 (.n false 2 (.q 3 (.q 4 (.q 5 (.q 6 (.q 7 .done)))))))) ?_
 refine AtT.ze ?_
 refine AtT.ze ?_
 refine AtT.zJ rfl rfl ok25 (blame_ok ts h1.al c hc15 _ _ (hs.le hV20)) ?_
 rintro _ ⟨L3,hA3,rfl⟩; obtain rfl:=alS_uniq hA3 hA2
 refine AtT.ze ?_
 refine AtT.zI ?_
 refine AtT.zI ?_
 refine AtT.zf ?_
 refine AtT.zf ?_
 refine AtT.done ?_
 refine At.nrm ?_
 have hT:=als_alt h1.tr hA2
 obtain⟨m1,m2⟩:=h1.mem hT
 have hcx:cnt x=1:=m2 x (List.mem_of_getElem? hx)
 obtain⟨n1,n2⟩:=h1.may hT
 obtain⟨qs,hq,hql,hqi⟩:=hsl
 obtain⟨aq,cq,rfl,k1,k2,_⟩:=id hq
 clear k1 k2
 have hll:qs.length=L3.length:=by rw[hql,List.length_map]
 have hbm:(bmN L3 c=2∧qs.length=1)∨(bmN L3 c=1∧qs.length≠1):=by
  unfold bmN
  rw[if_neg n1,hll]
  by_cases d:L3.length=1
  ·rw[if_pos (n2.2 d)]; exact .inl ⟨rfl,d⟩
  ·rw[if_neg (fun e=>d (n2.1 e))]; exact .inr ⟨rfl,d⟩
 have hpow:∀ s,s∈L3→(ql s 15=[(c:Int)]↔s=2 ^ c):=fun s hs'=>by
  have e:ql (2 ^ c) 15=[(c:Int)]:=by
   have:=h1.c15
   match c,this with
   | 0,_=>decide
   | 1,_=>decide
   | 2,_=>decide
   | 3,_=>decide
   | 4,_=>decide
   | 5,_=>decide
   | 6,_=>decide
   | 7,_=>decide
   | 8,_=>decide
   | 9,_=>decide
   | 10,_=>decide
   | 11,_=>decide
   | 12,_=>decide
   | 13,_=>decide
   | 14,_=>decide
   | n+15,h=>omega
  constructor
  ·intro h
   rw[←e]at h
   have h2:=congrArg btL h
   rw[btL_bitL (((hT.mem s).1 hs').1.1),btL_bitL h1.ex.1]at h2
   exact h2
  ·rintro rfl; exact e
 rw[hcx]
 refine At.cutG (ι:=Unit) (fun _=>[(0,.slice a ts.length cc),(1,iv c),(7,.slice aq qs.length cq),(54,.bool false)]) (fun _=>[]) (fun _ V'=>V20=V') ?_ ?_
 ·rcases hbm with ⟨b1,b2⟩ | ⟨b1,b2⟩
  ·rw[b1]
   refine At.zh (.q 0 (.q 1 (.q 2 (.q 3 (.q 4 (.q 5 (.q 6 (.q 7 (.q 8 (.q 9 (.q 10 (.q 11 (.q 12 (.q 13 (.q 14 (.q 15 (.q 16 (.q 17 (.q 18 (.q 19 (.q 20 (.q 21 (.q 22 (.q 23 (.q 24 (.q 25 .done)))))))))))))))))))))))))) ?_
   refine AtT.ze ?_
   refine AtT.jV ?_
   refine AtT.qA (d:=30) rfl ((by simp)) ?_
   refine AtT.ze ?_
   all_goals (first | refine AtT.kL 31 ?_ | refine AtT.zD (d:=31) rfl (fun hg31=>?_) (fun hg31=>?_) | refine AtT.zC (d:=31) rfl (fun hg31=>?_) (fun hg31=>?_))
   all_goals first|refine AtT.zi ?_|refine AtT.zg ?_|(refine AtT.ze ?_)
   all_goals first|refine AtT.zi ?_|refine AtT.zg ?_|(refine AtT.jV ?_)
   all_goals (refine AtT.qA (d:=33) rfl ((by simp)) ?_)
   all_goals (refine AtT.zF ?_)
   all_goals (refine AtT.ze ?_)
   all_goals (first | refine AtT.kL 35 ?_ | refine AtT.zD (d:=35) rfl (fun hg35=>?_) (fun hg35=>?_) | refine AtT.zC (d:=35) rfl (fun hg35=>?_) (fun hg35=>?_))
   all_goals first|refine AtT.zi ?_|refine AtT.zg ?_|(refine AtT.ze ?_)
   all_goals first|refine AtT.zi ?_|refine AtT.zg ?_|(refine AtT.jV ?_)
   all_goals (refine AtT.qA (d:=37) rfl ((by simp)) ?_)
   all_goals (refine AtT.zF ?_)
   all_goals (refine AtT.ze ?_)
   all_goals (first | refine AtT.kL 39 ?_ | refine AtT.zD (d:=39) rfl (fun hg39=>?_) (fun hg39=>?_) | refine AtT.zC (d:=39) rfl (fun hg39=>?_) (fun hg39=>?_))
   all_goals first|refine AtT.zi ?_|refine AtT.zg ?_|(refine AtT.ze ?_)
   all_goals first|refine AtT.zi ?_|refine AtT.zg ?_|(refine AtT.jV ?_)
   all_goals (refine AtT.qA (d:=41) rfl ((by simp)) ?_)
   all_goals (refine AtT.zF ?_)
   all_goals (refine AtT.ze ?_)
   all_goals (first | refine AtT.kL 43 ?_ | refine AtT.zD (d:=43) rfl (fun hg43=>?_) (fun hg43=>?_) | refine AtT.zC (d:=43) rfl (fun hg43=>?_) (fun hg43=>?_))
   all_goals first|refine AtT.zi ?_|refine AtT.zg ?_|(refine AtT.ze ?_)
   all_goals first|refine AtT.zi ?_|refine AtT.zg ?_|(refine AtT.jR ?_)
   all_goals (refine AtT.qA (d:=45) rfl ((by simp)) ?_)
   all_goals (refine AtT.zF ?_)
   all_goals (refine AtT.ze ?_)
   all_goals (first | refine AtT.kL 47 ?_ | refine AtT.zD (d:=47) rfl (fun hg47=>?_) (fun hg47=>?_) | refine AtT.zC (d:=47) rfl (fun hg47=>?_) (fun hg47=>?_))
   all_goals first|refine AtT.zi ?_|refine AtT.zg ?_|(refine AtT.ze ?_)
   all_goals first|refine AtT.zi ?_|refine AtT.zg ?_|(refine AtT.jR ?_)
   all_goals (refine AtT.jv (d:=49) rfl ((by simp)) ?_)
   all_goals first|refine AtT.zi ?_|refine AtT.zg ?_|(refine AtT.ze ?_)
   all_goals first|refine AtT.zi ?_|refine AtT.zg ?_|(first | refine AtT.zK Tryz.underlying30 ?_ | refine AtT.zL Tryz.underlying30 ?_)
   all_goals first|refine AtT.zi ?_|refine AtT.zg ?_|(refine AtT.jR ?_)
   all_goals (refine AtT.jv (d:=52) rfl ((by omega)) ?_)
   all_goals first|refine AtT.zi ?_|refine AtT.zg ?_|(refine AtT.neB rfl ⟨_,_,rfl,rfl,rfl⟩ Tryz.underlying4 rfl rfl (by decide) ?_)
   all_goals (refine AtT.zF ?_)
   all_goals refine AtT.done ?_
   all_goals (refine At.nrm ?_)
   exact At.kH () rfl ⟨rfl,rfl,rfl,rfl,trivial⟩ Pt.zx
  ·rw[b1]
   refine At.zh (.q 0 (.q 1 (.q 2 (.q 3 (.q 4 (.q 5 (.q 6 (.q 7 (.q 8 (.q 9 (.q 10 (.q 11 (.q 12 (.q 13 (.q 14 (.q 15 (.q 16 (.q 17 (.q 18 (.q 19 (.q 20 (.q 21 (.q 22 (.q 23 (.q 24 (.q 25 .done)))))))))))))))))))))))))) ?_
   refine AtT.ze ?_
   refine AtT.jV ?_
   refine AtT.qA (d:=30) rfl ((by simp)) ?_
   refine AtT.ze ?_
   all_goals (first | refine AtT.kL 31 ?_ | refine AtT.zD (d:=31) rfl (fun hg31=>?_) (fun hg31=>?_) | refine AtT.zC (d:=31) rfl (fun hg31=>?_) (fun hg31=>?_))
   all_goals first|refine AtT.zi ?_|refine AtT.zg ?_|(refine AtT.ze ?_)
   all_goals first|refine AtT.zi ?_|refine AtT.zg ?_|(refine AtT.jV ?_)
   all_goals (refine AtT.qA (d:=33) rfl ((by simp)) ?_)
   all_goals (refine AtT.zF ?_)
   all_goals (refine AtT.ze ?_)
   all_goals (first | refine AtT.kL 35 ?_ | refine AtT.zD (d:=35) rfl (fun hg35=>?_) (fun hg35=>?_) | refine AtT.zC (d:=35) rfl (fun hg35=>?_) (fun hg35=>?_))
   all_goals first|refine AtT.zi ?_|refine AtT.zg ?_|(refine AtT.ze ?_)
   all_goals first|refine AtT.zi ?_|refine AtT.zg ?_|(refine AtT.jV ?_)
   all_goals (refine AtT.qA (d:=37) rfl ((by simp)) ?_)
   all_goals (refine AtT.zF ?_)
   all_goals (refine AtT.ze ?_)
   all_goals (first | refine AtT.kL 39 ?_ | refine AtT.zD (d:=39) rfl (fun hg39=>?_) (fun hg39=>?_) | refine AtT.zC (d:=39) rfl (fun hg39=>?_) (fun hg39=>?_))
   all_goals first|refine AtT.zi ?_|refine AtT.zg ?_|(refine AtT.ze ?_)
   all_goals first|refine AtT.zi ?_|refine AtT.zg ?_|(refine AtT.jV ?_)
   all_goals (refine AtT.qA (d:=41) rfl ((by simp)) ?_)
   all_goals (refine AtT.zF ?_)
   all_goals (refine AtT.ze ?_)
   all_goals (first | refine AtT.kL 43 ?_ | refine AtT.zD (d:=43) rfl (fun hg43=>?_) (fun hg43=>?_) | refine AtT.zC (d:=43) rfl (fun hg43=>?_) (fun hg43=>?_))
   all_goals first|refine AtT.zi ?_|refine AtT.zg ?_|(refine AtT.ze ?_)
   all_goals first|refine AtT.zi ?_|refine AtT.zg ?_|(refine AtT.jR ?_)
   all_goals (refine AtT.qA (d:=45) rfl ((by simp)) ?_)
   all_goals (refine AtT.zF ?_)
   all_goals (refine AtT.ze ?_)
   all_goals (first | refine AtT.kL 47 ?_ | refine AtT.zD (d:=47) rfl (fun hg47=>?_) (fun hg47=>?_) | refine AtT.zC (d:=47) rfl (fun hg47=>?_) (fun hg47=>?_))
   all_goals first|refine AtT.zi ?_|refine AtT.zg ?_|(refine AtT.ze ?_)
   all_goals first|refine AtT.zi ?_|refine AtT.zg ?_|(refine AtT.jR ?_)
   all_goals (refine AtT.qA (d:=49) rfl ((by simp)) ?_)
   all_goals first|refine AtT.zi ?_|refine AtT.zg ?_|(refine AtT.ze ?_)
   all_goals first|refine AtT.zi ?_|refine AtT.zg ?_|(first | refine AtT.zK Tryz.underlying30 ?_ | refine AtT.zL Tryz.underlying30 ?_)
   all_goals first|refine AtT.zi ?_|refine AtT.zg ?_|(refine AtT.jR ?_)
   all_goals (refine AtT.qA (d:=52) rfl ((by omega)) ?_)
   all_goals first|refine AtT.zi ?_|refine AtT.zg ?_|(refine AtT.neB rfl ⟨_,_,rfl,rfl,rfl⟩ Tryz.underlying4 rfl rfl (by decide) ?_)
   all_goals (refine AtT.zF ?_)
   all_goals refine AtT.done ?_
   all_goals (refine At.nrm ?_)
   exact At.kH () rfl ⟨rfl,rfl,rfl,rfl,trivial⟩ Pt.zx
 rintro _ _ ks' O' rfl hk hO hl
 subst hk hO
 have hs20:=hs.le hV20
 have hqlen:=hq.qI
 refine At.qf rfl rfl ?_
 refine At.nrm ?_
 refine At.zh (.q 0 .done) ?_
 refine AtT.zf ?_
 refine AtT.done ?_
 refine At.nrm ?_
 refine At.zh (.q 0 .done) ?_
 refine AtT.zf ?_
 refine AtT.done ?_
 refine At.nrm ?_
 refine At.lp (ι:=Nat) (KS:=fun k=>[(0,.slice a ts.length cc),(1,iv c),(7,.slice aq qs.length cq),(11,.bool ((L3.take k).any fun s=>decide (ql s 15=[(c:Int)]))),(12,iv k)]) (OS:=fun _=>[])
  (VS:=fun k V'=>Le V20 V'∧k≤qs.length) (μ:=fun k=>qs.length-k) 0 ?_ ?_ ?_ ?_
 ·exact⟨rfl,rfl,rfl,rfl,rfl,trivial⟩
 ·exact Pt.zx
 ·exact⟨Le.refl _,Nat.zero_le _⟩
 rintro k V1 ks' O' ⟨hV1,hk1⟩ hk hO hl1
 subst hk hO
 have hq1:=hq.le hV1
 refine At.nrm ?_
 refine At.zh (.q 0 (.q 1 (.q 2 (.q 3 .done)))) ?_
 refine AtT.ze ?_
 refine AtT.ze ?_
 first | refine AtT.zK Tryz.underlying30 ?_ | refine AtT.zL Tryz.underlying30 ?_
 refine AtT.qg ?_
 refine AtT.done ?_
 refine At.nrm ?_
 refine At.zZ rfl (fun hp=>?_) (fun hp=>?_)
 ·have hkl:k<L3.length:=by omega
  have hkq:k<qs.length:=by omega
  have hnx:(L3.take (k+1)).any (fun s=>decide (ql s 15=[(c:Int)]))=((L3.take k).any (fun s=>decide (ql s 15=[(c:Int)])) || decide (ql L3[k] 15=[(c:Int)])):=by
   rw[List.take_succ_eq_append_getElem hkl,List.any_append]; simp
  cases hb:(L3.take k).any fun s=>decide (ql s 15=[(c:Int)])with
  | true=>
   rw[hb]at hnx
   refine At.nrm ?_
   refine At.zh (.q 0 (.q 1 (.q 2 (.q 3 (.q 4 (.q 5 (.q 6 (.n false 7 (.n false 8 (.q 9 (.q 10 .done))))))))))) ?_
   refine AtT.ze ?_
   refine AtT.ze ?_
   all_goals (first | refine AtT.kL 62 ?_ | refine AtT.zD (d:=62) rfl (fun hg62=>?_) (fun hg62=>?_) | refine AtT.zC (d:=62) rfl (fun hg62=>?_) (fun hg62=>?_))
   all_goals first|refine AtT.zi ?_|refine AtT.zg ?_|(refine AtT.ze ?_)
   all_goals first|refine AtT.zi ?_|refine AtT.zg ?_|(refine AtT.ze ?_)
   all_goals first|refine AtT.zi ?_|refine AtT.zg ?_|(refine AtT.zU Tryz.underlying30 zQ ?_);(intro p65 e65 he65 hc65)
   all_goals first|refine AtT.zi ?_|refine AtT.zg ?_|(first | refine AtT.zk zQ ?_ | refine AtT.zo zQ ?_)
   all_goals first|refine AtT.zi ?_|refine AtT.zg ?_|(refine AtT.ze ?_)
   all_goals first|refine AtT.jb ?_|refine AtT.qM ?_|((refine AtT.qi (qX _) ?_);(intro q68 V68 hV68 hq68);(have g68:Le V V68:=by first | exact hV68 | exact Le.trans (by assumption) hV68))
   all_goals first|refine AtT.jb ?_|refine AtT.qM ?_|((fail))
   all_goals (refine AtT.zF ?_)
   all_goals (refine AtT.zf ?_)
   all_goals refine AtT.done ?_
   all_goals (refine At.nrm ?_)
   refine At.nrm ?_
   refine At.zh (.q 0 (.q 1 (.q 2 .done))) ?_
   refine AtT.ze ?_
   first | refine AtT.qm ?_ | refine AtT.zR ?_
   refine AtT.zf ?_
   refine AtT.done ?_
   refine At.nrm ?_
   refine At.round (k+1) ?_ ?_ ?_ ?_
   ·show qs.length-(k+1)<qs.length-k; omega
   ·exact⟨hV1,by omega⟩
   ·rw[hnx]; exact⟨rfl,rfl,rfl,rfl,by congr 2,trivial⟩
   ·exact Pt.zx
  | false=>
   rw[hb]at hnx
   refine At.nrm ?_
   refine At.zh (.q 0 (.q 1 (.q 2 (.q 3 (.q 4 (.q 5 (.q 6 (.n false 7 (.n false 8 (.q 9 (.q 10 .done))))))))))) ?_
   refine AtT.ze ?_
   refine AtT.ze ?_
   all_goals (first | refine AtT.kL 62 ?_ | refine AtT.zD (d:=62) rfl (fun hg62=>?_) (fun hg62=>?_) | refine AtT.zC (d:=62) rfl (fun hg62=>?_) (fun hg62=>?_))
   all_goals first|refine AtT.zi ?_|refine AtT.zg ?_|(refine AtT.ze ?_)
   all_goals first|refine AtT.zi ?_|refine AtT.zg ?_|(refine AtT.ze ?_)
   all_goals first|refine AtT.zi ?_|refine AtT.zg ?_|(refine AtT.zU Tryz.underlying30 zQ ?_);(intro p65 e65 he65 hc65)
   all_goals first|refine AtT.zi ?_|refine AtT.zg ?_|(first | refine AtT.zk zQ ?_ | refine AtT.zo zQ ?_)
   all_goals first|refine AtT.zi ?_|refine AtT.zg ?_|(refine AtT.ze ?_)
   all_goals first|refine AtT.jb ?_|refine AtT.qM ?_|((refine AtT.qi (qX _) ?_);(intro q68 V68 hV68 hq68);(have g68:Le V V68:=by first | exact hV68 | exact Le.trans (by assumption) hV68))
   all_goals first|refine AtT.jb ?_|refine AtT.qM ?_|((refine AtT.zJ rfl rfl ok9 (ints_f (ql L3[k] 15) [(c:Int)] _ _ _ (((hqi k e65 _ (by simpa using he65) (by rw[List.getElem?_map,List.getElem?_eq_getElem hkl]; rfl)).le hV1).le hV68) (Sl.lit hq68 rfl (by simp))) ?_);(rintro _ rfl))
   all_goals (refine AtT.zF ?_)
   all_goals (refine AtT.zf ?_)
   all_goals refine AtT.done ?_
   all_goals (refine At.nrm ?_)
   refine At.nrm ?_
   refine At.zh (.q 0 (.q 1 (.q 2 .done))) ?_
   refine AtT.ze ?_
   first | refine AtT.qm ?_ | refine AtT.zR ?_
   refine AtT.zf ?_
   refine AtT.done ?_
   refine At.nrm ?_
   refine At.round (k+1) ?_ ?_ ?_ ?_
   ·show qs.length-(k+1)<qs.length-k; omega
   ·exact⟨hV1.trans hV68,by omega⟩
   ·rw[hnx,Bool.false_or]; exact⟨rfl,rfl,rfl,rfl,by congr 2,trivial⟩
   ·exact Pt.zx
 ·obtain rfl:k=qs.length:=by omega
  have hall:(L3.take qs.length).any (fun s=>decide (ql s 15=[(c:Int)]))=true:=by
   rw[hll,List.take_length]
   exact List.any_eq_true.2 ⟨_,m1,decide_eq_true ((hpow _ m1).2 rfl)⟩
  rw[hall]
  refine At.nrm ?_
  refine At.zh (.q 0 (.q 1 (.q 2 (.q 3 (.n false 4 (.n false 5 (.q 6 (.q 7 (.q 8 .done))))))))) ?_
  refine AtT.ze ?_
  refine AtT.ze ?_
  all_goals (first | refine AtT.kL 72 ?_ | refine AtT.zD (d:=72) rfl (fun hg72=>?_) (fun hg72=>?_) | refine AtT.zC (d:=72) rfl (fun hg72=>?_) (fun hg72=>?_))
  all_goals first|refine AtT.zi ?_|refine AtT.zg ?_|(refine AtT.ze ?_)
  all_goals first|refine AtT.zi ?_|refine AtT.zg ?_|(refine AtT.ze ?_)
  all_goals first|refine AtT.jb ?_|refine AtT.qM ?_|((refine AtT.qi (qX _) ?_);(intro q75 V75 hV75 hq75);(have g75:Le V V75:=by first | exact hV75 | exact Le.trans (by assumption) hV75))
  all_goals first|refine AtT.jb ?_|refine AtT.qM ?_|((refine AtT.zJ rfl rfl ok15 (checkCauses_f ts [(c:Int)] _ _ _ ((hs20.le hV1).le hV75) (Sl.lit hq75 rfl (by simp))) ?_);(rintro _ rfl; rw[h1.cc]))
  all_goals first|refine AtT.zi ?_|refine AtT.zg ?_|(refine AtT.jR ?_)
  all_goals (refine AtT.zF ?_)
  all_goals (refine AtT.zf ?_)
  all_goals refine AtT.done ?_
  all_goals (refine At.nrm ?_)
  exact At.zT rfl (.tmp rfl) (by simp)
end Go.Proofs.YtfmmggphdeiajaaGreatDoor
end
section
set_option linter.unusedVariables false
namespace Go.Ps
open Go.Lw Go.Bl
def tq (i:Int) (o:Int) (k:Nat) (bad:Int):Tq:=⟨⟨i.tmod 5,o,(k:Int)⟩,decide (o=bad)⟩
structure TrP (L:List (List Int)) (xs:List Int) (bad:Int) (n k j:Nat) (ts:List Tq) (many:Int):Prop where
 len:ts.length=n
 at':∀ k' t' j' x,L[k']? = some t'→t'[j']? = some x→(k'<k∨(k'=k∧j'<j))→∃ o,xs[x.toNat]? = some o∧ts[x.toNat]? = some (tq x o k' bad)
 pos:0≤many∧many≤((L.take k).flatten++((L[k]?).getD []).take j).length
 some':0<many→∃ k' t' j' x,L[k']? = some t'∧t'[j']? = some x∧(k'<k∨(k'=k∧j'<j))∧xs[x.toNat]? = some bad
 none':many=0→∀ k' t' j' x,L[k']? = some t'→t'[j']? = some x→(k'<k∨(k'=k∧j'<j))→xs[x.toNat]?≠some bad
theorem ne_of {L:List (List Int)} {k k' j j':Nat} {t t':List Int} {x x':Int} (hn:L.flatten.Nodup) (hk:L[k]? = some t) (hj:t[j]? = some x) (a:L[k']? = some t') (b:t'[j']? = some x') (c:k'<k∨(k'=k∧j'<j)):x'≠x:=by
 intro he
 subst he
 refine nd_at hn hk hj ?_
 rcases c with c | ⟨rfl,c⟩
 ·refine List.mem_append_left _ (List.mem_flatten.2 ⟨t',?_,List.mem_of_getElem? b⟩)
  exact List.mem_of_getElem? (i:=k') (by rw[List.getElem?_take_of_lt c]; exact a)
 ·rw[hk]at a
  cases a
  refine List.mem_append_right _ (List.mem_of_getElem? (i:=j') ?_)
  rw[List.getElem?_take_of_lt c]; exact b
theorem TrP.step {L:List (List Int)} {xs:List Int} {bad:Int} {n k j:Nat} {ts:List Tq} {many:Int} {t:List Int} {x o:Int} (h:TrP L xs bad n k j ts many) (hn:L.flatten.Nodup) (h0:∀ t∈L,∀ x∈t,0≤x∧x<n) (hk:L[k]? = some t) (hj:t[j]? = some x) (ho:xs[x.toNat]? = some o) :
  TrP L xs bad n k (j+1) (ts.set x.toNat (tq x o k bad)) (if o=bad then many+1 else many):=by
 have hxb:=h0 t (List.mem_of_getElem? hk) x (List.mem_of_getElem? hj)
 have hjl:=(List.getElem?_eq_some_iff.1 hj).1
 have ht:t.take (j+1)=t.take j++[x]:=by
  rw[List.take_succ_eq_append_getElem hjl]; congr 2
  exact(List.getElem?_eq_some_iff.1 hj).2
 have hlen:((L.take k).flatten++((L[k]?).getD []).take (j+1)).length=((L.take k).flatten++((L[k]?).getD []).take j).length+1:=by
  rw[hk]
  simp only[Option.getD_some]
  rw[ht]
  simp only[List.length_append,List.length_cons,List.length_nil]
  omega
 have hp:=h.pos
 refine⟨by rw[List.length_set]; exact h.len,fun k' t' j' x' a b c=>?_,?_,fun hm=>?_,fun hm k' t' j' x' a b c=>?_⟩
 ·by_cases e:k'=k∧j'=j
  ·obtain⟨rfl,rfl⟩:=e
   rw[hk]at a
   cases a
   rw[hj]at b
   cases b
   exact⟨o,ho,by rw[List.getElem?_set_self (by rw[h.len]; omega)]⟩
  ·have c':k'<k∨(k'=k∧j'<j):=by omega
   have hx'b:=h0 t' (List.mem_of_getElem? a) x' (List.mem_of_getElem? b)
   have hne:=ne_of hn hk hj a b c'
   rw[List.getElem?_set_ne (by omega)]
   exact h.at' k' t' j' x' a b c'
 ·rw[hlen]
  split<;>omega
 ·by_cases e:o=bad
  ·exact⟨k,t,j,x,hk,hj,.inr ⟨rfl,Nat.lt_succ_self _⟩,by rw[ho,e]⟩
  ·rw[if_neg e]at hm
   obtain⟨k',t',j',x',a,b,c,d⟩:=h.some' hm
   exact⟨k',t',j',x',a,b,by omega,d⟩
 ·by_cases e:o=bad
  ·rw[if_pos e]at hm; omega
  ·rw[if_neg e]at hm
   by_cases e2:k'=k∧j'=j
   ·obtain⟨rfl,rfl⟩:=e2
    rw[hk]at a
    cases a
    rw[hj]at b
    cases b
    rw[ho]
    simpa using e
   ·exact h.none' hm k' t' j' x' a b (by omega)
theorem TrP.next {L:List (List Int)} {xs:List Int} {bad:Int} {n k j:Nat} {ts:List Tq} {many:Int} {t:List Int} (h:TrP L xs bad n k j ts many) (hk:L[k]? = some t) (hj:t.length≤j):TrP L xs bad n (k+1) 0 ts many:=by
 have key:∀ k' t' j' x,L[k']? = some t'→t'[j']? = some x→(k'<k+1∨(k'=k+1∧j'<0))→(k'<k∨(k'=k∧j'<j)):=fun k' t' j' x a b c=>by
  rcases Nat.lt_or_ge k' k with d | d
  ·exact .inl d
  ·obtain rfl:k'=k:=by omega
   rw[hk]at a
   cases a
   exact .inr ⟨rfl,Nat.lt_of_lt_of_le (List.getElem?_eq_some_iff.1 b).1 hj⟩
 refine⟨h.len,fun k' t' j' x a b c=>h.at' k' t' j' x a b (key k' t' j' x a b c),?_,fun hm=>?_,fun hm k' t' j' x a b c=>h.none' hm k' t' j' x a b (key k' t' j' x a b c)⟩
 ·have hp:=h.pos
  rw[hk]at hp
  simp only[Option.getD_some]at hp
  rw[List.take_of_length_le hj]at hp
  rw[List.take_zero,List.append_nil,flat_step hk]
  exact hp
 ·obtain⟨k',t',j',x',a,b,c,d⟩:=h.some' hm
  exact⟨k',t',j',x',a,b,by omega,d⟩
theorem TrP.snd {ps:List Pp} {w:Nat} {wl:List Int} {L:List (List Int)} {xs:List Int} {bad:Int} {n:Nat} {ts:List Tq} {many:Int} (h:TrP L xs bad n L.length 0 ts many) (hL:TnOk ps w L) (hn:n=ps.length) (h5:L.length≤5) (hw:∀ o∈xs,0≤o∧o≤4) :
  ∀ t∈ts,∃ i o k,t=tq i o k bad∧sndB t.p=true∧0≤o∧o≤4∧xs[i.toNat]? = some o:=by
 intro t ht
 obtain⟨i,hi,rfl⟩:=List.getElem_of_mem ht
 rw[h.len]at hi
 have hm:=hL.all i (by omega)
 obtain⟨t',ht',hit⟩:=List.mem_flatten.1 hm
 obtain⟨k',hk',e1⟩:=List.getElem_of_mem ht'
 obtain⟨j',hj',e2⟩:=List.getElem_of_mem hit
 obtain⟨o,ho,hts⟩:=h.at' k' t' j' i (by rw[List.getElem?_eq_getElem hk',e1]) (by rw[List.getElem?_eq_getElem hj',e2]) (.inl hk')
 rw[Int.toNat_natCast]at ho hts
 rw[List.getElem?_eq_getElem (by rw[h.len]; exact hi)]at hts
 have hob:=hw o (List.mem_of_getElem? ho)
 refine⟨i,o,k',by simpa using hts,?_,hob.1,hob.2,by rw[Int.toNat_natCast]; exact ho⟩
 have e:ts[i]'(by rw[h.len]; exact hi)=tq i o k' bad:=by simpa using hts
 rw[e]
 unfold sndB tq
 rw[decide_eq_true_eq]
 have t0:=Int.tmod_nonneg 5 (show 0≤(i:Int) by omega)
 have t1:=Int.tmod_lt_of_pos (i:Int) (b:=5) (by omega)
 dsimp only
 omega
theorem cb_op {p:Pq} (h:sndB p=true) {c:Nat} (hc:c<5):(cbN p).testBit (5+c)=decide (p.o=(c:Int)):=by
 unfold sndB at h
 rw[decide_eq_true_eq]at h
 have e:=btL_bit (l:=caL p) (i:=5+c) (fun x hx=>by
  simp only[caL,List.mem_cons,List.not_mem_nil,or_false]at hx
  omega)
 unfold cbN
 rw[Bool.eq_iff_iff,e,decide_eq_true_eq]
 simp only[caL,List.mem_cons,List.not_mem_nil,or_false]
 omega
theorem TrP.one {ps:List Pp} {w:Nat} {L:List (List Int)} {xs:List Int} {c:Nat} {n:Nat} {ts:List Tq} {many:Int} (h:TrP L xs c n L.length 0 ts many) (hL:TnOk ps w L) (hn:n=ps.length) (hps:n≤12) (h5:L.length≤5) (hw:∀ o∈xs,0≤o∧o≤4) (hc:c<5) (hm:0<many):OneG ts (5+c):=by
 have hs:=h.snd (wl:=[]) hL hn h5 hw
 refine⟨by omega,fun t ht=>?_,by rw[h.len]; omega,fun t ht=>?_,?_⟩
 ·obtain⟨i,o,k,_,e,_⟩:=hs t ht; exact e
 ·obtain⟨i,o,k,e1,e,_⟩:=hs t ht
  rw[cb_op e hc,e1]
  rfl
 ·obtain⟨k',t',j',x',a,b,d,e⟩:=h.some' hm
  obtain⟨o,ho,hts⟩:=h.at' k' t' j' x' a b d
  rw[e]at ho
  cases ho
  exact⟨_,List.mem_of_getElem? hts,by unfold tq; simp⟩
theorem TrP.no {ps:List Pp} {w:Nat} {L:List (List Int)} {xs:List Int} {bad:Int} {n:Nat} {ts:List Tq} {many:Int} (h:TrP L xs bad n L.length 0 ts many) (hL:TnOk ps w L) (hn:n=ps.length) (hps:n≤12) (h5:L.length≤5) (hw:∀ o∈xs,0≤o∧o≤4) (hm:many=0):NoF ts:=by
 have hs:=h.snd (wl:=[]) hL hn h5 hw
 refine⟨fun t ht=>?_,by rw[h.len]; omega,fun t ht=>?_⟩
 ·obtain⟨i,o,k,_,e,_⟩:=hs t ht; exact e
 ·obtain⟨i,hi,rfl⟩:=List.getElem_of_mem ht
  rw[h.len]at hi
  have hmm:=hL.all i (by omega)
  obtain⟨t',ht',hit⟩:=List.mem_flatten.1 hmm
  obtain⟨k',hk',e1⟩:=List.getElem_of_mem ht'
  obtain⟨j',hj',e2⟩:=List.getElem_of_mem hit
  have q1:L[k']? = some t':=by rw[List.getElem?_eq_getElem hk',e1]
  have q2:t'[j']? = some (i:Int):=by rw[List.getElem?_eq_getElem hj',e2]
  obtain⟨o,ho,hts⟩:=h.at' k' t' j' i q1 q2 (.inl hk')
  have hno:=h.none' hm k' t' j' i q1 q2 (.inl hk')
  rw[ho]at hno
  rw[Int.toNat_natCast,List.getElem?_eq_getElem (by rw[h.len]; exact hi)]at hts
  have e:ts[i]'(by rw[h.len]; exact hi)=tq i o k' bad:=by simpa using hts
  rw[e]
  unfold tq
  dsimp only
  rw[decide_eq_false_iff_not]
  intro c
  exact hno (by rw[c])
end Go.Ps
end
section
set_option linter.unusedVariables false
namespace Go.Proofs.YtfmmggphdeiajaaGreatDoor
open Go.Lw Go.Gl Go.Bl Go.Ps Go.RowKit
theorem tqe_set {ts:List Tq} {x:Int} (hx:0≤x∧x<ts.length) (r:Tq):(flat tqe ts).take (0+x.toNat*4)++tqe r++(flat tqe ts).drop (0+x.toNat*4+(tqe r).length)=flat tqe (ts.set x.toNat r):=by
 rw[Nat.zero_add]
 exact flat_set tqe_len ts x.toNat r (by omega)
theorem ok5:zy Tryz.prog 5:=zu Tryz.func5 (by kernel_rfl) (by kernel_rfl)
set_option maxHeartbeats 3200000 in
theorem top_f (hW:∀ V,Fnc Tryz.prog 5 [] V fun r _=>r=.bool true) (b:Bd) (a:Option Addr) (c:Nat) (ps:List Pp) (by':List U8) (x:Int) (hx:0≤x∧x≤255) (V:View) (v vb:Value) (hs:SlI V (.slice a b.br.length c) b.br) (hp:Sl V ppe 2 v ps) (hy:Sl V e8 1 vb by') :
  Fnc Tryz.prog 3 [bdv b a c,v,vb,.int .u8 x] V fun r _=>r=.bool true:=by
 obtain⟨ap,cp,rfl,k1,k2,_⟩:=id hp
 obtain⟨ab,cb,rfl,k3,k4,_⟩:=id hy
 clear k1 k2 k3 k4
 have hlen:=hs.qI
 have hlenp:=hp.qI
 have hlenb:=hy.qI
 refine zS Tryz.func3 rfl Tryz.ntmps3 (Nat.le_of_ble_eq_true rfl) ?_
 intro w0 hw0
 refine At.nrm ?_
 refine At.zh (.n false 0 (.q 1 .done)) ?_
 refine AtT.jS ?_
 intro b4
 refine AtT.zf ?_
 refine AtT.done ?_
 refine At.nrm ?_
 by_cases c1:12<ps.length
 ·refine At.zh (.q 0 (.q 1 (.q 2 (.q 3 (.q 4 (.q 5 (.q 6 (.q 7 (.q 8 (.q 9 (.q 10 (.q 11 (.q 12 (.q 13 (.q 14 (.q 15 (.q 16 (.n false 17 (.q 18 (.q 19 (.q 20 (.q 21 (.q 22 (.q 23 (.q 24 .done))))))))))))))))))))))))) ?_
  refine AtT.ze ?_
  first | refine AtT.zK Tryz.underlying25 ?_ | refine AtT.zL Tryz.underlying25 ?_
  refine AtT.qx ?_
  refine AtT.jv (d:=24) rfl ((by omega)) ?_
  refine AtT.ze ?_
  all_goals (first | refine AtT.kL 25 ?_ | refine AtT.zD (d:=25) rfl (fun hg25=>?_) (fun hg25=>?_) | refine AtT.zC (d:=25) rfl (fun hg25=>?_) (fun hg25=>?_))
  all_goals first|refine AtT.zi ?_|refine AtT.zg ?_|(first | refine AtT.zm qF ?_ | with_reducible refine AtT.zn qF ?_ | refine AtT.zq qF ?_)
  all_goals first|refine AtT.zi ?_|refine AtT.zg ?_|(first | refine AtT.zk zQ ?_ | refine AtT.zo zQ ?_)
  all_goals first|refine AtT.zi ?_|refine AtT.zg ?_|(first | refine AtT.zK Tryz.underlying22 ?_ | refine AtT.zL Tryz.underlying22 ?_)
  all_goals first|refine AtT.zi ?_|refine AtT.zg ?_|(refine AtT.qx ?_)
  all_goals (refine AtT.zF ?_)
  all_goals (refine AtT.ze ?_)
  all_goals (first | refine AtT.kL 31 ?_ | refine AtT.zD (d:=31) rfl (fun hg31=>?_) (fun hg31=>?_) | refine AtT.zC (d:=31) rfl (fun hg31=>?_) (fun hg31=>?_))
  all_goals first|refine AtT.zi ?_|refine AtT.zg ?_|(refine AtT.ze ?_)
  all_goals first|refine AtT.zi ?_|refine AtT.zg ?_|(first | refine AtT.zK Tryz.underlying26 ?_ | refine AtT.zL Tryz.underlying26 ?_)
  all_goals first|refine AtT.zi ?_|refine AtT.zg ?_|(refine AtT.qx ?_)
  all_goals (refine AtT.zF ?_)
  all_goals (refine AtT.ze ?_)
  all_goals (first | refine AtT.kL 36 ?_ | refine AtT.zD (d:=36) rfl (fun hg36=>?_) (fun hg36=>?_) | refine AtT.zC (d:=36) rfl (fun hg36=>?_) (fun hg36=>?_))
  all_goals first|refine AtT.zi ?_|refine AtT.zg ?_|(first | refine AtT.zB qz ?_ | refine AtT.zM qz ?_ | refine AtT.zA qz ?_)
  all_goals first|refine AtT.zi ?_|refine AtT.zg ?_|(refine AtT.ze ?_)
  all_goals first|refine AtT.jb ?_|refine AtT.qM ?_|((fail))
  all_goals first|refine AtT.zi ?_|refine AtT.zg ?_|(refine AtT.jV ?_)
  all_goals (refine AtT.zF ?_)
  all_goals (refine AtT.ze ?_)
  all_goals (first | refine AtT.kL 42 ?_ | refine AtT.zD (d:=42) rfl (fun hg42=>?_) (fun hg42=>?_) | refine AtT.zC (d:=42) rfl (fun hg42=>?_) (fun hg42=>?_))
  all_goals first|refine AtT.zi ?_|refine AtT.zg ?_|(first | refine AtT.zm zV ?_ | with_reducible refine AtT.zn zV ?_ | refine AtT.zq zV ?_)
  all_goals first|refine AtT.zi ?_|refine AtT.zg ?_|(first | refine AtT.zk tk3 ?_ | refine AtT.zo tk3 ?_)
  all_goals first|refine AtT.zi ?_|refine AtT.zg ?_|(refine AtT.qx ?_)
  all_goals (refine AtT.zF ?_)
  all_goals refine AtT.done ?_
  all_goals (refine At.nrm ?_)
  refine At.qK rfl rfl ?_
  refine At.nrm ?_
  refine At.zh (.n false 0 (.q 1 .done)) ?_
  refine AtT.zJ rfl rfl ok5 (hW _) ?_
  rintro _ rfl
  refine AtT.zf ?_
  refine AtT.done ?_
  refine At.nrm ?_
  exact At.zT rfl (.tmp rfl) rfl
 by_cases c2:10<b.br.length
 ·refine At.zh (.q 0 (.q 1 (.q 2 (.q 3 (.q 4 (.q 5 (.q 6 (.q 7 (.q 8 (.q 9 (.q 10 (.q 11 (.q 12 (.q 13 (.q 14 (.q 15 (.q 16 (.n false 17 (.q 18 (.q 19 (.q 20 (.q 21 (.q 22 (.q 23 (.q 24 .done))))))))))))))))))))))))) ?_
  refine AtT.ze ?_
  first | refine AtT.zK Tryz.underlying25 ?_ | refine AtT.zL Tryz.underlying25 ?_
  refine AtT.qx ?_
  refine AtT.qA (d:=24) rfl ((by omega)) ?_
  refine AtT.ze ?_
  all_goals (first | refine AtT.kL 25 ?_ | refine AtT.zD (d:=25) rfl (fun hg25=>?_) (fun hg25=>?_) | refine AtT.zC (d:=25) rfl (fun hg25=>?_) (fun hg25=>?_))
  all_goals first|refine AtT.zi ?_|refine AtT.zg ?_|(first | refine AtT.zm qF ?_ | with_reducible refine AtT.zn qF ?_ | refine AtT.zq qF ?_)
  all_goals first|refine AtT.zi ?_|refine AtT.zg ?_|(first | refine AtT.zk zQ ?_ | refine AtT.zo zQ ?_)
  all_goals first|refine AtT.zi ?_|refine AtT.zg ?_|(first | refine AtT.zK Tryz.underlying22 ?_ | refine AtT.zL Tryz.underlying22 ?_)
  all_goals first|refine AtT.zi ?_|refine AtT.zg ?_|(refine AtT.qx ?_)
  all_goals (refine AtT.jv (d:=29) rfl ((by omega)) ?_)
  all_goals (refine AtT.zF ?_)
  all_goals (refine AtT.ze ?_)
  all_goals (first | refine AtT.kL 31 ?_ | refine AtT.zD (d:=31) rfl (fun hg31=>?_) (fun hg31=>?_) | refine AtT.zC (d:=31) rfl (fun hg31=>?_) (fun hg31=>?_))
  all_goals first|refine AtT.zi ?_|refine AtT.zg ?_|(refine AtT.ze ?_)
  all_goals first|refine AtT.zi ?_|refine AtT.zg ?_|(first | refine AtT.zK Tryz.underlying26 ?_ | refine AtT.zL Tryz.underlying26 ?_)
  all_goals first|refine AtT.zi ?_|refine AtT.zg ?_|(refine AtT.qx ?_)
  all_goals (refine AtT.zF ?_)
  all_goals (refine AtT.ze ?_)
  all_goals (first | refine AtT.kL 36 ?_ | refine AtT.zD (d:=36) rfl (fun hg36=>?_) (fun hg36=>?_) | refine AtT.zC (d:=36) rfl (fun hg36=>?_) (fun hg36=>?_))
  all_goals first|refine AtT.zi ?_|refine AtT.zg ?_|(first | refine AtT.zB qz ?_ | refine AtT.zM qz ?_ | refine AtT.zA qz ?_)
  all_goals first|refine AtT.zi ?_|refine AtT.zg ?_|(refine AtT.ze ?_)
  all_goals first|refine AtT.jb ?_|refine AtT.qM ?_|((fail))
  all_goals first|refine AtT.zi ?_|refine AtT.zg ?_|(refine AtT.jV ?_)
  all_goals (refine AtT.zF ?_)
  all_goals (refine AtT.ze ?_)
  all_goals (first | refine AtT.kL 42 ?_ | refine AtT.zD (d:=42) rfl (fun hg42=>?_) (fun hg42=>?_) | refine AtT.zC (d:=42) rfl (fun hg42=>?_) (fun hg42=>?_))
  all_goals first|refine AtT.zi ?_|refine AtT.zg ?_|(first | refine AtT.zm zV ?_ | with_reducible refine AtT.zn zV ?_ | refine AtT.zq zV ?_)
  all_goals first|refine AtT.zi ?_|refine AtT.zg ?_|(first | refine AtT.zk tk3 ?_ | refine AtT.zo tk3 ?_)
  all_goals first|refine AtT.zi ?_|refine AtT.zg ?_|(refine AtT.qx ?_)
  all_goals (refine AtT.zF ?_)
  all_goals refine AtT.done ?_
  all_goals (refine At.nrm ?_)
  refine At.qK rfl rfl ?_
  refine At.nrm ?_
  refine At.zh (.n false 0 (.q 1 .done)) ?_
  refine AtT.zJ rfl rfl ok5 (hW _) ?_
  rintro _ rfl
  refine AtT.zf ?_
  refine AtT.done ?_
  refine At.nrm ?_
  exact At.zT rfl (.tmp rfl) rfl
 by_cases c3:20<by'.length
 ·refine At.zh (.q 0 (.q 1 (.q 2 (.q 3 (.q 4 (.q 5 (.q 6 (.q 7 (.q 8 (.q 9 (.q 10 (.q 11 (.q 12 (.q 13 (.q 14 (.q 15 (.q 16 (.n false 17 (.q 18 (.q 19 (.q 20 (.q 21 (.q 22 (.q 23 (.q 24 .done))))))))))))))))))))))))) ?_
  refine AtT.ze ?_
  first | refine AtT.zK Tryz.underlying25 ?_ | refine AtT.zL Tryz.underlying25 ?_
  refine AtT.qx ?_
  refine AtT.qA (d:=24) rfl ((by omega)) ?_
  refine AtT.ze ?_
  all_goals (first | refine AtT.kL 25 ?_ | refine AtT.zD (d:=25) rfl (fun hg25=>?_) (fun hg25=>?_) | refine AtT.zC (d:=25) rfl (fun hg25=>?_) (fun hg25=>?_))
  all_goals first|refine AtT.zi ?_|refine AtT.zg ?_|(first | refine AtT.zm qF ?_ | with_reducible refine AtT.zn qF ?_ | refine AtT.zq qF ?_)
  all_goals first|refine AtT.zi ?_|refine AtT.zg ?_|(first | refine AtT.zk zQ ?_ | refine AtT.zo zQ ?_)
  all_goals first|refine AtT.zi ?_|refine AtT.zg ?_|(first | refine AtT.zK Tryz.underlying22 ?_ | refine AtT.zL Tryz.underlying22 ?_)
  all_goals first|refine AtT.zi ?_|refine AtT.zg ?_|(refine AtT.qx ?_)
  all_goals (refine AtT.qA (d:=29) rfl ((by omega)) ?_)
  all_goals (refine AtT.zF ?_)
  all_goals (refine AtT.ze ?_)
  all_goals (first | refine AtT.kL 31 ?_ | refine AtT.zD (d:=31) rfl (fun hg31=>?_) (fun hg31=>?_) | refine AtT.zC (d:=31) rfl (fun hg31=>?_) (fun hg31=>?_))
  all_goals first|refine AtT.zi ?_|refine AtT.zg ?_|(refine AtT.ze ?_)
  all_goals first|refine AtT.zi ?_|refine AtT.zg ?_|(first | refine AtT.zK Tryz.underlying26 ?_ | refine AtT.zL Tryz.underlying26 ?_)
  all_goals first|refine AtT.zi ?_|refine AtT.zg ?_|(refine AtT.qx ?_)
  all_goals (refine AtT.jv (d:=34) rfl ((by omega)) ?_)
  all_goals (refine AtT.zF ?_)
  all_goals (refine AtT.ze ?_)
  all_goals (first | refine AtT.kL 36 ?_ | refine AtT.zD (d:=36) rfl (fun hg36=>?_) (fun hg36=>?_) | refine AtT.zC (d:=36) rfl (fun hg36=>?_) (fun hg36=>?_))
  all_goals first|refine AtT.zi ?_|refine AtT.zg ?_|(first | refine AtT.zB qz ?_ | refine AtT.zM qz ?_ | refine AtT.zA qz ?_)
  all_goals first|refine AtT.zi ?_|refine AtT.zg ?_|(refine AtT.ze ?_)
  all_goals first|refine AtT.jb ?_|refine AtT.qM ?_|((fail))
  all_goals first|refine AtT.zi ?_|refine AtT.zg ?_|(refine AtT.jV ?_)
  all_goals (refine AtT.zF ?_)
  all_goals (refine AtT.ze ?_)
  all_goals (first | refine AtT.kL 42 ?_ | refine AtT.zD (d:=42) rfl (fun hg42=>?_) (fun hg42=>?_) | refine AtT.zC (d:=42) rfl (fun hg42=>?_) (fun hg42=>?_))
  all_goals first|refine AtT.zi ?_|refine AtT.zg ?_|(first | refine AtT.zm zV ?_ | with_reducible refine AtT.zn zV ?_ | refine AtT.zq zV ?_)
  all_goals first|refine AtT.zi ?_|refine AtT.zg ?_|(first | refine AtT.zk tk3 ?_ | refine AtT.zo tk3 ?_)
  all_goals first|refine AtT.zi ?_|refine AtT.zg ?_|(refine AtT.qx ?_)
  all_goals (refine AtT.zF ?_)
  all_goals refine AtT.done ?_
  all_goals (refine At.nrm ?_)
  refine At.qK rfl rfl ?_
  refine At.nrm ?_
  refine At.zh (.n false 0 (.q 1 .done)) ?_
  refine AtT.zJ rfl rfl ok5 (hW _) ?_
  rintro _ rfl
  refine AtT.zf ?_
  refine AtT.done ?_
  refine At.nrm ?_
  exact At.zT rfl (.tmp rfl) rfl
 refine At.zh (.q 0 (.q 1 (.q 2 (.q 3 (.q 4 (.q 5 (.q 6 (.q 7 (.q 8 (.q 9 (.q 10 (.q 11 (.q 12 (.q 13 (.q 14 (.q 15 (.q 16 (.n false 17 (.q 18 (.q 19 (.q 20 (.q 21 (.q 22 (.q 23 (.q 24 .done))))))))))))))))))))))))) ?_
 refine AtT.ze ?_
 first | refine AtT.zK Tryz.underlying25 ?_ | refine AtT.zL Tryz.underlying25 ?_
 refine AtT.qx ?_
 refine AtT.qA (d:=24) rfl ((by omega)) ?_
 refine AtT.ze ?_
 all_goals (first | refine AtT.kL 25 ?_ | refine AtT.zD (d:=25) rfl (fun hg25=>?_) (fun hg25=>?_) | refine AtT.zC (d:=25) rfl (fun hg25=>?_) (fun hg25=>?_))
 all_goals first|refine AtT.zi ?_|refine AtT.zg ?_|(first | refine AtT.zm qF ?_ | with_reducible refine AtT.zn qF ?_ | refine AtT.zq qF ?_)
 all_goals first|refine AtT.zi ?_|refine AtT.zg ?_|(first | refine AtT.zk zQ ?_ | refine AtT.zo zQ ?_)
 all_goals first|refine AtT.zi ?_|refine AtT.zg ?_|(first | refine AtT.zK Tryz.underlying22 ?_ | refine AtT.zL Tryz.underlying22 ?_)
 all_goals first|refine AtT.zi ?_|refine AtT.zg ?_|(refine AtT.qx ?_)
 all_goals (refine AtT.qA (d:=29) rfl ((by omega)) ?_)
 all_goals (refine AtT.zF ?_)
 all_goals (refine AtT.ze ?_)
 all_goals (first | refine AtT.kL 31 ?_ | refine AtT.zD (d:=31) rfl (fun hg31=>?_) (fun hg31=>?_) | refine AtT.zC (d:=31) rfl (fun hg31=>?_) (fun hg31=>?_))
 all_goals first|refine AtT.zi ?_|refine AtT.zg ?_|(refine AtT.ze ?_)
 all_goals first|refine AtT.zi ?_|refine AtT.zg ?_|(first | refine AtT.zK Tryz.underlying26 ?_ | refine AtT.zL Tryz.underlying26 ?_)
 all_goals first|refine AtT.zi ?_|refine AtT.zg ?_|(refine AtT.qx ?_)
 all_goals (refine AtT.qA (d:=34) rfl ((by omega)) ?_)
 all_goals (refine AtT.zF ?_)
 all_goals (refine AtT.ze ?_)
 all_goals (first | refine AtT.kL 36 ?_ | refine AtT.zD (d:=36) rfl (fun hg36=>?_) (fun hg36=>?_) | refine AtT.zC (d:=36) rfl (fun hg36=>?_) (fun hg36=>?_))
 all_goals first|refine AtT.zi ?_|refine AtT.zg ?_|(first | refine AtT.zB qz ?_ | refine AtT.zM qz ?_ | refine AtT.zA qz ?_)
 all_goals first|refine AtT.zi ?_|refine AtT.zg ?_|(refine AtT.ze ?_)
 all_goals first|refine AtT.jb ?_|refine AtT.qM ?_|((refine AtT.zJ rfl rfl ok4 (P.both_f b a c ps _ _ hs hp) ?_);(rintro _ ⟨e,rfl,he⟩))
 all_goals first|refine AtT.zi ?_|refine AtT.zg ?_|(refine AtT.jV ?_)
 all_goals (refine AtT.zF ?_)
 all_goals (refine AtT.ze ?_)
 all_goals (first | refine AtT.kL 42 ?_ | refine AtT.zD (d:=42) rfl (fun hg42=>?_) (fun hg42=>?_) | refine AtT.zC (d:=42) rfl (fun hg42=>?_) (fun hg42=>?_))
 all_goals first|refine AtT.zi ?_|refine AtT.zg ?_|(first | refine AtT.zm zV ?_ | with_reducible refine AtT.zn zV ?_ | refine AtT.zq zV ?_)
 all_goals first|refine AtT.zi ?_|refine AtT.zg ?_|(first | refine AtT.zk tk3 ?_ | refine AtT.zo tk3 ?_)
 all_goals first|refine AtT.zi ?_|refine AtT.zg ?_|(refine AtT.qx ?_)
 all_goals (refine AtT.zF ?_)
 all_goals refine AtT.done ?_
 all_goals (refine At.nrm ?_)
 ·refine At.qK rfl rfl ?_
  refine At.nrm ?_
  refine At.zh (.n false 0 (.q 1 .done)) ?_
  refine AtT.zJ rfl rfl ok5 (hW _) ?_
  rintro _ rfl
  refine AtT.zf ?_
  refine AtT.done ?_
  refine At.nrm ?_
  exact At.zT rfl (.tmp rfl) rfl
 obtain⟨hb,hps⟩:=he (by simpa using hg42)
 refine At.zZ rfl (fun h5=>?_) (fun h5=>?_)
 ·refine At.nrm ?_
  refine At.zh (.n false 0 (.q 1 .done)) ?_
  refine AtT.zJ rfl rfl ok5 (hW _) ?_
  rintro _ rfl
  refine AtT.zf ?_
  refine AtT.done ?_
  refine At.nrm ?_
  exact At.zT rfl (.tmp rfl) rfl
 have ho:=hb.o
 have hn:=hps.n
 have hwn:=whl_len hb
 have hw0:0<(whl b).length:=List.length_pos_iff.2 (whl_ne hb)
 refine At.nrm ?_
 refine At.zh (.q 0 (.q 1 (.q 2 (.n false 3 (.q 4 .done))))) ?_
 first | refine AtT.zB qz ?_ | refine AtT.zM qz ?_ | refine AtT.zA qz ?_
 refine AtT.ze ?_
 refine AtT.ze ?_
 refine AtT.jQ rfl rfl ok6 (P.given_f b hb a c ps hps by' _ _ _ hs hp hy (by omega)) ?_
 rintro _ V51 hV51 ⟨L,hLs,hL⟩
 refine AtT.zf ?_
 refine AtT.done ?_
 refine At.nrm ?_
 have hs1:=hs.le hV51
 have hp1:=hp.le hV51
 obtain⟨qs,hq,hql,hqi⟩:=id hLs
 obtain⟨at',ct,rfl,k5,k6,_⟩:=id hq
 clear k5 k6
 have hlenq:=hq.qI
 refine At.zh (.q 0 (.q 1 (.q 2 .done))) ?_
 refine AtT.ze ?_
 first | refine AtT.zK Tryz.underlying30 ?_ | refine AtT.zL Tryz.underlying30 ?_
 refine AtT.qx ?_
 refine AtT.done ?_
 refine At.nrm ?_
 refine At.zZ rfl (fun h6=>?_) (fun h6=>?_)
 ·refine At.nrm ?_
  refine At.zh (.n false 0 (.q 1 .done)) ?_
  refine AtT.zJ rfl rfl ok5 (hW _) ?_
  rintro _ rfl
  refine AtT.zf ?_
  refine AtT.done ?_
  refine At.nrm ?_
  exact At.zT rfl (.tmp rfl) rfl
 refine At.nrm ?_
 refine At.zh (.q 0 (.q 1 (.q 2 (.n false 3 (.q 4 (.q 5 (.q 6 (.q 7 (.q 8 .done))))))))) ?_
 first | refine AtT.zB qz ?_ | refine AtT.zM qz ?_ | refine AtT.zA qz ?_
 refine AtT.ze ?_
 refine AtT.ze ?_
 refine AtT.jQ rfl rfl ok7 (P.lie_f b hb a c ps hps L hL _ _ _ hs1 hp1 hLs) ?_
 rintro _ V60 hV60 ⟨u,xs,rfl,hxs,hlx⟩
 refine AtT.ze ?_
 refine AtT.zI ?_
 refine AtT.zI ?_
 refine AtT.zf ?_
 refine AtT.zf ?_
 refine AtT.done ?_
 refine At.nrm ?_
 have hs2:=hs1.le hV60
 obtain⟨ax,cx,rfl,k7,k8,_⟩:=id hxs
 clear k7 k8
 refine At.zh (.q 0 (.n false 1 (.q 2 (.q 3 (.q 4 (.q 5 (.q 6 .done))))))) ?_
 first | refine AtT.zB qz ?_ | refine AtT.zM qz ?_ | refine AtT.zA qz ?_
 refine AtT.jQ rfl rfl ok8 (P.whole_f b hb a c _ hs2) ?_
 rintro _ V65 hV65 ⟨uw,rfl,hw⟩
 refine AtT.ze ?_
 refine AtT.zI ?_
 refine AtT.zI ?_
 refine AtT.zf ?_
 refine AtT.zf ?_
 refine AtT.done ?_
 refine At.nrm ?_
 have hs3:=hs2.le hV65
 have hxs3:=hxs.le hV65
 obtain⟨aw,cw,rfl,k9,k10,_⟩:=id hw
 clear k9 k10
 refine At.zh (.q 0 (.q 1 (.q 2 (.q 3 (.q 4 (.q 5 (.q 6 (.q 7 (.q 8 (.q 9 (.q 10 (.q 11 (.q 12 (.q 13 (.q 14 (.q 15 (.n false 16 (.n false 17 (.q 18 (.q 19 .done)))))))))))))))))))) ?_
 refine AtT.ze ?_
 refine AtT.jV ?_
 refine AtT.qA (d:=69) rfl ((by simp)) ?_
 refine AtT.ze ?_
 all_goals (first | refine AtT.kL 70 ?_ | refine AtT.zD (d:=70) rfl (fun hg70=>?_) (fun hg70=>?_) | refine AtT.zC (d:=70) rfl (fun hg70=>?_) (fun hg70=>?_))
 all_goals first|refine AtT.zi ?_|refine AtT.zg ?_|(refine AtT.ze ?_)
 all_goals first|refine AtT.zi ?_|refine AtT.zg ?_|(first | refine AtT.zK Tryz.underlying22 ?_ | refine AtT.zL Tryz.underlying22 ?_)
 all_goals first|refine AtT.zi ?_|refine AtT.zg ?_|(refine AtT.ze ?_)
 all_goals first|refine AtT.zi ?_|refine AtT.zg ?_|(first | refine AtT.zK Tryz.underlying25 ?_ | refine AtT.zL Tryz.underlying25 ?_)
 all_goals first|refine AtT.zi ?_|refine AtT.zg ?_|(refine AtT.jV ?_)
 all_goals (refine AtT.qA (d:=75) rfl ((by have:=hlx.len; omega)) ?_)
 all_goals (refine AtT.zF ?_)
 all_goals (refine AtT.ze ?_)
 all_goals (first | refine AtT.kL 77 ?_ | refine AtT.zD (d:=77) rfl (fun hg77=>?_) (fun hg77=>?_) | refine AtT.zC (d:=77) rfl (fun hg77=>?_) (fun hg77=>?_))
 all_goals first|refine AtT.zi ?_|refine AtT.zg ?_|(refine AtT.ze ?_)
 all_goals first|refine AtT.zi ?_|refine AtT.zg ?_|(refine AtT.jV ?_)
 all_goals (refine AtT.qA (d:=79) rfl ((by simp)) ?_)
 all_goals (refine AtT.zF ?_)
 all_goals (refine AtT.ze ?_)
 all_goals (first | refine AtT.kL 81 ?_ | refine AtT.zD (d:=81) rfl (fun hg81=>?_) (fun hg81=>?_) | refine AtT.zC (d:=81) rfl (fun hg81=>?_) (fun hg81=>?_))
 all_goals first|refine AtT.zi ?_|refine AtT.zg ?_|(refine AtT.ze ?_)
 all_goals first|refine AtT.zi ?_|refine AtT.zg ?_|(first | refine AtT.zB qz ?_ | refine AtT.zM qz ?_ | refine AtT.zA qz ?_)
 all_goals first|refine AtT.jb ?_|refine AtT.qM ?_|((refine AtT.jQ rfl rfl ok10 (P.wholeOf_f b ho a c _ hs3) ?_);(rintro v84 V84 hV84 hw84))
 all_goals first|refine AtT.jb ?_|refine AtT.qM ?_|((refine AtT.zJ rfl rfl ok9 (ints_f (whl b) (whl b) _ _ _ (hw.le hV84) hw84) ?_);(rintro _ rfl))
 all_goals first|refine AtT.zi ?_|refine AtT.zg ?_|(refine AtT.knot ?_)
 all_goals (refine AtT.setB (d:=86) rfl ((show(!decide (whl b=whl b))=false by simp)) ?_)
 all_goals (refine AtT.zF ?_)
 all_goals refine AtT.done ?_
 all_goals (refine At.nrm ?_)
 refine At.qf rfl rfl ?_
 have hxl:=hlx.len
 have hlenx:=hxs.qI
 have hlenw:=hw.qI
 have hfl:=tn_len hL
 have hxs4:=hxs3.le hV84
 have hw4:=hw.le hV84
 have hq4:=((hq.le hV60).le hV65).le hV84
 have hqi4:∀ (i:Nat) (q:Option Addr×Nat×Nat) (l:List Int),qs[i]? = some q→L[i]? = some l→SlI V84 (.slice q.1 q.2.1 q.2.2) l:=fun i q l h1 h2=>(((hqi i q l h1 h2).le hV60).le hV65).le hV84
 have t0:=Int.tmod_nonneg ((whl b).length:Int) (show 0≤x by omega)
 have t1:=Int.tmod_lt_of_pos x (b:=((whl b).length:Int)) (by omega)
 have ew:IntKind.i64.wrap x=x:=wrap_fit (Fit.of (by omega) (by omega))
 refine At.nrm ?_
 refine At.zh (.q 0 (.q 1 (.q 2 (.q 3 (.q 4 (.q 5 (.q 6 (.q 7 (.q 8 .done))))))))) ?_
 refine AtT.ze ?_
 refine AtT.ze ?_
 refine AtT.kconv un5 Tryz.underlying3 ?_
 rw[ew]
 refine AtT.ze ?_
 first | refine AtT.zK Tryz.underlying22 ?_ | refine AtT.zL Tryz.underlying22 ?_
 refine AtT.krem ?_
 refine AtT.zU Tryz.underlying22 tk3 ?_
 intro p94 e94 he94 hc94
 first | refine AtT.zk tk3 ?_ | refine AtT.zo tk3 ?_
 refine AtT.zf ?_
 refine AtT.done ?_
 refine At.nrm ?_
 have hbm:=(whl_mem hb).1 (List.mem_of_getElem? he94)
 obtain⟨c0,rfl⟩:∃ c0:Nat,e94=(c0:Int):=⟨_,(Int.toNat_of_nonneg hbm.1).symm⟩
 obtain⟨bc,hbc⟩:∃ bc:Int,bc=(c0:Int):=⟨_,rfl⟩
 rw[←hbc]
 refine At.zh (.q 0 (.q 1 (.n false 2 (.q 3 .done)))) ?_
 refine AtT.ze ?_
 first | refine AtT.zK Tryz.underlying25 ?_ | refine AtT.zL Tryz.underlying25 ?_
 refine AtT.makeSl rfl trivial tqe rfl Tryz.underlying37 rw42 rfl rfl (by decide) rfl rfl (by omega) (by omega) (by decide) (m:=ps.length) (za:=(⟨⟨0,0,0⟩,false⟩:Tq)) ?_
 intro b98
 refine AtT.zf ?_
 refine AtT.done ?_
 refine At.nrm ?_
 refine At.zh (.q 0 .done) ?_
 refine AtT.zf ?_
 refine AtT.done ?_
 refine At.nrm ?_
 refine At.zh (.q 0 .done) ?_
 refine AtT.zf ?_
 refine AtT.done ?_
 refine At.nrmB ?_
 have hbd:∀ t∈L,∀ x∈t,0≤x∧x<(ps.length:Int):=fun t ht x hx=>(hL.is t ht).bd x hx
 refine At.cutG (ι:=List Tq×Int) (fun g=>[(14,iv bc),(15,.slice (some ⟨b98,0,none⟩) ps.length ps.length),(16,iv g.2)]) (fun g=>[.blk b98 (LC (flat tqe g.1) 42)]) (fun g V'=>Le V84 V'∧TrP L xs bc ps.length L.length 0 g.1 g.2) ?_ ?_
 ·refine At.nrm ?_
  refine At.lp (ι:=Nat×List Tq×Int) (KS:=fun g=>[(9,.slice at' qs.length ct),(10,.slice ax xs.length cx),(12,.slice aw (whl b).length cw),(14,iv bc),(15,.slice (some ⟨b98,0,none⟩) ps.length ps.length),(16,iv g.2.2),(17,iv g.1)]) (OS:=fun g=>[.blk b98 (LC (flat tqe g.2.1) 42)])
   (VS:=fun g V'=>V'=V84∧g.1≤qs.length∧TrP L xs bc ps.length g.1 0 g.2.1 g.2.2) (μ:=fun g=>qs.length-g.1) (0,List.replicate ps.length ⟨⟨0,0,0⟩,false⟩,0) ?_ ?_ ?_ ?_
  ·exact⟨rfl,rfl,rfl,rfl,rfl,rfl,rfl,trivial⟩
  ·exact Pt.zx
  ·exact⟨rfl,Nat.zero_le _,⟨List.length_replicate,fun k' t' j' x a b c=>by omega,⟨Int.le_refl _,by dsimp only; omega⟩,fun h=>by dsimp only at h; omega,fun _ k' t' j' x a b c=>by omega⟩⟩
  rintro⟨k,ts,many⟩ V1 ks' O' ⟨rfl,hk1,htr⟩ hk hO hl1
  dsimp only at hk1 htr hk hO
  subst hk hO
  refine At.nrm ?_
  refine At.zh (.q 0 (.q 1 (.q 2 (.q 3 .done)))) ?_
  refine AtT.ze ?_
  refine AtT.ze ?_
  first | refine AtT.zK Tryz.underlying30 ?_ | refine AtT.zL Tryz.underlying30 ?_
  refine AtT.qg ?_
  refine AtT.done ?_
  refine At.nrm ?_
  refine At.zZ rfl (fun hc=>?_) (fun hc=>?_)
  rotate_left
  ·obtain rfl:k=qs.length:=by omega
   refine At.nrm ?_
   exact At.kH (ts,many) ⟨Le.refl _,by dsimp only; rw[←hql]; exact htr⟩ ⟨rfl,rfl,rfl,trivial⟩ Pt.zx
  obtain⟨q,hqk⟩:∃ q,qs[k]? = some q:=⟨_,List.getElem?_eq_getElem (by omega)⟩
  obtain⟨t,htk⟩:∃ t,L[k]? = some t:=⟨_,List.getElem?_eq_getElem (by omega)⟩
  have hst:=hqi4 k q t hqk htk
  have htm:=List.mem_of_getElem? htk
  obtain⟨aq,lq,cq⟩:=q
  dsimp only at hst
  obtain⟨at2,ct2,hqe,_,_,_⟩:=id hst
  cases hqe
  have hle:=hL.le t htm
  refine At.nrm ?_
  refine At.zh (.q 0 .done) ?_
  refine AtT.zf ?_
  refine AtT.done ?_
  refine At.nrm ?_
  refine At.lp (ι:=Nat×List Tq×Int) (KS:=fun g=>[(9,.slice at' qs.length ct),(10,.slice ax xs.length cx),(12,.slice aw (whl b).length cw),(14,iv bc),(15,.slice (some ⟨b98,0,none⟩) ps.length ps.length),(16,iv g.2.2),(17,iv k),(18,iv g.1)]) (OS:=fun g=>[.blk b98 (LC (flat tqe g.2.1) 42)])
   (VS:=fun g V'=>V'=V1∧g.1≤t.length∧TrP L xs bc ps.length k g.1 g.2.1 g.2.2) (μ:=fun g=>t.length-g.1) (0,ts,many) ?_ ?_ ?_ ?_
  ·exact⟨rfl,rfl,rfl,rfl,rfl,rfl,rfl,rfl,trivial⟩
  ·exact Pt.zx
  ·exact⟨rfl,Nat.zero_le _,htr⟩
  rintro⟨j,us,mn⟩ V2 ks' O' ⟨rfl,hj1,hur⟩ hk hO hl2
  dsimp only at hj1 hur hk hO
  subst hk hO
  have hp108:∀ e:Option Addr×Nat×Nat,qs[((k:Int)).toNat]? = some e→(aq,t.length,cq)=e:=fun e he=>by
   have:qs[k]? = some e:=by simpa using he
   rw[hqk]at this; simpa using this
  refine At.nrm ?_
  refine At.zh (.q 0 (.q 1 (.q 2 (.q 3 (.q 4 (.q 5 (.q 6 .done))))))) ?_
  refine AtT.ze ?_
  refine AtT.ze ?_
  refine AtT.ze ?_
  refine AtT.zU Tryz.underlying30 zQ ?_
  intro p108 e108 he108 hc108
  obtain rfl:=hp108 _ he108
  first | refine AtT.zk zQ ?_ | refine AtT.zo zQ ?_
  first | refine AtT.zK Tryz.underlying22 ?_ | refine AtT.zL Tryz.underlying22 ?_
  refine AtT.qg ?_
  refine AtT.done ?_
  refine At.nrm ?_
  refine At.zZ rfl (fun hc2=>?_) (fun hc2=>?_)
  rotate_left
  ·obtain rfl:j=t.length:=by omega
   refine At.nrm ?_
   refine At.zh (.q 0 (.q 1 (.q 2 .done))) ?_
   refine AtT.ze ?_
   first | refine AtT.qm ?_ | refine AtT.zR ?_
   refine AtT.zf ?_
   refine AtT.done ?_
   refine At.nrm ?_
   refine At.round (k+1,us,mn) ?_ ?_ ?_ ?_
   ·show qs.length-(k+1)<qs.length-k; omega
   ·exact⟨rfl,by dsimp only; omega,hur.next htk (Nat.le_refl _)⟩
   ·exact⟨rfl,rfl,rfl,rfl,rfl,rfl,rfl,trivial⟩
   ·exact Pt.zx
  obtain⟨y,hy'⟩:∃ y,t[j]? = some y:=⟨_,List.getElem?_eq_getElem (by omega)⟩
  have hyb:=hbd t htm y (List.mem_of_getElem? hy')
  obtain⟨o,hwo⟩:∃ o,(whl b)[j]? = some o:=⟨_,List.getElem?_eq_getElem (by omega)⟩
  have hxo:xs[y.toNat]? = some o:=by rw[hlx.at' k t j y htk hy' (.inl (by omega)),hwo]
  have hom:o∈whl b:=List.mem_of_getElem? hwo
  have hul:=hur.len
  have hset:=tqe_set (ts:=us) (x:=y) (by omega) (tq y o k bc)
  have hstep:=hur.step hL.nod hbd htk hy' hxo
  have hpos:=hur.pos
  have hmb:mn≤100:=by
   have h1:=hpos.2
   have h2:=take_flat_len (L:=L) k
   rw[htk,List.length_append]at h1
   simp only[Option.getD_some,List.length_take]at h1
   omega
  refine At.nrm ?_
  refine At.zh (.q 0 (.q 1 (.q 2 (.q 3 (.q 4 (.q 5 (.q 6 (.q 7 .done)))))))) ?_
  refine AtT.ze ?_
  refine AtT.ze ?_
  refine AtT.zU Tryz.underlying30 zQ ?_
  intro p116 e116 he116 hc116
  obtain rfl:=hp108 _ he116
  first | refine AtT.zk zQ ?_ | refine AtT.zo zQ ?_
  refine AtT.ze ?_
  refine AtT.zU Tryz.underlying22 tk3 ?_
  intro p119 e119 he119 hc119
  obtain rfl:y=e119:=by have:t[j]? = some e119:=(by simpa using he119); rw[hy']at this; simpa using this
  first | refine AtT.zk tk3 ?_ | refine AtT.zo tk3 ?_
  refine AtT.zf ?_
  refine AtT.done ?_
  refine At.nrm ?_
  refine At.zh (.q 0 (.q 1 (.q 2 (.q 3 (.q 4 (.n false 5 (.q 6 .done))))))) ?_
  refine AtT.ze ?_
  refine AtT.ze ?_
  refine AtT.ze ?_
  refine AtT.zU Tryz.underlying22 tk3 ?_
  intro p124 e124 he124 hc124
  obtain rfl:o=e124:=by rw[hxo]at he124; simpa using he124
  first | refine AtT.zk tk3 ?_ | refine AtT.zo tk3 ?_
  refine AtT.zJ rfl rfl ok11 (P.has_f (whl b) o _ _ hw4) ?_
  rintro _ rfl
  refine AtT.knot ?_
  refine AtT.done ?_
  refine At.nrm ?_
  refine At.qf rfl (by rw[decide_eq_true hom]; rfl) ?_
  refine At.nrm ?_
  refine At.draw (.q 0 (.q 1 (.q 2 (.q 3 (.q 4 (.q 5 (.q 6 (.q 7 (.q 8 (.q 9 (.q 10 (.q 11 (.q 12 (.q 13 (.q 14 (.n false 15 (.q 16 (.n true 17 .done)))))))))))))))))) ffm (by kernel_rfl) ?_
  refine AtT.ze ?_
  refine AtT.ze ?_
  refine AtT.ze ?_
  refine AtT.krem ?_
  refine AtT.ze ?_
  refine AtT.ze ?_
  refine AtT.zU Tryz.underlying22 tk3 ?_
  intro p134 e134 he134 hc134
  obtain rfl:o=e134:=by rw[hxo]at he134; simpa using he134
  first | refine AtT.zk tk3 ?_ | refine AtT.zo tk3 ?_
  refine AtT.ze ?_
  refine AtT.ze ?_
  refine AtT.ze ?_
  refine AtT.zU Tryz.underlying22 tk3 ?_
  intro p139 e139 he139 hc139
  obtain rfl:o=e139:=by rw[hxo]at he139; simpa using he139
  first | refine AtT.zk tk3 ?_ | refine AtT.zo tk3 ?_
  refine AtT.ze ?_
  refine AtT.jR ?_
  refine AtT.zJ rfl rfl ok12 (trial_f _ _ _ _ _) ?_
  rintro _ rfl
  refine AtT.kidxO Tryz.underlying37 tk42 ?_
  refine AtT.store rfl trivial rfl rfl tk42 rfl rfl (by rw[qa tqe_len]; show _+4≤_; omega) rfl hset (by repeat first|exact Upd.here|apply Upd.there) ?_
  refine AtT.done ?_
  refine At.nrm ?_
  refine At.zh (.q 0 (.q 1 (.q 2 (.q 3 (.q 4 (.q 5 .done)))))) ?_
  refine AtT.ze ?_
  refine AtT.ze ?_
  refine AtT.zU Tryz.underlying22 tk3 ?_
  intro p147 e147 he147 hc147
  obtain rfl:o=e147:=by rw[hxo]at he147; simpa using he147
  first | refine AtT.zk tk3 ?_ | refine AtT.zo tk3 ?_
  refine AtT.ze ?_
  refine AtT.jR ?_
  refine AtT.done ?_
  refine At.nrm ?_
  refine At.zZ rfl (fun ho1=>?_) (fun ho1=>?_)
  ·rw[if_pos ho1]at hstep
   refine At.nrm ?_
   refine At.zh (.q 0 (.q 1 (.q 2 .done))) ?_
   refine AtT.ze ?_
   first | refine AtT.qm ?_ | refine AtT.zR ?_
   refine AtT.zf ?_
   refine AtT.done ?_
   refine At.nrm ?_
   refine At.nrm ?_
   refine At.zh (.q 0 (.q 1 (.q 2 .done))) ?_
   refine AtT.ze ?_
   first | refine AtT.qm ?_ | refine AtT.zR ?_
   refine AtT.zf ?_
   refine AtT.done ?_
   refine At.nrm ?_
   refine At.round (j+1,us.set y.toNat (tq y o k bc),mn+1) ?_ ?_ ?_ ?_
   ·show t.length-(j+1)<t.length-j; omega
   ·exact⟨rfl,by dsimp only; omega,hstep⟩
   ·exact⟨rfl,rfl,rfl,rfl,rfl,rfl,rfl,rfl,trivial⟩
   ·exact Pt.zx
  ·rw[if_neg ho1]at hstep
   refine At.nrm ?_
   refine At.zh (.q 0 (.q 1 (.q 2 .done))) ?_
   refine AtT.ze ?_
   first | refine AtT.qm ?_ | refine AtT.zR ?_
   refine AtT.zf ?_
   refine AtT.done ?_
   refine At.nrm ?_
   refine At.round (j+1,us.set y.toNat (tq y o k bc),mn) ?_ ?_ ?_ ?_
   ·show t.length-(j+1)<t.length-j; omega
   ·exact⟨rfl,by dsimp only; omega,hstep⟩
   ·exact⟨rfl,rfl,rfl,rfl,rfl,rfl,rfl,rfl,trivial⟩
   ·exact Pt.zx
 rintro⟨ts,many⟩ V2 ks' O' ⟨hV2,htr⟩ hk hO hl2
 dsimp only at htr hk hO
 subst hk hO
 have hxw:∀ o∈xs,0≤o∧o≤4:=fun o hxo=>by
  obtain⟨i,hi,rfl⟩:=List.getElem_of_mem hxo
  have hm:=hL.all i (by omega)
  obtain⟨t',ht',hit⟩:=List.mem_flatten.1 hm
  obtain⟨k',hk',e1⟩:=List.getElem_of_mem ht'
  obtain⟨j',hj',e2⟩:=List.getElem_of_mem hit
  have h1:=hlx.at' k' t' j' i (by rw[List.getElem?_eq_getElem hk',e1]) (by rw[List.getElem?_eq_getElem hj',e2]) (.inl hk')
  rw[Int.toNat_natCast,List.getElem?_eq_getElem hi]at h1
  have:=(whl_mem hb).1 (List.mem_of_getElem? h1.symm)
  omega
 have hL5:L.length≤5:=by omega
 refine At.giveB (b:=b98) zN.zx (fun V6 hV6 hb6=>?_)
 have htl:=htr.len
 have hsl:Sl V6 tqe 4 (.slice (some ⟨b98,0,none⟩) ps.length ps.length) ts:=by
  have:=Sl.of_cells (l:=ts) tqe_len (qj hb6) (Nat.le_refl _) (by rw[htl]; unfold maxLen; omega)
  rwa[htl]at this
 refine At.nrm ?_
 refine At.zh (.q 0 (.q 1 .done)) ?_
 refine AtT.ze ?_
 refine AtT.qx ?_
 refine AtT.done ?_
 refine At.nrm ?_
 refine At.zZ rfl (fun hm=>?_) (fun hm=>?_)
 ·subst hbc
  have h1:=htr.one hL rfl hn hL5 hxw (by omega) hm
  refine At.nrm ?_
  refine At.zh (.q 0 (.q 1 (.q 2 (.n false 3 (.q 4 (.n false 5 (.q 6 (.q 7 .done)))))))) ?_
  refine AtT.ze ?_
  refine AtT.ze ?_
  first | refine AtT.qm ?_ | refine AtT.zR ?_
  rw[show(5:Int)+(c0:Int)=((5+c0:Nat):Int) by omega]
  refine AtT.zJ rfl rfl ok13 (blamed_f ts (5+c0) h1 _ _ hsl) ?_
  rintro _ rfl
  refine AtT.ze ?_
  all_goals (first | refine AtT.kL 159 ?_ | refine AtT.zD (d:=159) rfl (fun hg159=>?_) (fun hg159=>?_) | refine AtT.zC (d:=159) rfl (fun hg159=>?_) (fun hg159=>?_))
  all_goals first|refine AtT.jb ?_|refine AtT.qM ?_|((refine AtT.zJ rfl rfl ok5 (hW _) ?_);(rintro _ rfl))
  all_goals (refine AtT.zF ?_)
  all_goals (refine AtT.zf ?_)
  all_goals refine AtT.done ?_
  all_goals (refine At.nrm ?_)
  exact At.zT rfl (.tmp rfl) rfl
 ·have hp:=htr.pos
  have h0:=htr.no hL rfl hn hL5 hxw (by omega)
  refine At.nrm ?_
  refine At.zh (.q 0 (.n false 1 (.q 2 (.q 3 (.q 4 (.q 5 (.q 6 .done))))))) ?_
  refine AtT.ze ?_
  refine AtT.zJ rfl rfl ok14 (fewestA ts h0.al _ _ hsl) ?_
  rintro _ ⟨L',x',hA,hx',rfl⟩
  refine AtT.ze ?_
  refine AtT.zI ?_
  refine AtT.zI ?_
  refine AtT.zf ?_
  refine AtT.zf ?_
  refine AtT.done ?_
  refine At.nrm ?_
  have hcn:=h0.cnt (als_alt h0.tr hA) (List.mem_of_getElem? hx')
  rw[hcn]
  refine At.zh (.q 0 (.q 1 (.q 2 (.q 3 (.q 4 (.q 5 (.q 6 (.q 7 (.n false 8 (.q 9 (.q 10 (.q 11 (.n false 12 (.q 13 (.q 14 .done))))))))))))))) ?_
  refine AtT.ze ?_
  refine AtT.jR ?_
  refine AtT.jv (d:=168) rfl (rfl) ?_
  refine AtT.ze ?_
  all_goals (first | refine AtT.kL 169 ?_ | refine AtT.zD (d:=169) rfl (fun hg169=>?_) (fun hg169=>?_) | refine AtT.zC (d:=169) rfl (fun hg169=>?_) (fun hg169=>?_))
  all_goals first|refine AtT.zi ?_|refine AtT.zg ?_|(refine AtT.ze ?_)
  all_goals first|refine AtT.zi ?_|refine AtT.zg ?_|(refine AtT.jR ?_)
  all_goals (refine AtT.jv (d:=171) rfl (rfl) ?_)
  all_goals (refine AtT.zF ?_)
  all_goals (refine AtT.ze ?_)
  all_goals (first | refine AtT.kL 173 ?_ | refine AtT.zD (d:=173) rfl (fun hg173=>?_) (fun hg173=>?_) | refine AtT.zC (d:=173) rfl (fun hg173=>?_) (fun hg173=>?_))
  all_goals first|refine AtT.zi ?_|refine AtT.zg ?_|(refine AtT.ze ?_)
  all_goals first|refine AtT.jb ?_|refine AtT.qM ?_|((refine AtT.zJ rfl rfl ok15 (checkCauses_f ts [] _ _ _ hsl (Sl.nil _ _ _)) ?_);(rintro _ rfl; rw[h0.cc]))
  all_goals first|refine AtT.zi ?_|refine AtT.zg ?_|(refine AtT.jR ?_)
  all_goals (refine AtT.jv (d:=176) rfl (rfl) ?_)
  all_goals (refine AtT.zF ?_)
  all_goals (refine AtT.ze ?_)
  all_goals (first | refine AtT.kL 178 ?_ | refine AtT.zD (d:=178) rfl (fun hg178=>?_) (fun hg178=>?_) | refine AtT.zC (d:=178) rfl (fun hg178=>?_) (fun hg178=>?_))
  all_goals first|refine AtT.jb ?_|refine AtT.qM ?_|((refine AtT.zJ rfl rfl ok5 (hW _) ?_);(rintro _ rfl))
  all_goals (refine AtT.zF ?_)
  all_goals (refine AtT.zf ?_)
  all_goals refine AtT.done ?_
  all_goals (refine At.nrm ?_)
  exact At.zT rfl (.tmp rfl) rfl
end Go.Proofs.YtfmmggphdeiajaaGreatDoor
end
section
set_option linter.unusedVariables false
namespace Go.Lw
open Go.ChangeShapes Go.WideShapes Go.ChangeAt Go.RowKit Go.Joins Go.Deep
section
variable {H:Type} {enc:TypeId×Value→H} {P:Program} {W W':World}
theorem stays_all (hl:laidOutB P=true) (hb:Below W.heap.size W W'):∀ (ts:List TypeId) (vs:List Value) (ds:List (DataW H)) (ps:List MemPlace),(ts.all fun t=>P.readableRec t && decide (t<P.types.size))=true→
  (∀ x∈ps,x.block<W.heap.size)→DataW.TrodAll enc P W 0 (fun _=>true) true ts vs ds ps→DataW.TrodAll enc P W' 0 (fun b=>decide (b<W.heap.size)) true ts vs ds ps
 | [],vs,ds,ps,_,_,h=>by
  obtain⟨rfl,rfl,rfl⟩:=trodAll_nil h
  exact trodAll_mk0
 | t::ts,vs,ds,ps,ht,hlt,h=>by
  obtain⟨v,vs',d,ds',p,q,rfl,rfl,rfl,h0,h1⟩:=trodAll_cons h
  simp only[List.all_cons,Bool.and_eq_true,decide_eq_true_eq]at ht
  exact trodAll_cons_mk (Below.trod hl ht.1.1 ht.1.2 h0 hb fun x hx=>hlt x (List.mem_append_left _ hx))
   (stays_all hl hb ts vs' ds' q ht.2 (fun x hx=>hlt x (List.mem_append_right _ hx)) h1)
variable {base:Nat} {spare:Nat→Bool} {held:Bool}
theorem cells_hp {a:Addr} {n:Nat} {cs:List Value} (h:W.cells? base a n=some cs):cs.length=n∧Cells (hp W) a cs:=by
 obtain⟨_,h1,h2⟩:=World.cells?_some h
 refine⟨h1,fun j u hj=>?_⟩
 have hlt:j<n:=by rw[←h1]; exact(List.getElem?_eq_some_iff.1 hj).1
 rw[vcell_hp,h2 j hlt]; exact hj
theorem sl_of {α:Type} {en:α→List Value} {T E:TypeId} {s:Nat} {fuel:Nat} {v:Value} {x:DataW H×List MemPlace} (hT:P.underlying T=some (.slice E)) (hE:P.cellsOf E=s)
  (hel:∀ fuel cs x,DataW.trod enc P W base spare held fuel E cs=some x→cs.length=s→∃ a,cs=en a) (h:DataW.trod enc P W base spare held fuel T [v]=some x) :
  ∃ (l:List α) (a:Option Addr) (cap:Nat),v=.slice a l.length cap∧Sl (hp W) en s (.slice a l.length cap) l:=by
 subst hE
 rcases open_slice hT h with ⟨h0,_⟩ | ⟨a,len,cap,m,n,D,Pl,h0,_,hlc,hcm,hm,_,hx⟩
 ·simp only[List.cons.injEq,and_true]at h0
  exact⟨[],none,0,h0,Sl.nil _ _ _⟩
 ·simp only[List.cons.injEq,and_true]at h0
  have hlm:len≤m:=by rw[hm]; split<;>omega
  have hch:∀ i,i<len→∃ y:α,Cells (hp W) (a.add (i*P.cellsOf E)) (en y):=fun i hi=>by
   obtain⟨cs',h1,h2⟩:=hx i (by omega)
   obtain⟨hl,hc⟩:=cells_hp h1
   obtain⟨y,rfl⟩:=hel _ _ _ h2 hl
   exact⟨y,hc⟩
  have hl:∀ k,k≤len→∃ l:List α,l.length=k∧∀ i y,l[i]? = some y→Cells (hp W) (a.add (i*P.cellsOf E)) (en y):=by
   intro k
   induction k with
   | zero=>exact fun _=>⟨[],rfl,fun i y h=>by simp at h⟩
   | succ k ih=>
    intro hk
    obtain⟨l,hl,hc⟩:=ih (by omega)
    obtain⟨y,hy⟩:=hch k (by omega)
    refine⟨l++[y],by simp[hl],fun i z hz=>?_⟩
    by_cases c:i<l.length
    ·rw[List.getElem?_append_left c]at hz; exact hc i z hz
    ·rw[List.getElem?_append_right (by omega)]at hz
     have e:i=k:=by
      have:=(List.getElem?_eq_some_iff.1 hz).1
      simp at this; omega
     subst e
     rw[hl]at hz
     simp at hz
     subst hz; exact hy
  obtain⟨l,hl,hc⟩:=hl len (Nat.le_refl _)
  subst hl
  exact⟨l,some a,cap,h0,some a,cap,rfl,hlc,hcm,fun _=>rfl,fun p hp i y hy=>by cases hp; exact hc i y hy⟩
theorem el_int {E:TypeId} {k:IntKind} (hE:P.underlying E=some (.int k)) {fuel:Nat} {cs:List Value} {x:DataW H×List MemPlace} (h:DataW.trod enc P W base spare held fuel E cs=some x):∃ z:Int,cs=[.int k z]∧(Lit.int k z).wf=true:=by
 obtain⟨n,h1,_,h3⟩:=DataW.trod_int hE h
 exact⟨n,h1,h3⟩
end
end Go.Lw
end
section
set_option linter.unusedVariables false
namespace Go.Lw
open Go.ChangeShapes Go.WideShapes Go.ChangeAt Go.RowKit Go.Joins Go.Deep
section
variable {H:Type} {enc:TypeId×Value→H} {P:Program} {W W':World}
theorem law_liftL {laid:List (String×DataW Unit)} {C:Checked} {F:FuncId} {fn:Func} {tb:TypeId} {os:Os} {s:ChangeSpec} {conds:List PathCond} (hs:∀ ds:List (DataW H),ds.length=fn.params.size→s.fn H (ds++[]) = { results:=[.lit (.bool true)],args:=ds })
  (hvars:s.vars=[]) (hres:fn.resultTypes=#[tb]) (htb:C.prog.underlying tb=some .bool) (hl:laidOutB C.prog=true) (hts:(fn.params.toList.all fun t=>C.prog.readableRec t && decide (t<C.prog.types.size))=true)
  (own:ownKnob C.prog.godebug=none) (started:os.Started) (noInit:C.prog.inits.idxOf? F=none) (hfn:C.prog.funcs[F]? = some fn)
  (witness:∃ (w:World) (tape:Tape) (i:Input),w.os=os∧(w.forCall tape i).Shaped C.prog∧i.vars=[]∧Input.okWide C.prog (w.forCall tape i) .any w.heap.size F i∧
   ((s.pre enc C.prog fn conds false (w.forCall tape i).memory i.args∧laidMetH C.prog laid (w.forCall tape i).memory)∧sizedMet enc C.prog fn (OpenSpec.ofChange s) false (w.forCall tape i).memory i.args)∧({} : Assume).holds C.prog (lone (Frame.enter C.prog F i.args .normal) [] (w.forCall tape i)))
  (walk:∀ (W:World) (base:Nat) (args:Array Value) (ds:List (DataW H)) (ps:List MemPlace),(∀ (j:Nat) t v,fn.params[j]? = some t→args[j]? = some v→Value.okWide C.prog W .any base t v)→
   DataW.TrodAll enc C.prog W 0 (fun _=>true) true fn.params.toList args.toList ds ps→∃ l:List Value,args=l.toArray∧Fnc C.prog F l (hp W) fun v _=>v=.bool true) :
  ReturnsInHanded {} C os F .any (fun w args=>(s.pre enc C.prog fn conds false w args∧laidMetH C.prog laid w)∧sizedMet enc C.prog fn (OpenSpec.ofChange s) false w args) (s.post enc C.prog fn false true false false):=by
 refine returnsInHanded_of_change_and (C:=C) (X:=fun w _=>laidMetH C.prog laid w) (fun _ _ _ hh h=>h.of_heap hh) own started noInit hfn witness ?_
 intro W base args ds gs before hval hW _ _ _ _
 have hlt:=hW.lt
 have hW':=hW
 obtain⟨p,q,hA,hV,rfl,hfz,hnd⟩:=hW
 rw[hvars]at hV
 obtain⟨rfl,rfl⟩:=trodVars_none hV
 obtain⟨l,rfl,hF⟩:=walk W base args ds p hval hA
 refine(hF W (Le.refl _)).mono fun e W' ⟨v,V',he,hb,_,_,_,hv⟩=>?_
 subst hv
 have hlen:ds.length=fn.params.size:=by
  have key:∀ (ts:List TypeId) (vs:List Value) (ds:List (DataW H)) (ps:List MemPlace),DataW.TrodAll enc C.prog W 0 (fun _=>true) true ts vs ds ps→ds.length=ts.length:=by
   intro ts
   induction ts with
   | nil=>intro vs ds ps h; obtain⟨_,rfl,_⟩:=trodAll_nil h; rfl
   | cons t ts ih=>intro vs ds ps h; obtain⟨v,vs',d,ds',p,q,rfl,rfl,rfl,h0,h1⟩:=trodAll_cons h; simp[ih _ _ _ h1]
  simpa using key _ _ _ _ hA
 refine⟨_,he,ds,[],p++[],[],p,[],hW',?_,?_,?_,Below.frame hb _,fun h=>by cases h⟩
 ·rw[hs ds hlen,hres]
  exact trodAll_mk1 (shut_bool htb true)
 ·rw[hs ds hlen]
  exact stays_all hl hb _ _ _ _ hts (fun x hx=>hlt x (List.mem_append_left _ hx)) hA
 ·rw[hs ds hlen,hvars]
  exact rfl
end
end Go.Lw
end
section
set_option linter.unusedVariables false
set_option linter.constructorNameAsVariable false
namespace Go.Ev
inductive So
 | u
 | n
 | s (id off len cap:Nat)
 | w (id off len cut:Nat)
 | m (id:Nat)
 | f (id:Nat)
 | y (id:Nat)
 | e
 | c (v:Value)
inductive Sc
 | i (k:IntKind) (n:Int)
 | b (b:Bool)
 | p (id off:Nat)
 | o (x:So)
inductive AV
 | x (s:Sc)
 | a (l:List Sc)
 | t (l:List (Sc ⊕ List Sc))
abbrev AV.u:AV:=.x (.o .u)
abbrev AV.n:AV:=.x (.o .n)
abbrev AV.i (k:IntKind) (n:Int):AV:=.x (.i k n)
abbrev AV.b (b:Bool):AV:=.x (.b b)
inductive Ex | n | x (id:Nat) | r
inductive D | d0 | d1 | d2 | d3 | d4 | d5 | d6 | d7
noncomputable def dOf (n:Nat):D:=
 Nat.rec (motive:=fun _=>D) .d0 (fun n _=>Nat.rec (motive:=fun _=>D) .d1 (fun n _=>Nat.rec (motive:=fun _=>D) .d2 (fun n _=>Nat.rec (motive:=fun _=>D) .d3 (fun n _=>Nat.rec (motive:=fun _=>D) .d4 (fun n _=>Nat.rec (motive:=fun _=>D) .d5 (fun n _=>Nat.rec (motive:=fun _=>D) .d6 (fun _ _=>.d7) n) n) n) n) n) n) n
noncomputable def dg1 (n:Nat):D:=dOf (Nat.land n 7)
noncomputable def dg2 (n:Nat):D:=dOf (Nat.land (Nat.shiftRight n 3) 7)
noncomputable def dg3 (n:Nat):D:=dOf (Nat.land (Nat.shiftRight n 6) 7)
noncomputable def dg4 (n:Nat):D:=dOf (Nat.land (Nat.shiftRight n 9) 7)
noncomputable def dg5 (n:Nat):D:=dOf (Nat.land (Nat.shiftRight n 12) 7)
noncomputable def nat {Z:Type} (n:Nat) (k:Nat→Z):Z:=Nat.rec (motive:=fun _=>Z) (k 0) (fun m _=>k (Nat.succ m)) n
theorem nat_eq {Z:Type} (n:Nat) (k:Nat→Z):nat n k=k n:=by cases n<;>rfl
structure L1 where
 mk::(c0 c1 c2 c3 c4 c5 c6 c7:AV)
noncomputable def L1.e:L1:=.mk .n .n .n .n .n .n .n .n
structure L2 where
 mk::(c0 c1 c2 c3 c4 c5 c6 c7:L1)
noncomputable def L2.e:L2:=.mk L1.e L1.e L1.e L1.e L1.e L1.e L1.e L1.e
structure L3 where
 mk::(c0 c1 c2 c3 c4 c5 c6 c7:L2)
noncomputable def L3.e:L3:=.mk L2.e L2.e L2.e L2.e L2.e L2.e L2.e L2.e
structure L4 where
 mk::(c0 c1 c2 c3 c4 c5 c6 c7:L3)
noncomputable def L4.e:L4:=.mk L3.e L3.e L3.e L3.e L3.e L3.e L3.e L3.e
inductive TV
 | s (x:L1)
 | t (x:L2)
 | m (x:L3)
 | l (x:L4)
inductive BO
 | m (l:List (AV×AV))
 | h
 | g (key:AV) (gone:Bool) (l:List ((AV×AV)×Bool))
 | f (fn:FuncId) (first caps:List AV)
 | l (ps:List Nat) (assign body:Code) (t:L3)
 | d (ex:Ex)
 | i (m:Nat) (l:List (AV×AV))
 | b (m:Nat) (l rem:List (AV×AV))
 | c (m:Nat) (k v:AV) (l rem:List (AV×AV))
 | j (m:Nat) (l:List ((AV×AV)×Bool)) (x:Nat)
 | k (m:Nat) (key v:AV) (l:List ((AV×AV)×Bool)) (keep:Bool) (x:Nat) (cur:Bool)
 | q (m:Nat) (key v:AV)
 | z
 | t
 | v (bz:Bool) (ps:List Nat) (assign body:Code) (t:L3)
inductive B
 | x
 | c (E n:Nat) (t:TV)
 | r (E n:Nat) (t:TV)
 | o (b:BO)
structure H1 where
 mk::(c0 c1 c2 c3 c4 c5 c6 c7:B)
noncomputable def H1.e:H1:=.mk .x .x .x .x .x .x .x .x
structure H2 where
 mk::(c0 c1 c2 c3 c4 c5 c6 c7:H1)
noncomputable def H2.e:H2:=.mk H1.e H1.e H1.e H1.e H1.e H1.e H1.e H1.e
structure H3 where
 mk::(c0 c1 c2 c3 c4 c5 c6 c7:H2)
noncomputable def H3.e:H3:=.mk H2.e H2.e H2.e H2.e H2.e H2.e H2.e H2.e
structure H4 where
 mk::(c0 c1 c2 c3 c4 c5 c6 c7:H3)
noncomputable def H4.e:H4:=.mk H3.e H3.e H3.e H3.e H3.e H3.e H3.e H3.e
structure H5 where
 mk::(c0 c1 c2 c3 c4 c5 c6 c7:H4)
noncomputable def H5.e:H5:=.mk H4.e H4.e H4.e H4.e H4.e H4.e H4.e H4.e
structure H where
 mk::(nxt lo:Nat) (ac:Nat×Nat) (t:H5)
abbrev R:=Option (List (AV×H))
structure Q1 where
 mk::(g:L1→AV) (s : {Z:Type}→L1→AV→(L1→Z)→Z)
noncomputable def q1 (n:Nat):Q1:=D.rec (motive:=fun _=>Q1) (.mk (fun t=>t.c0) (fun {Z} t v k=>L1.rec (motive:=fun _=>AV→(L1→Z)→Z) (fun c0 c1 c2 c3 c4 c5 c6 c7 v k=>k (.mk v c1 c2 c3 c4 c5 c6 c7)) t v k)) (.mk (fun t=>t.c1) (fun {Z} t v k=>L1.rec (motive:=fun _=>AV→(L1→Z)→Z) (fun c0 c1 c2 c3 c4 c5 c6 c7 v k=>k (.mk c0 v c2 c3 c4 c5 c6 c7)) t v k)) (.mk (fun t=>t.c2) (fun {Z} t v k=>L1.rec (motive:=fun _=>AV→(L1→Z)→Z) (fun c0 c1 c2 c3 c4 c5 c6 c7 v k=>k (.mk c0 c1 v c3 c4 c5 c6 c7)) t v k)) (.mk (fun t=>t.c3) (fun {Z} t v k=>L1.rec (motive:=fun _=>AV→(L1→Z)→Z) (fun c0 c1 c2 c3 c4 c5 c6 c7 v k=>k (.mk c0 c1 c2 v c4 c5 c6 c7)) t v k)) (.mk (fun t=>t.c4) (fun {Z} t v k=>L1.rec (motive:=fun _=>AV→(L1→Z)→Z) (fun c0 c1 c2 c3 c4 c5 c6 c7 v k=>k (.mk c0 c1 c2 c3 v c5 c6 c7)) t v k)) (.mk (fun t=>t.c5) (fun {Z} t v k=>L1.rec (motive:=fun _=>AV→(L1→Z)→Z) (fun c0 c1 c2 c3 c4 c5 c6 c7 v k=>k (.mk c0 c1 c2 c3 c4 v c6 c7)) t v k)) (.mk (fun t=>t.c6) (fun {Z} t v k=>L1.rec (motive:=fun _=>AV→(L1→Z)→Z) (fun c0 c1 c2 c3 c4 c5 c6 c7 v k=>k (.mk c0 c1 c2 c3 c4 c5 v c7)) t v k)) (.mk (fun t=>t.c7) (fun {Z} t v k=>L1.rec (motive:=fun _=>AV→(L1→Z)→Z) (fun c0 c1 c2 c3 c4 c5 c6 c7 v k=>k (.mk c0 c1 c2 c3 c4 c5 c6 v)) t v k)) (dg1 n)
structure Q2 where
 mk::(g:L2→AV) (s : {Z:Type}→L2→AV→(L2→Z)→Z)
noncomputable def q2 (n:Nat):Q2:=D.rec (motive:=fun _=>Q2) (.mk (fun t=>(q1 n).g t.c0) (fun {Z} t v k=>L2.rec (motive:=fun _=>AV→(L2→Z)→Z) (fun c0 c1 c2 c3 c4 c5 c6 c7 v k=>(q1 n).s c0 v fun y=>k (.mk y c1 c2 c3 c4 c5 c6 c7)) t v k)) (.mk (fun t=>(q1 n).g t.c1) (fun {Z} t v k=>L2.rec (motive:=fun _=>AV→(L2→Z)→Z) (fun c0 c1 c2 c3 c4 c5 c6 c7 v k=>(q1 n).s c1 v fun y=>k (.mk c0 y c2 c3 c4 c5 c6 c7)) t v k)) (.mk (fun t=>(q1 n).g t.c2) (fun {Z} t v k=>L2.rec (motive:=fun _=>AV→(L2→Z)→Z) (fun c0 c1 c2 c3 c4 c5 c6 c7 v k=>(q1 n).s c2 v fun y=>k (.mk c0 c1 y c3 c4 c5 c6 c7)) t v k)) (.mk (fun t=>(q1 n).g t.c3) (fun {Z} t v k=>L2.rec (motive:=fun _=>AV→(L2→Z)→Z) (fun c0 c1 c2 c3 c4 c5 c6 c7 v k=>(q1 n).s c3 v fun y=>k (.mk c0 c1 c2 y c4 c5 c6 c7)) t v k)) (.mk (fun t=>(q1 n).g t.c4) (fun {Z} t v k=>L2.rec (motive:=fun _=>AV→(L2→Z)→Z) (fun c0 c1 c2 c3 c4 c5 c6 c7 v k=>(q1 n).s c4 v fun y=>k (.mk c0 c1 c2 c3 y c5 c6 c7)) t v k)) (.mk (fun t=>(q1 n).g t.c5) (fun {Z} t v k=>L2.rec (motive:=fun _=>AV→(L2→Z)→Z) (fun c0 c1 c2 c3 c4 c5 c6 c7 v k=>(q1 n).s c5 v fun y=>k (.mk c0 c1 c2 c3 c4 y c6 c7)) t v k)) (.mk (fun t=>(q1 n).g t.c6) (fun {Z} t v k=>L2.rec (motive:=fun _=>AV→(L2→Z)→Z) (fun c0 c1 c2 c3 c4 c5 c6 c7 v k=>(q1 n).s c6 v fun y=>k (.mk c0 c1 c2 c3 c4 c5 y c7)) t v k)) (.mk (fun t=>(q1 n).g t.c7) (fun {Z} t v k=>L2.rec (motive:=fun _=>AV→(L2→Z)→Z) (fun c0 c1 c2 c3 c4 c5 c6 c7 v k=>(q1 n).s c7 v fun y=>k (.mk c0 c1 c2 c3 c4 c5 c6 y)) t v k)) (dg2 n)
structure Q3 where
 mk::(g:L3→AV) (s : {Z:Type}→L3→AV→(L3→Z)→Z)
noncomputable def q3 (n:Nat):Q3:=D.rec (motive:=fun _=>Q3) (.mk (fun t=>(q2 n).g t.c0) (fun {Z} t v k=>L3.rec (motive:=fun _=>AV→(L3→Z)→Z) (fun c0 c1 c2 c3 c4 c5 c6 c7 v k=>(q2 n).s c0 v fun y=>k (.mk y c1 c2 c3 c4 c5 c6 c7)) t v k)) (.mk (fun t=>(q2 n).g t.c1) (fun {Z} t v k=>L3.rec (motive:=fun _=>AV→(L3→Z)→Z) (fun c0 c1 c2 c3 c4 c5 c6 c7 v k=>(q2 n).s c1 v fun y=>k (.mk c0 y c2 c3 c4 c5 c6 c7)) t v k)) (.mk (fun t=>(q2 n).g t.c2) (fun {Z} t v k=>L3.rec (motive:=fun _=>AV→(L3→Z)→Z) (fun c0 c1 c2 c3 c4 c5 c6 c7 v k=>(q2 n).s c2 v fun y=>k (.mk c0 c1 y c3 c4 c5 c6 c7)) t v k)) (.mk (fun t=>(q2 n).g t.c3) (fun {Z} t v k=>L3.rec (motive:=fun _=>AV→(L3→Z)→Z) (fun c0 c1 c2 c3 c4 c5 c6 c7 v k=>(q2 n).s c3 v fun y=>k (.mk c0 c1 c2 y c4 c5 c6 c7)) t v k)) (.mk (fun t=>(q2 n).g t.c4) (fun {Z} t v k=>L3.rec (motive:=fun _=>AV→(L3→Z)→Z) (fun c0 c1 c2 c3 c4 c5 c6 c7 v k=>(q2 n).s c4 v fun y=>k (.mk c0 c1 c2 c3 y c5 c6 c7)) t v k)) (.mk (fun t=>(q2 n).g t.c5) (fun {Z} t v k=>L3.rec (motive:=fun _=>AV→(L3→Z)→Z) (fun c0 c1 c2 c3 c4 c5 c6 c7 v k=>(q2 n).s c5 v fun y=>k (.mk c0 c1 c2 c3 c4 y c6 c7)) t v k)) (.mk (fun t=>(q2 n).g t.c6) (fun {Z} t v k=>L3.rec (motive:=fun _=>AV→(L3→Z)→Z) (fun c0 c1 c2 c3 c4 c5 c6 c7 v k=>(q2 n).s c6 v fun y=>k (.mk c0 c1 c2 c3 c4 c5 y c7)) t v k)) (.mk (fun t=>(q2 n).g t.c7) (fun {Z} t v k=>L3.rec (motive:=fun _=>AV→(L3→Z)→Z) (fun c0 c1 c2 c3 c4 c5 c6 c7 v k=>(q2 n).s c7 v fun y=>k (.mk c0 c1 c2 c3 c4 c5 c6 y)) t v k)) (dg3 n)
structure Q4 where
 mk::(g:L4→AV) (s : {Z:Type}→L4→AV→(L4→Z)→Z)
noncomputable def q4 (n:Nat):Q4:=D.rec (motive:=fun _=>Q4) (.mk (fun t=>(q3 n).g t.c0) (fun {Z} t v k=>L4.rec (motive:=fun _=>AV→(L4→Z)→Z) (fun c0 c1 c2 c3 c4 c5 c6 c7 v k=>(q3 n).s c0 v fun y=>k (.mk y c1 c2 c3 c4 c5 c6 c7)) t v k)) (.mk (fun t=>(q3 n).g t.c1) (fun {Z} t v k=>L4.rec (motive:=fun _=>AV→(L4→Z)→Z) (fun c0 c1 c2 c3 c4 c5 c6 c7 v k=>(q3 n).s c1 v fun y=>k (.mk c0 y c2 c3 c4 c5 c6 c7)) t v k)) (.mk (fun t=>(q3 n).g t.c2) (fun {Z} t v k=>L4.rec (motive:=fun _=>AV→(L4→Z)→Z) (fun c0 c1 c2 c3 c4 c5 c6 c7 v k=>(q3 n).s c2 v fun y=>k (.mk c0 c1 y c3 c4 c5 c6 c7)) t v k)) (.mk (fun t=>(q3 n).g t.c3) (fun {Z} t v k=>L4.rec (motive:=fun _=>AV→(L4→Z)→Z) (fun c0 c1 c2 c3 c4 c5 c6 c7 v k=>(q3 n).s c3 v fun y=>k (.mk c0 c1 c2 y c4 c5 c6 c7)) t v k)) (.mk (fun t=>(q3 n).g t.c4) (fun {Z} t v k=>L4.rec (motive:=fun _=>AV→(L4→Z)→Z) (fun c0 c1 c2 c3 c4 c5 c6 c7 v k=>(q3 n).s c4 v fun y=>k (.mk c0 c1 c2 c3 y c5 c6 c7)) t v k)) (.mk (fun t=>(q3 n).g t.c5) (fun {Z} t v k=>L4.rec (motive:=fun _=>AV→(L4→Z)→Z) (fun c0 c1 c2 c3 c4 c5 c6 c7 v k=>(q3 n).s c5 v fun y=>k (.mk c0 c1 c2 c3 c4 y c6 c7)) t v k)) (.mk (fun t=>(q3 n).g t.c6) (fun {Z} t v k=>L4.rec (motive:=fun _=>AV→(L4→Z)→Z) (fun c0 c1 c2 c3 c4 c5 c6 c7 v k=>(q3 n).s c6 v fun y=>k (.mk c0 c1 c2 c3 c4 c5 y c7)) t v k)) (.mk (fun t=>(q3 n).g t.c7) (fun {Z} t v k=>L4.rec (motive:=fun _=>AV→(L4→Z)→Z) (fun c0 c1 c2 c3 c4 c5 c6 c7 v k=>(q3 n).s c7 v fun y=>k (.mk c0 c1 c2 c3 c4 c5 c6 y)) t v k)) (dg4 n)
structure P1 where
 mk::(g:H1→B) (s : {Z:Type}→H1→B→(H1→Z)→Z)
noncomputable def p1 (n:Nat):P1:=D.rec (motive:=fun _=>P1) (.mk (fun t=>t.c0) (fun {Z} t v k=>H1.rec (motive:=fun _=>B→(H1→Z)→Z) (fun c0 c1 c2 c3 c4 c5 c6 c7 v k=>k (.mk v c1 c2 c3 c4 c5 c6 c7)) t v k)) (.mk (fun t=>t.c1) (fun {Z} t v k=>H1.rec (motive:=fun _=>B→(H1→Z)→Z) (fun c0 c1 c2 c3 c4 c5 c6 c7 v k=>k (.mk c0 v c2 c3 c4 c5 c6 c7)) t v k)) (.mk (fun t=>t.c2) (fun {Z} t v k=>H1.rec (motive:=fun _=>B→(H1→Z)→Z) (fun c0 c1 c2 c3 c4 c5 c6 c7 v k=>k (.mk c0 c1 v c3 c4 c5 c6 c7)) t v k)) (.mk (fun t=>t.c3) (fun {Z} t v k=>H1.rec (motive:=fun _=>B→(H1→Z)→Z) (fun c0 c1 c2 c3 c4 c5 c6 c7 v k=>k (.mk c0 c1 c2 v c4 c5 c6 c7)) t v k)) (.mk (fun t=>t.c4) (fun {Z} t v k=>H1.rec (motive:=fun _=>B→(H1→Z)→Z) (fun c0 c1 c2 c3 c4 c5 c6 c7 v k=>k (.mk c0 c1 c2 c3 v c5 c6 c7)) t v k)) (.mk (fun t=>t.c5) (fun {Z} t v k=>H1.rec (motive:=fun _=>B→(H1→Z)→Z) (fun c0 c1 c2 c3 c4 c5 c6 c7 v k=>k (.mk c0 c1 c2 c3 c4 v c6 c7)) t v k)) (.mk (fun t=>t.c6) (fun {Z} t v k=>H1.rec (motive:=fun _=>B→(H1→Z)→Z) (fun c0 c1 c2 c3 c4 c5 c6 c7 v k=>k (.mk c0 c1 c2 c3 c4 c5 v c7)) t v k)) (.mk (fun t=>t.c7) (fun {Z} t v k=>H1.rec (motive:=fun _=>B→(H1→Z)→Z) (fun c0 c1 c2 c3 c4 c5 c6 c7 v k=>k (.mk c0 c1 c2 c3 c4 c5 c6 v)) t v k)) (dg1 n)
structure P2 where
 mk::(g:H2→B) (s : {Z:Type}→H2→B→(H2→Z)→Z)
noncomputable def p2 (n:Nat):P2:=D.rec (motive:=fun _=>P2) (.mk (fun t=>(p1 n).g t.c0) (fun {Z} t v k=>H2.rec (motive:=fun _=>B→(H2→Z)→Z) (fun c0 c1 c2 c3 c4 c5 c6 c7 v k=>(p1 n).s c0 v fun y=>k (.mk y c1 c2 c3 c4 c5 c6 c7)) t v k)) (.mk (fun t=>(p1 n).g t.c1) (fun {Z} t v k=>H2.rec (motive:=fun _=>B→(H2→Z)→Z) (fun c0 c1 c2 c3 c4 c5 c6 c7 v k=>(p1 n).s c1 v fun y=>k (.mk c0 y c2 c3 c4 c5 c6 c7)) t v k)) (.mk (fun t=>(p1 n).g t.c2) (fun {Z} t v k=>H2.rec (motive:=fun _=>B→(H2→Z)→Z) (fun c0 c1 c2 c3 c4 c5 c6 c7 v k=>(p1 n).s c2 v fun y=>k (.mk c0 c1 y c3 c4 c5 c6 c7)) t v k)) (.mk (fun t=>(p1 n).g t.c3) (fun {Z} t v k=>H2.rec (motive:=fun _=>B→(H2→Z)→Z) (fun c0 c1 c2 c3 c4 c5 c6 c7 v k=>(p1 n).s c3 v fun y=>k (.mk c0 c1 c2 y c4 c5 c6 c7)) t v k)) (.mk (fun t=>(p1 n).g t.c4) (fun {Z} t v k=>H2.rec (motive:=fun _=>B→(H2→Z)→Z) (fun c0 c1 c2 c3 c4 c5 c6 c7 v k=>(p1 n).s c4 v fun y=>k (.mk c0 c1 c2 c3 y c5 c6 c7)) t v k)) (.mk (fun t=>(p1 n).g t.c5) (fun {Z} t v k=>H2.rec (motive:=fun _=>B→(H2→Z)→Z) (fun c0 c1 c2 c3 c4 c5 c6 c7 v k=>(p1 n).s c5 v fun y=>k (.mk c0 c1 c2 c3 c4 y c6 c7)) t v k)) (.mk (fun t=>(p1 n).g t.c6) (fun {Z} t v k=>H2.rec (motive:=fun _=>B→(H2→Z)→Z) (fun c0 c1 c2 c3 c4 c5 c6 c7 v k=>(p1 n).s c6 v fun y=>k (.mk c0 c1 c2 c3 c4 c5 y c7)) t v k)) (.mk (fun t=>(p1 n).g t.c7) (fun {Z} t v k=>H2.rec (motive:=fun _=>B→(H2→Z)→Z) (fun c0 c1 c2 c3 c4 c5 c6 c7 v k=>(p1 n).s c7 v fun y=>k (.mk c0 c1 c2 c3 c4 c5 c6 y)) t v k)) (dg2 n)
structure P3 where
 mk::(g:H3→B) (s : {Z:Type}→H3→B→(H3→Z)→Z)
noncomputable def p3 (n:Nat):P3:=D.rec (motive:=fun _=>P3) (.mk (fun t=>(p2 n).g t.c0) (fun {Z} t v k=>H3.rec (motive:=fun _=>B→(H3→Z)→Z) (fun c0 c1 c2 c3 c4 c5 c6 c7 v k=>(p2 n).s c0 v fun y=>k (.mk y c1 c2 c3 c4 c5 c6 c7)) t v k)) (.mk (fun t=>(p2 n).g t.c1) (fun {Z} t v k=>H3.rec (motive:=fun _=>B→(H3→Z)→Z) (fun c0 c1 c2 c3 c4 c5 c6 c7 v k=>(p2 n).s c1 v fun y=>k (.mk c0 y c2 c3 c4 c5 c6 c7)) t v k)) (.mk (fun t=>(p2 n).g t.c2) (fun {Z} t v k=>H3.rec (motive:=fun _=>B→(H3→Z)→Z) (fun c0 c1 c2 c3 c4 c5 c6 c7 v k=>(p2 n).s c2 v fun y=>k (.mk c0 c1 y c3 c4 c5 c6 c7)) t v k)) (.mk (fun t=>(p2 n).g t.c3) (fun {Z} t v k=>H3.rec (motive:=fun _=>B→(H3→Z)→Z) (fun c0 c1 c2 c3 c4 c5 c6 c7 v k=>(p2 n).s c3 v fun y=>k (.mk c0 c1 c2 y c4 c5 c6 c7)) t v k)) (.mk (fun t=>(p2 n).g t.c4) (fun {Z} t v k=>H3.rec (motive:=fun _=>B→(H3→Z)→Z) (fun c0 c1 c2 c3 c4 c5 c6 c7 v k=>(p2 n).s c4 v fun y=>k (.mk c0 c1 c2 c3 y c5 c6 c7)) t v k)) (.mk (fun t=>(p2 n).g t.c5) (fun {Z} t v k=>H3.rec (motive:=fun _=>B→(H3→Z)→Z) (fun c0 c1 c2 c3 c4 c5 c6 c7 v k=>(p2 n).s c5 v fun y=>k (.mk c0 c1 c2 c3 c4 y c6 c7)) t v k)) (.mk (fun t=>(p2 n).g t.c6) (fun {Z} t v k=>H3.rec (motive:=fun _=>B→(H3→Z)→Z) (fun c0 c1 c2 c3 c4 c5 c6 c7 v k=>(p2 n).s c6 v fun y=>k (.mk c0 c1 c2 c3 c4 c5 y c7)) t v k)) (.mk (fun t=>(p2 n).g t.c7) (fun {Z} t v k=>H3.rec (motive:=fun _=>B→(H3→Z)→Z) (fun c0 c1 c2 c3 c4 c5 c6 c7 v k=>(p2 n).s c7 v fun y=>k (.mk c0 c1 c2 c3 c4 c5 c6 y)) t v k)) (dg3 n)
structure P4 where
 mk::(g:H4→B) (s : {Z:Type}→H4→B→(H4→Z)→Z)
noncomputable def p4 (n:Nat):P4:=D.rec (motive:=fun _=>P4) (.mk (fun t=>(p3 n).g t.c0) (fun {Z} t v k=>H4.rec (motive:=fun _=>B→(H4→Z)→Z) (fun c0 c1 c2 c3 c4 c5 c6 c7 v k=>(p3 n).s c0 v fun y=>k (.mk y c1 c2 c3 c4 c5 c6 c7)) t v k)) (.mk (fun t=>(p3 n).g t.c1) (fun {Z} t v k=>H4.rec (motive:=fun _=>B→(H4→Z)→Z) (fun c0 c1 c2 c3 c4 c5 c6 c7 v k=>(p3 n).s c1 v fun y=>k (.mk c0 y c2 c3 c4 c5 c6 c7)) t v k)) (.mk (fun t=>(p3 n).g t.c2) (fun {Z} t v k=>H4.rec (motive:=fun _=>B→(H4→Z)→Z) (fun c0 c1 c2 c3 c4 c5 c6 c7 v k=>(p3 n).s c2 v fun y=>k (.mk c0 c1 y c3 c4 c5 c6 c7)) t v k)) (.mk (fun t=>(p3 n).g t.c3) (fun {Z} t v k=>H4.rec (motive:=fun _=>B→(H4→Z)→Z) (fun c0 c1 c2 c3 c4 c5 c6 c7 v k=>(p3 n).s c3 v fun y=>k (.mk c0 c1 c2 y c4 c5 c6 c7)) t v k)) (.mk (fun t=>(p3 n).g t.c4) (fun {Z} t v k=>H4.rec (motive:=fun _=>B→(H4→Z)→Z) (fun c0 c1 c2 c3 c4 c5 c6 c7 v k=>(p3 n).s c4 v fun y=>k (.mk c0 c1 c2 c3 y c5 c6 c7)) t v k)) (.mk (fun t=>(p3 n).g t.c5) (fun {Z} t v k=>H4.rec (motive:=fun _=>B→(H4→Z)→Z) (fun c0 c1 c2 c3 c4 c5 c6 c7 v k=>(p3 n).s c5 v fun y=>k (.mk c0 c1 c2 c3 c4 y c6 c7)) t v k)) (.mk (fun t=>(p3 n).g t.c6) (fun {Z} t v k=>H4.rec (motive:=fun _=>B→(H4→Z)→Z) (fun c0 c1 c2 c3 c4 c5 c6 c7 v k=>(p3 n).s c6 v fun y=>k (.mk c0 c1 c2 c3 c4 c5 y c7)) t v k)) (.mk (fun t=>(p3 n).g t.c7) (fun {Z} t v k=>H4.rec (motive:=fun _=>B→(H4→Z)→Z) (fun c0 c1 c2 c3 c4 c5 c6 c7 v k=>(p3 n).s c7 v fun y=>k (.mk c0 c1 c2 c3 c4 c5 c6 y)) t v k)) (dg4 n)
structure P5 where
 mk::(g:H5→B) (s : {Z:Type}→H5→B→(H5→Z)→Z)
noncomputable def p5 (n:Nat):P5:=D.rec (motive:=fun _=>P5) (.mk (fun t=>(p4 n).g t.c0) (fun {Z} t v k=>H5.rec (motive:=fun _=>B→(H5→Z)→Z) (fun c0 c1 c2 c3 c4 c5 c6 c7 v k=>(p4 n).s c0 v fun y=>k (.mk y c1 c2 c3 c4 c5 c6 c7)) t v k)) (.mk (fun t=>(p4 n).g t.c1) (fun {Z} t v k=>H5.rec (motive:=fun _=>B→(H5→Z)→Z) (fun c0 c1 c2 c3 c4 c5 c6 c7 v k=>(p4 n).s c1 v fun y=>k (.mk c0 y c2 c3 c4 c5 c6 c7)) t v k)) (.mk (fun t=>(p4 n).g t.c2) (fun {Z} t v k=>H5.rec (motive:=fun _=>B→(H5→Z)→Z) (fun c0 c1 c2 c3 c4 c5 c6 c7 v k=>(p4 n).s c2 v fun y=>k (.mk c0 c1 y c3 c4 c5 c6 c7)) t v k)) (.mk (fun t=>(p4 n).g t.c3) (fun {Z} t v k=>H5.rec (motive:=fun _=>B→(H5→Z)→Z) (fun c0 c1 c2 c3 c4 c5 c6 c7 v k=>(p4 n).s c3 v fun y=>k (.mk c0 c1 c2 y c4 c5 c6 c7)) t v k)) (.mk (fun t=>(p4 n).g t.c4) (fun {Z} t v k=>H5.rec (motive:=fun _=>B→(H5→Z)→Z) (fun c0 c1 c2 c3 c4 c5 c6 c7 v k=>(p4 n).s c4 v fun y=>k (.mk c0 c1 c2 c3 y c5 c6 c7)) t v k)) (.mk (fun t=>(p4 n).g t.c5) (fun {Z} t v k=>H5.rec (motive:=fun _=>B→(H5→Z)→Z) (fun c0 c1 c2 c3 c4 c5 c6 c7 v k=>(p4 n).s c5 v fun y=>k (.mk c0 c1 c2 c3 c4 y c6 c7)) t v k)) (.mk (fun t=>(p4 n).g t.c6) (fun {Z} t v k=>H5.rec (motive:=fun _=>B→(H5→Z)→Z) (fun c0 c1 c2 c3 c4 c5 c6 c7 v k=>(p4 n).s c6 v fun y=>k (.mk c0 c1 c2 c3 c4 c5 y c7)) t v k)) (.mk (fun t=>(p4 n).g t.c7) (fun {Z} t v k=>H5.rec (motive:=fun _=>B→(H5→Z)→Z) (fun c0 c1 c2 c3 c4 c5 c6 c7 v k=>(p4 n).s c7 v fun y=>k (.mk c0 c1 c2 c3 c4 c5 c6 y)) t v k)) (dg5 n)
noncomputable def TV.get (t:TV) (n:Nat):AV:=TV.rec (motive:=fun _=>Nat→AV) (fun x n=>(q1 n).g x) (fun x n=>(q2 n).g x) (fun x n=>(q3 n).g x) (fun x n=>(q4 n).g x) t n
noncomputable def TV.set {Z:Type} (t:TV) (n:Nat) (v:AV) (k:TV→Z):Z:=TV.rec (motive:=fun _=>Nat→AV→(TV→Z)→Z) (fun x n v k=>(q1 n).s x v fun y=>k (.s y)) (fun x n v k=>(q2 n).s x v fun y=>k (.t y)) (fun x n v k=>(q3 n).s x v fun y=>k (.m y)) (fun x n v k=>(q4 n).s x v fun y=>k (.l y)) t n v k
noncomputable def TV.emp {Z:Type} (n:Nat) (k:TV→Option Z):Option Z:=
 Bool.rec (motive:=fun _=>Option Z) (Bool.rec (motive:=fun _=>Option Z) (Bool.rec (motive:=fun _=>Option Z) (Bool.rec (motive:=fun _=>Option Z) none (k (.l L4.e)) (Nat.ble n 4096)) (k (.m L3.e)) (Nat.ble n 512)) (k (.t L2.e)) (Nat.ble n 64)) (k (.s L1.e)) (Nat.ble n 8)
end Go.Ev
end
section
set_option linter.unusedVariables false
set_option linter.constructorNameAsVariable false
namespace Go.Ev
open Go.Lw
@[irreducible] noncomputable def Pr:Program:=Go.Proofs.Tryz.prog
abbrev KV:=AV→H→R
/-! ### Values -/
noncomputable def of1 (v:Value):Option Sc:=match v with | .int k n=>some (.i k n) | .bool b=>some (.b b) | .agg _=>none | .tuple _=>none | v=>some (.o (.c v))
noncomputable def ofL:List Value→Option (List Sc)
 | []=>some []
 | v::l=>match of1 v,ofL l with | some s,some r=>some (s::r) | _,_=>none
noncomputable def ofV (v:Value):AV:=match v with | .int k n=>.x (.i k n) | .bool b=>.x (.b b) | .agg cs=>(match ofL cs.toList with | some l=>.a l | none=>.u) | .tuple _=>.u | v=>.x (.o (.c v))
noncomputable def obn {Y Z:Type} (o:Option Y) (k:Y→Option Z):Option Z:=Option.rec (motive:=fun _=>Option Z) none (fun y=>k y) o
noncomputable def gd {Z:Type} (b:Bool) (x:Option Z):Option Z:=Bool.rec (motive:=fun _=>Option Z) none x b
noncomputable def jZ {Z:Type} (b:Bool) (x y:Option Z):Option Z:=Bool.rec (motive:=fun _=>Option Z) y x b
noncomputable def asI_s {Z:Type} (s:Sc):(IntKind→Int→Option Z)→Option Z:=Sc.rec (motive:=fun _=>(IntKind→Int→Option Z)→Option Z) (fun k n K=>K k n) (fun _ _=>none) (fun _ _ _=>none) (fun _ _=>none) s
noncomputable def asI {Z:Type} (v:AV):(IntKind→Int→Option Z)→Option Z:=AV.rec (motive:=fun _=>(IntKind→Int→Option Z)→Option Z) (fun s=>asI_s s) (fun _ _=>none) (fun _ _=>none) v
noncomputable def asB_s {Z:Type} (s:Sc):(Bool→Option Z)→Option Z:=Sc.rec (motive:=fun _=>(Bool→Option Z)→Option Z) (fun _ _ _=>none) (fun b K=>K b) (fun _ _ _=>none) (fun _ _=>none) s
noncomputable def asB {Z:Type} (v:AV):(Bool→Option Z)→Option Z:=AV.rec (motive:=fun _=>(Bool→Option Z)→Option Z) (fun s=>asB_s s) (fun _ _=>none) (fun _ _=>none) v
noncomputable def asP_s {Z:Type} (s:Sc):(Nat→Nat→Option Z)→Option Z:=Sc.rec (motive:=fun _=>(Nat→Nat→Option Z)→Option Z) (fun _ _ _=>none) (fun _ _=>none) (fun i o K=>K i o) (fun _ _=>none) s
noncomputable def asP {Z:Type} (v:AV):(Nat→Nat→Option Z)→Option Z:=AV.rec (motive:=fun _=>(Nat→Nat→Option Z)→Option Z) (fun s=>asP_s s) (fun _ _=>none) (fun _ _=>none) v
noncomputable def asO_s {Z:Type} (s:Sc):(So→Option Z)→Option Z:=Sc.rec (motive:=fun _=>(So→Option Z)→Option Z) (fun _ _ _=>none) (fun _ _=>none) (fun _ _ _=>none) (fun x K=>K x) s
noncomputable def asO {Z:Type} (v:AV):(So→Option Z)→Option Z:=AV.rec (motive:=fun _=>(So→Option Z)→Option Z) (fun s=>asO_s s) (fun _ _=>none) (fun _ _=>none) v
noncomputable def asA {Z:Type} (v:AV):(List Sc→Option Z)→Option Z:=AV.rec (motive:=fun _=>(List Sc→Option Z)→Option Z) (fun _ _=>none) (fun l K=>K l) (fun _ _=>none) v
noncomputable def asT {Z:Type} (v:AV):(List (Sc ⊕ List Sc)→Option Z)→Option Z:=AV.rec (motive:=fun _=>(List (Sc ⊕ List Sc)→Option Z)→Option Z) (fun _ _=>none) (fun _ _=>none) (fun l K=>K l) v
noncomputable def frc_s {Z:Type} (s:Sc):(Sc→Z)→Z:=Sc.rec (motive:=fun _=>(Sc→Z)→Z) (fun k n K=>K (.i k n)) (fun b K=>K (.b b)) (fun i o K=>K (.p i o)) (fun x K=>K (.o x)) s
noncomputable def frc {Z:Type} (v:AV):(AV→Z)→Z:=AV.rec (motive:=fun _=>(AV→Z)→Z) (fun s K=>K (.x s)) (fun l K=>K (.a l)) (fun l K=>K (.t l)) v
noncomputable def cel {Z:Type} (s:Sc):(Sc→Option Z)→Option Z:=Sc.rec (motive:=fun _=>(Sc→Option Z)→Option Z) (fun k n K=>K (.i k n)) (fun b K=>K (.b b)) (fun i o K=>K (.p i o)) (fun x K=>gd (So.rec (motive:=fun _=>Bool) false false (fun _ _ _ _=>true) (fun _ _ _ _=>true) (fun _=>true) (fun _=>true) (fun _=>true) true (fun _=>true) x) (K (.o x))) s
structure Ev where
 mk::(v:L3→AV)
noncomputable def evO (x:Operand):Ev:=Operand.rec (motive:=fun _=>Ev) (fun t=>.mk fun τ=>(q3 t).g τ) (fun v=>.mk fun _=>ofV v) (fun g=>.mk fun _=>.u) (fun f=>.mk fun _=>.x (.o (.c (.func (.func f) #[] #[])))) x
/-! ### Numbers -/
noncomputable def kNo (k:IntKind):Nat:=IntKind.rec (motive:=fun _=>Nat) 0 1 2 3 4 5 6 7 k
noncomputable def lim (k:IntKind):Nat:=IntKind.rec (motive:=fun _=>Nat) 128 32768 2147483648 9223372036854775808 256 65536 4294967296 18446744073709551616 k
noncomputable def bts (k:IntKind):Nat:=IntKind.rec (motive:=fun _=>Nat) 8 16 32 64 8 16 32 64 k
noncomputable def sgn (k:IntKind):Bool:=IntKind.rec (motive:=fun _=>Bool) true true true true false false false false k
noncomputable def frcI (k:IntKind) (n:Int):Option AV:=Int.rec (motive:=fun _=>IntKind→Option AV) (fun m k=>nat m fun m=>some (.i k (.ofNat m))) (fun m k=>nat m fun m=>some (.i k (.negSucc m))) n k
noncomputable def mkI (k:IntKind) (n:Int):Option AV:=
 Int.rec (motive:=fun _=>IntKind→Option AV)
  (fun m k=>nat m fun m=>jZ (Nat.blt m (lim k)) (some (.i k (.ofNat m))) (frcI k (k.wrap (.ofNat m))))
  (fun m k=>nat m fun m=>jZ (sgn k && Nat.blt m (lim k)) (some (.i k (.negSucc m))) (frcI k (k.wrap (.negSucc m)))) n k
noncomputable def jF (x y:Int):Bool:=Int.rec (motive:=fun _=>Int→Bool) (fun a y=>Int.rec (motive:=fun _=>Nat→Bool) (fun b a=>Nat.ble a b) (fun _ _=>false) y a) (fun a y=>Int.rec (motive:=fun _=>Nat→Bool) (fun _ _=>true) (fun b a=>Nat.ble b a) y a) x y
noncomputable def ieqB (x y:Int):Bool:=Int.rec (motive:=fun _=>Int→Bool) (fun a y=>Int.rec (motive:=fun _=>Nat→Bool) (fun b a=>Nat.beq a b) (fun _ _=>false) y a) (fun a y=>Int.rec (motive:=fun _=>Nat→Bool) (fun _ _=>false) (fun b a=>Nat.beq a b) y a) x y
noncomputable def bl (b:Bool):Option AV:=Bool.rec (motive:=fun _=>Option AV) (some (.b false)) (some (.b true)) b
noncomputable def blN (b:Bool):Option AV:=Bool.rec (motive:=fun _=>Option AV) (some (.b true)) (some (.b false)) b
noncomputable def two {Z:Type} (x y:AV) (K:IntKind→Int→Int→Option Z):Option Z:=asI x fun k a=>asI y fun k' b=>gd (Nat.beq (kNo k) (kNo k')) (K k a b)
noncomputable def nn {Z:Type} (a:Int) (K:Nat→Option Z):Option Z:=Int.rec (motive:=fun _=>(Nat→Option Z)→Option Z) (fun a K=>K a) (fun _ _=>none) a K
noncomputable def bitE (f:(n:Nat)→BitVec n→BitVec n→BitVec n) (k:IntKind) (a b:Int):Option AV:=frcI k (k.wrap ((f k.bits (BitVec.ofInt k.bits a) (BitVec.ofInt k.bits b)).toNat:Int))
/-! ### Equality -/
noncomputable def lvF (g:TypeId→Option (List Nat)):List Field→Option (List Nat)
 | []=>some []
 | f::fs=>match tkB Pr f.type,g f.type,lvF g fs with
  | some z,some l,some r=>gd (f.name != "_" && l.all (fun i=>Nat.blt i z.2)) (some (l.map (f.offset + ·)++r))
  | _,_,_=>none
noncomputable def lvs:Nat→TypeId→Option (List Nat)
 | 0,_=>none
 | d+1,t=>match Pr.underlying t with
  | some (.int _)=>some [0]
  | some (.struct fs)=>jZ (Pr.stoodInHeld t) none (lvF (lvs d) fs.toList)
  | some (.array n E)=>(match tkB Pr E,lvs d E with
   | some z,some l=>gd (l.all fun i=>Nat.blt i z.2) (some ((List.range n).flatMap fun i=>l.map (i*z.2 + ·)))
   | _,_=>none)
  | _=>none
noncomputable def agB (t:TypeId):Option Nat:=match tkB Pr t with | some z=>(match lvs 8 t with | some l=>gd (z.1 && l == List.range z.2 && !Pr.eqGuardType Pr.depth t) (some z.2) | none=>none) | none=>none
inductive Cl | ag (n:Nat) | pt | sl | st
noncomputable def clsB (t:TypeId):Option Cl:=match Pr.underlying t with
 | some (.pointer E)=>(match tkB Pr E with | some z=>jZ (Nat.beq z.2 0) none (some .pt) | none=>none)
 | some (.slice _)=>some .sl
 | some .string=>some .st
 | some (.struct _)=>(agB t).map .ag
 | some (.array _ _)=>(agB t).map .ag
 | _=>none
noncomputable def eqI (x y:Sc) (K:Bool→Option Bool):Option Bool:=Sc.rec (motive:=fun _=>Option Bool) (fun k a=>Sc.rec (motive:=fun _=>Option Bool) (fun k' b=>gd (Nat.beq (kNo k) (kNo k')) (K (ieqB a b))) (fun _=>none) (fun _ _=>none) (fun _=>none) y) (fun _=>none) (fun _ _=>none) (fun _=>none) x
noncomputable def eqL (n:Nat) (l m:List Sc):Option Bool:=
 Nat.rec (motive:=fun _=>List Sc→List Sc→Option Bool) (fun l m=>List.rec (motive:=fun _=>Option Bool) (List.rec (motive:=fun _=>Option Bool) (some true) (fun _ _ _=>none) m) (fun _ _ _=>none) l)
  (fun _ ih l m=>List.rec (motive:=fun _=>Option Bool) none (fun x l _=>List.rec (motive:=fun _=>Option Bool) none (fun y m _=>eqI x y fun b=>jZ b (ih l m) (some false)) m) l) n l m
noncomputable def len {α:Type} (l:List α):Nat:=List.rec (motive:=fun _=>Nat) 0 (fun _ _ n=>Nat.succ n) l
noncomputable def eqP (x y:Sc):Option Bool:=match x,y with
 | .p i o,.p j q=>gd (Nat.beq i j && Nat.beq o q) (some true)
 | .p ..,.o (.c (.pointer none))=>some false
 | .o (.c (.pointer none)),.p ..=>some false
 | .o (.c (.pointer none)),.o (.c (.pointer none))=>some true
 | _,_=>none
noncomputable def eqS (x y:Sc):Option Bool:=match x,y with
 | .o (.s ..),.o (.c (.slice none _ _))=>some false
 | .o (.w ..),.o (.c (.slice none _ _))=>some false
 | .o (.c (.slice none _ _)),.o (.c (.slice none _ _))=>some true
 | _,_=>none
noncomputable def eqT (x y:Sc):Option Bool:=match x,y with
 | .o (.c (.string s)),.o (.c (.string t))=>some (s == t)
 | _,_=>none
structure Be where
 mk::(g:AV→AV→Option Bool)
noncomputable def xx (x y:AV) (K:Sc→Sc→Option Bool):Option Bool:=AV.rec (motive:=fun _=>Option Bool) (fun x=>AV.rec (motive:=fun _=>Option Bool) (fun y=>K x y) (fun _=>none) (fun _=>none) y) (fun _=>none) (fun _=>none) x
noncomputable def eqE (t:TypeId):Be:=Option.rec (motive:=fun _=>Be) (.mk fun x y=>xx x y fun x y=>eqI x y some)
 (fun c=>Cl.rec (motive:=fun _=>Be) (fun n=>.mk fun x y=>asA x fun l=>asA y fun m=>gd (Nat.beq (len l) n && Nat.beq (len m) n) (eqL n l m)) (.mk fun x y=>xx x y eqP) (.mk fun x y=>xx x y eqS) (.mk fun x y=>xx x y eqT) c) (clsB t)
structure Bi where
 mk::(g:AV→AV→Option AV)
noncomputable def addS (x y:AV):Option AV:=match x,y with
 | .x (.o (.c (.string s))),.x (.o (.c (.string t)))=>gd (Nat.blt (s.size+t.size) 9223372036854775808) (some (.x (.o (.c (.string (s++t))))))
 | x,y=>two x y fun k a b=>mkI k (a+b)
noncomputable def isSt (t:TypeId):Bool:=match Pr.underlying t with | some .string=>true | _=>false
noncomputable def binE (op:BinOp) (t:TypeId):Bi:=BinOp.rec (motive:=fun _=>Bi) (Bool.rec (motive:=fun _=>Bi) (.mk fun x y=>two x y fun k a b=>mkI k (a+b)) (.mk addS) (isSt t)) (.mk fun x y=>two x y fun k a b=>mkI k (a-b)) (.mk fun x y=>two x y fun k a b=>mkI k (a*b)) (.mk fun x y=>two x y fun k a b=>gd (!ieqB b 0) (mkI k (Int.tdiv a b))) (.mk fun x y=>two x y fun k a b=>gd (!ieqB b 0) (frcI k (Int.tmod a b))) (.mk fun x y=>two x y fun k a b=>bitE (fun _ a b=>a &&& b) k a b) (.mk fun x y=>two x y fun k a b=>bitE (fun _ a b=>a ||| b) k a b) (.mk fun x y=>two x y fun k a b=>bitE (fun _ a b=>a ^^^ b) k a b) (.mk fun x y=>asI x fun k a=>asI y fun _ b=>nn a fun a=>nn b fun b=>gd (Nat.ble b (bts k)) (mkI k (.ofNat (Nat.shiftLeft a b)))) (.mk fun x y=>asI x fun k a=>asI y fun _ b=>nn a fun a=>nn b fun b=>gd (Nat.ble b (bts k)) (frcI k (.ofNat (Nat.shiftRight a b)))) (.mk fun x y=>two x y fun k a b=>bitE (fun _ a b=>a &&& ~~~b) k a b) (.mk fun x y=>obn ((eqE t).g x y) bl) (.mk fun x y=>obn ((eqE t).g x y) blN) (.mk fun x y=>two x y fun k a b=>blN (jF b a)) (.mk fun x y=>two x y fun k a b=>bl (jF a b)) (.mk fun x y=>two x y fun k a b=>blN (jF a b)) (.mk fun x y=>two x y fun k a b=>bl (jF b a)) op
structure Un where
 mk::(g:AV→Option AV)
noncomputable def unE (op:UnOp):Un:=UnOp.rec (motive:=fun _=>Un) (.mk fun x=>asI x fun k a=>mkI k (0-a)) (.mk fun _=>none) (.mk fun x=>asB x fun b=>blN b) (.mk fun _=>none) op
/-! ### Memory -/
noncomputable def hget (h:H) (id:Nat):B:=(p5 id).g h.t
noncomputable def jB {Z:Type} (h:H) (id:Nat):(Nat→Nat→TV→Option Z)→Option Z:=B.rec (motive:=fun _=>(Nat→Nat→TV→Option Z)→Option Z) (fun _=>none) (fun E n t K=>K E n t) (fun E n t K=>K E n t) (fun _ _=>none) (hget h id)
noncomputable def rowK (h:H) (id:Nat):(Nat→Nat→TV→R)→R:=B.rec (motive:=fun _=>(Nat→Nat→TV→R)→R) (fun _=>none) (fun _ _ _ _=>none) (fun E n t K=>K E n t) (fun _ _=>none) (hget h id)
noncomputable def blkO {Z:Type} (h:H) (id:Nat):(BO→Option Z)→Option Z:=B.rec (motive:=fun _=>(BO→Option Z)→Option Z) (fun _=>none) (fun _ _ _ _=>none) (fun _ _ _ _=>none) (fun b K=>K b) (hget h id)
noncomputable def editB (h:H) (id:Nat):(Nat→TV→(TV→B)→R)→R:=B.rec (motive:=fun _=>(Nat→TV→(TV→B)→R)→R) (fun _=>none) (fun E n t K=>K n t (.c E n)) (fun E n t K=>K n t (.r E n)) (fun _ _=>none) (hget h id)
noncomputable def kU (h:H) (id:Nat) (b:B) (K:H→R):R:=H.rec (motive:=fun _=>R) (fun nxt lo ac t=>(p5 id).s t b fun t=>K (.mk nxt (bif Nat.ble lo id then lo else id) ac t)) h
noncomputable def jm (h:H) (id:Nat) (b:B) (K:H→R):R:=H.rec (motive:=fun _=>R) (fun nxt lo ac t=>(p5 id).s t b fun t=>K (.mk nxt lo ac t)) h
noncomputable def newB (h:H) (b:B) (K:Nat→H→R):R:=H.rec (motive:=fun _=>R) (fun nxt lo ac t=>nat nxt fun n=>jZ (Nat.blt n 32768) ((p5 n).s t b fun t=>K n (.mk (Nat.succ n) lo ac t)) none) h
noncomputable def shut {Z:Type} (h:H) (a:Nat×Nat) (K:Nat→Nat→H→Z):Z:=H.rec (motive:=fun _=>Z) (fun nxt lo ac t=>nat nxt fun n=>K n lo (.mk n n a t)) h
noncomputable def setLo {Z:Type} (h:H) (f:Nat→Nat) (a:Nat×Nat) (K:H→Z):Z:=H.rec (motive:=fun _=>Z) (fun nxt lo _ t=>nat (f lo) fun lo=>K (.mk nxt lo a t)) h
noncomputable def okW (h:H) (id:Nat):Bool:=Nat.ble h.lo id || Nat.beq h.ac.1 (Nat.succ id) || Nat.beq h.ac.2 (Nat.succ id)
noncomputable def scal {Z:Type} (v:AV) (K:Sc→Option Z):Option Z:=AV.rec (motive:=fun _=>(Sc→Option Z)→Option Z) (fun s K=>frc_s s K) (fun _ _=>none) (fun _ _=>none) v K
noncomputable def getL {Z:Type} (t:TV) (off n:Nat) (K:List Sc→Option Z):Option Z:=
 Nat.rec (motive:=fun _=>TV→Nat→(List Sc→Option Z)→Option Z) (fun _ _ K=>K []) (fun _ ih t off K=>nat off fun off=>scal (t.get off) fun v=>ih t (Nat.succ off) fun l=>K (v::l)) n t off K
noncomputable def setL {Z:Type} (l:List Sc) (t:TV) (off:Nat) (K:TV→Option Z):Option Z:=
 List.rec (motive:=fun _=>TV→Nat→(TV→Option Z)→Option Z) (fun t _ K=>K t) (fun v _ ih t off K=>nat off fun off=>t.set off (.x v) fun t=>ih t (Nat.succ off) K) l t off K
noncomputable def cellsOf {Z:Type} (v:AV):(List Sc→Option Z)→Option Z:=AV.rec (motive:=fun _=>(List Sc→Option Z)→Option Z) (fun s K=>cel s fun s=>K [s]) (fun l K=>K l) (fun _ _=>none) v
structure Ld where
 mk::(g:AV→H→Option AV)
noncomputable def loadE (T:TypeId):Ld:=
 Option.rec (motive:=fun _=>Ld) (.mk fun _ _=>none) (fun z=>Bool.rec (motive:=fun _=>Ld) (.mk fun x h=>asP x fun id off=>jB h id fun E n t=>gd (Nat.blt off n) (scal (t.get off) fun v=>some (.x v)))
  (.mk fun x h=>asP x fun id off=>jB h id fun E n t=>gd (Nat.ble (off+z.2) n) (getL t off z.2 fun l=>some (.a l))) z.1) (tkB Pr T)
structure St where
 mk::(g:AV→AV→H→(H→R)→R)
noncomputable def storeE (T:TypeId):St:=Option.rec (motive:=fun _=>St) (.mk fun _ _ _ _=>none) (fun z=>.mk fun x v h K=>
 asP x fun id off=>editB h id fun n t mk=>cellsOf v fun l=>gd (Nat.beq (len l) z.2 && Nat.ble (off+z.2) n) (setL l t off fun t=>kU h id (mk t) K)) (tkB Pr T)
structure Al where
 mk::(b:B) (v:Nat→AV)
noncomputable def cellsN (E:TypeId) (l:List Sc):Option B:=nat (len l) fun n=>TV.emp n fun t=>setL l t 0 fun t=>some (.c E n t)
noncomputable def rowN (E:TypeId) (l:List Sc):Option B:=nat (len l) fun n=>TV.emp n fun t=>setL l t 0 fun t=>some (.r E n t)
structure Zr where
 mk::(g:Option (List Sc))
noncomputable def zeroE (T:TypeId):Zr:=Option.rec (motive:=fun _=>Zr) (.mk none) (fun v=>.mk (cellsOf (ofV v) some)) (zW Pr T)
structure Az where
 mk::(g:Option Al)
noncomputable def allocE (E:TypeId):Az:=Option.rec (motive:=fun _=>Az) (.mk none) (fun l=>Option.rec (motive:=fun _=>Az) (.mk none) (fun b=>.mk (some (.mk b fun id=>.x (.p id 0)))) (cellsN E l)) (zeroE E).g
noncomputable def boxE (E:TypeId) (v:AV):Option Al:=cellsOf v fun l=>obn (cellsN E l) fun b=>some (.mk b fun id=>.x (.p id 0))
noncomputable def jJ (S f:Nat):Un:=Option.rec (motive:=fun _=>Un) (.mk fun _=>none) (fun k=>.mk fun x=>asP x fun id off=>nat (off+k) fun o=>some (.x (.p id o))) (foB Pr S f)
noncomputable def elB (X:TypeId):Option (Nat×Nat):=match Pr.underlying X with
 | some (.slice E)=>(tkB Pr E).map fun z=>(E,z.2)
 | _=>none
noncomputable def arB (X:TypeId):Option (Nat×Nat×Nat×Bool):=match Pr.underlying X with
 | some (.array n E)=>(tkB Pr E).map fun z=>(n,E,z.2,z.1)
 | _=>none
noncomputable def paB (X:TypeId):Option (Nat×Nat×Nat×Bool):=match Pr.underlying X with
 | some (.pointer A)=>arB A
 | _=>arB X
noncomputable def idx {Z:Type} (i:Int) (len:Nat) (K:Nat→Option Z):Option Z:=Int.rec (motive:=fun _=>Nat→(Nat→Option Z)→Option Z) (fun j len K=>gd (Nat.blt j len) (K j)) (fun _ _ _=>none) i len K
noncomputable def el {Z:Type} (X:TypeId) (K:Nat→Nat→Option Z):Option Z:=Option.rec (motive:=fun _=>(Nat→Nat→Option Z)→Option Z) (fun _=>none) (fun z K=>K z.1 z.2) (elB X) K
noncomputable def ar {Z:Type} (X:TypeId) (K:Nat×Nat×Nat×Bool→Option Z):Option Z:=Option.rec (motive:=fun _=>(Nat×Nat×Nat×Bool→Option Z)→Option Z) (fun _=>none) (fun z K=>K z) (arB X) K
noncomputable def pa {Z:Type} (X:TypeId) (K:Nat×Nat×Nat×Bool→Option Z):Option Z:=Option.rec (motive:=fun _=>(Nat×Nat×Nat×Bool→Option Z)→Option Z) (fun _=>none) (fun z K=>K z) (paB X) K
noncomputable def iaO (x:So):TypeId→Int→Option AV:=So.rec (motive:=fun _=>TypeId→Int→Option AV) (fun _ _=>none) (fun _ _=>none) (fun id off n _ X j=>el X fun _ s=>idx j n fun j=>nat (off+j*s) fun o=>some (.x (.p id o))) (fun id off n _ X j=>el X fun _ s=>idx j n fun j=>nat (off+j*s) fun o=>some (.x (.p id o))) (fun _ _ _=>none) (fun _ _ _=>none) (fun _ _ _=>none) (fun _ _=>none) (fun _ _ _=>none) x
noncomputable def iaS (x:Sc):TypeId→Int→Option AV:=Sc.rec (motive:=fun _=>TypeId→Int→Option AV) (fun _ _ _ _=>none) (fun _ _ _=>none) (fun id off X j=>ar X fun q=>idx j q.1 fun j=>nat (off+j*q.2.2.1) fun o=>some (.x (.p id o))) (fun x=>iaO x) x
noncomputable def iaE (x:AV):TypeId→Int→Option AV:=AV.rec (motive:=fun _=>TypeId→Int→Option AV) (fun s=>iaS s) (fun _ _ _=>none) (fun _ _ _=>none) x
noncomputable def indexAddrE (X:TypeId) (x y:AV):Option AV:=asI y fun _ j=>iaE x X j
noncomputable def drp {α:Type} (l:List α) (n:Nat):List α:=Nat.rec (motive:=fun _=>List α→List α) (fun l=>l) (fun _ ih l=>List.rec (motive:=fun _=>List α) [] (fun _ l _=>ih l) l) n l
noncomputable def tke {Z:Type} (l:List Sc) (n:Nat) (K:List Sc→Option Z):Option Z:=Nat.rec (motive:=fun _=>List Sc→(List Sc→Option Z)→Option Z) (fun _ K=>K []) (fun _ ih l K=>List.rec (motive:=fun _=>Option Z) none (fun v l _=>ih l fun r=>K (v::r)) l) n l K
noncomputable def hdE (l:List Sc):Option AV:=List.rec (motive:=fun _=>Option AV) none (fun v _ _=>frc_s v fun v=>some (.x v)) l
noncomputable def prt (ag:Bool) (off s:Nat) (l:List Sc):Option AV:=
 Bool.rec (motive:=fun _=>Nat→Nat→List Sc→Option AV) (fun off _ l=>hdE (drp l off)) (fun off s l=>tke (drp l off) s fun r=>some (.a r)) ag off s l
noncomputable def fdB (S f:Nat):Option (Nat×Bool×Nat):=match Pr.underlying S with
 | some (.struct fs)=>match fs[f]? with
  | some fd=>(tkB Pr fd.type).map fun z=>(fd.offset,z.1,z.2)
  | none=>none
 | _=>none
noncomputable def fieldE (S f:Nat):Un:=Option.rec (motive:=fun _=>Un) (.mk fun _=>none) (fun z=>.mk fun x=>asA x fun l=>prt z.2.1 z.1 z.2.2 l) (fdB S f)
noncomputable def byteAt (s:ByteArray) (j:Nat):Option Nat:=(s[j]?).map (·.toNat)
noncomputable def ixV (v:Value) (j:Int):Option AV:=match v with | .string s=>idx j s.size fun j=>(match byteAt s j with | some b=>nat b fun b=>some (.i .u8 (.ofNat b)) | none=>none) | _=>none
noncomputable def ixO (x:So):Int→Option AV:=So.rec (motive:=fun _=>Int→Option AV) (fun _=>none) (fun _=>none) (fun _ _ _ _ _=>none) (fun _ _ _ _ _=>none) (fun _ _=>none) (fun _ _=>none) (fun _ _=>none) (fun _=>none) (fun v j=>ixV v j) x
noncomputable def ixS (x:Sc):Int→Option AV:=Sc.rec (motive:=fun _=>Int→Option AV) (fun _ _ _=>none) (fun _ _=>none) (fun _ _ _=>none) (fun x=>ixO x) x
noncomputable def ixE (x:AV):TypeId→Int→Option AV:=AV.rec (motive:=fun _=>TypeId→Int→Option AV) (fun s X j=>gd (isSt X) (ixS s j)) (fun l X j=>ar X fun q=>idx j q.1 fun j=>prt q.2.2.2 (j*q.2.2.1) q.2.2.1 l) (fun _ _ _=>none) x
noncomputable def indexE (X:TypeId) (x y:AV):Option AV:=asI y fun _ j=>ixE x X j
noncomputable def plB (X:TypeId) (i:Nat):Option (Nat×Nat):=match Pr.underlying X with
 | some (.struct fs)=>gd (fs.toList.all fun f=>(tkB Pr f.type).isSome) (match fs[i]? with | some fd=>(tkB Pr fd.type).map fun z=>(fd.offset,z.2) | none=>none)
 | some (.array _ E)=>(tkB Pr E).map fun z=>(i*z.2,z.2)
 | some (.slice E)=>(tkB Pr E).map fun z=>(i*z.2,z.2)
 | _=>none
noncomputable def app {α:Type} (a b:List α):List α:=List.rec (motive:=fun _=>List α→List α) (fun b=>b) (fun v _ ih b=>v::ih b) a b
noncomputable def spl {Z:Type} (off:Nat) (cs l:List Sc) (K:List Sc→Option Z):Option Z:=tke l off fun a=>gd (Nat.ble (off+len cs) (len l)) (K (app a (app cs (drp l (off+len cs)))))
noncomputable def fillE {Z:Type} (X:TypeId) (τ:L3) (ps:List (Nat×Operand)) (l:List Sc) (K:List Sc→Option Z):Option Z:=
 List.rec (motive:=fun _=>TypeId→L3→List Sc→(List Sc→Option Z)→Option Z) (fun _ _ l K=>K l) (fun p _ ih X τ l K=>Option.rec (motive:=fun _=>Option Z) none (fun z=>cellsOf ((evO p.2).v τ) fun cs=>gd (Nat.beq (len cs) z.2) (spl z.1 cs l fun l=>ih X τ l K)) (plB X p.1)) ps X τ l K
noncomputable def aggT (t:TypeId):Bool:=match Pr.underlying t with | some (.struct fs)=>fs.toList.all fun f=>(tkB Pr f.type).isSome | some (.array _ E)=>(tkB Pr E).isSome | _=>false
noncomputable def buildE (X:TypeId) (ps:List (Nat×Operand)) (τ:L3):Option AV:=gd (aggT X) (obn (zeroE X).g fun l=>fillE X τ ps l fun l=>some (.a l))
noncomputable def repL (l:List Sc) (m:Nat):List Sc:=Nat.rec (motive:=fun _=>List Sc) [] (fun _ ih=>app l ih) m
noncomputable def jK (X:TypeId) (m:Nat) (ps:List (Nat×Operand)) (τ:L3):Option Al:=
 el X fun E s=>gd (Nat.ble (m*s) 4096) (obn (zeroE E).g fun l=>gd (Nat.beq (len l) s) (fillE X τ ps (repL l m) fun l=>obn (cellsN E l) fun b=>some (.mk b fun id=>.x (.o (.s id 0 m m)))))
noncomputable def szB (E:TypeId):Bool:=match rowB Pr E with | some t=>Nat.ble t.2.2 1073741824 && Nat.blt 0 t.2.1 && Nat.beq t.1.cells.size t.2.1 | none=>false
noncomputable def makeSliceE (X:TypeId) (x y:AV):Option Al:=
 el X fun E s=>asI x fun _ a=>asI y fun _ b=>nn a fun a=>nn b fun b=>gd (Nat.ble a b && Nat.ble b 100000 && szB E) (obn (zeroE E).g fun l=>gd (Nat.beq (len l) s) (obn (cellsN E (repL l b)) fun bk=>some (.mk bk fun id=>.x (.o (.s id 0 a b)))))
noncomputable def qw {Z:Type} (x:Option Operand) (τ:L3) (d:Nat) (K:Nat→Option Z):Option Z:=
 Option.rec (motive:=fun _=>L3→Nat→(Nat→Option Z)→Option Z) (fun _ d K=>K d) (fun o τ d K=>asI ((evO o).v τ) fun _ n=>nn n fun n=>K n) x τ d K
noncomputable def bgn (off l m s:Nat):Nat:=off+Nat.rec (motive:=fun _=>Nat) 0 (fun _ _=>l*s) (m-l)
noncomputable def cut (id off s l u m:Nat):Option AV:=nat (bgn off l m s) fun o=>nat (u-l) fun n=>nat (m-l) fun c=>some (.x (.o (.s id o n c)))
noncomputable def slV (v:Value) (X:TypeId) (lo hi mx:Option Operand) (τ:L3):Option AV:=match v with
 | .slice none 0 0=>el X fun _ _=>qw lo τ 0 fun l=>qw hi τ 0 fun u=>qw mx τ 0 fun m=>gd (Nat.beq (l+u+m) 0) (some (.x (.o (.c (.slice none 0 0)))))
 | .string s=>gd (isSt X) (match mx with | none=>qw lo τ 0 fun l=>qw hi τ s.size fun u=>gd (Nat.ble l u && Nat.ble u s.size) (some (.x (.o (.c (.string (s.extract l u)))))) | some _=>none)
 | _=>none
noncomputable def slO (x:So):TypeId→Option Operand→Option Operand→Option Operand→L3→Option AV:=So.rec (motive:=fun _=>TypeId→Option Operand→Option Operand→Option Operand→L3→Option AV) (fun _ _ _ _ _=>none) (fun _ _ _ _ _=>none) (fun id off len cap X lo hi mx τ=>el X fun _ s=>qw lo τ 0 fun l=>qw hi τ len fun u=>qw mx τ cap fun m=>gd (Nat.ble l u && Nat.ble u m && Nat.ble m cap) (cut id off s l u m)) (fun id off len ct X lo hi mx τ=>el X fun _ s=>qw lo τ 0 fun l=>qw hi τ len fun u=>Option.rec (motive:=fun _=>Option AV) (gd (Nat.ble l u && Nat.ble u len) (jZ (Nat.blt l len || Nat.beq l 0) (nat (off+l*s) fun o=>nat (u-l) fun n=>nat (ct+l) fun c=>some (.x (.o (.w id o n c)))) (some (.x (.o .e))))) (fun mo=>qw (some mo) τ 0 fun m=>gd (Nat.ble l u && Nat.ble u m && Nat.ble m len) (cut id off s l u m)) mx) (fun _ _ _ _ _ _=>none) (fun _ _ _ _ _ _=>none) (fun _ _ _ _ _ _=>none) (fun X lo hi mx τ=>el X fun _ _=>qw lo τ 0 fun l=>qw hi τ 0 fun u=>Option.rec (motive:=fun _=>Option AV) (gd (Nat.beq (l+u) 0) (some (.x (.o .e)))) (fun _=>none) mx) (fun v X lo hi mx τ=>slV v X lo hi mx τ) x
noncomputable def slS (x:Sc):TypeId→Option Operand→Option Operand→Option Operand→L3→Option AV:=Sc.rec (motive:=fun _=>TypeId→Option Operand→Option Operand→Option Operand→L3→Option AV) (fun _ _ _ _ _ _ _=>none) (fun _ _ _ _ _ _=>none) (fun id off X lo hi mx τ=>pa X fun q=>qw lo τ 0 fun l=>qw hi τ q.1 fun u=>qw mx τ q.1 fun m=>gd (Nat.ble l u && Nat.ble u m && Nat.ble m q.1) (cut id off q.2.2.1 l u m)) (fun x=>slO x) x
noncomputable def sliceV (x:AV):TypeId→Option Operand→Option Operand→Option Operand→L3→Option AV:=AV.rec (motive:=fun _=>TypeId→Option Operand→Option Operand→Option Operand→L3→Option AV) (fun s=>slS s) (fun _ _ _ _ _ _=>none) (fun _ _ _ _ _ _=>none) x
noncomputable def okM (hi mx:Option Operand):Bool:=match hi,mx with | none,some _=>false | _,_=>true
noncomputable def sliceE (x:AV) (X:TypeId) (lo hi mx:Option Operand) (τ:L3):Option AV:=gd (okM hi mx) (sliceV x X lo hi mx τ)
noncomputable def nlV {Z:Type} (v:Value) (K:Option Z):Option Z:=match v with | .slice none 0 0=>K | _=>none
noncomputable def lnV (v:Value):Option AV:=match v with | .slice none 0 0=>some (.i .i64 (.ofNat 0)) | .string s=>nat s.size fun n=>gd (Nat.blt n 9223372036854775808) (some (.i .i64 (.ofNat n))) | .map none=>some (.i .i64 (.ofNat 0)) | _=>none
noncomputable def iLn (n:Nat):Option AV:=gd (Nat.blt n 9223372036854775808) (some (.i .i64 (.ofNat n)))
noncomputable def lnO (x:So):H→Option AV:=So.rec (motive:=fun _=>H→Option AV) (fun _=>none) (fun _=>none) (fun _ _ l _ h=>iLn l) (fun _ _ l _ h=>iLn l) (fun id h=>blkO h id fun b=>(match b with | .m l=>nat (len l) fun n=>iLn n | _=>none)) (fun _ _=>none) (fun _ _=>none) (fun _=>iLn 0) (fun v h=>lnV v) x
noncomputable def cpO (x:So):Option AV:=So.rec (motive:=fun _=>Option AV) (none) (none) (fun _ _ _ c=>iLn c) (fun _ _ _ _=>none) (fun _=>none) (fun _=>none) (fun _=>none) (none) (fun v=>nlV v (iLn 0)) x
noncomputable def csE {Z:Type} (id off l s:Nat) (h:H) (K:Nat→List Sc→Option Z):Option Z:=Nat.rec (motive:=fun _=>Option Z) (K 0 []) (fun _ _=>jB h id fun E n t=>gd (Nat.ble (off+l*s) n) (getL t off (l*s) fun r=>K l r)) l
noncomputable def cellsS {Z:Type} (x:So):Nat→H→(Nat→List Sc→Option Z)→Option Z:=So.rec (motive:=fun _=>Nat→H→(Nat→List Sc→Option Z)→Option Z) (fun _ _ _=>none) (fun _ _ _=>none) (fun id off l _ s h K=>csE id off l s h K) (fun id off l _ s h K=>csE id off l s h K) (fun _ _ _ _=>none) (fun _ _ _ _=>none) (fun _ _ _ _=>none) (fun _ _ K=>K 0 []) (fun v _ h K=>nlV v (K 0 [])) x
noncomputable def stV {Z:Type} (v:Value) (K:Nat→List Sc→Option Z):Option Z:=match v with | .string s=>nat s.size fun n=>K n (s.toList.map fun b=>.i .u8 (.ofNat b.toNat)) | _=>none
noncomputable def fits (n m:Nat):Bool:=Nat.ble m 8 || (Nat.blt 8 n && Nat.ble m 64) || (Nat.blt 64 n && Nat.ble m 512) || (Nat.blt 512 n && Nat.ble m 4096)
noncomputable def newV (h:H) (b:Option B) (v:Nat→AV) (K:KV):R:=obn b fun b=>newB h b fun id h=>K (v id) h
noncomputable def apO (x:So):Nat→Nat→Nat→List Sc→H→KV→R:=So.rec (motive:=fun _=>Nat→Nat→Nat→List Sc→H→KV→R) (fun _ _ _ _ _ _=>none) (fun _ _ _ _ _ _=>none) (fun id off l c E s m new h K=>jZ (Nat.ble (l+m) c) (editB h id fun n t mk=>gd (Nat.ble (off+(l+m)*s) n) (setL new t (off+l*s) fun t=>kU h id (mk t) fun h=>nat (l+m) fun lm=>K (.x (.o (.s id off lm c))) h)) (csE id off l s h fun _ old=>nat (l+m) fun lm=>newV h (rowN E (app old new)) (fun id=>.x (.o (.w id 0 lm 0))) K)) (fun id off l c E s m new h K=>rowK h id fun E' n t=>gd (Nat.beq E' E && Nat.beq off (c*s) && Nat.blt 0 s) (jZ (Nat.ble (off+(l+m)*s) n) (setL new t (off+l*s) fun t=>kU h id (.r E n t) fun h=>nat (l+m) fun lm=>K (.x (.o (.w id off lm c))) h) (gd (Nat.beq off 0 && Nat.beq c 0 && Nat.ble (l*s) n) (kU h id .x fun h=>nat ((l+m)*s) fun n'=>Bool.rec (motive:=fun _=>R) (TV.emp n' fun t'=>getL t 0 (l*s) fun old=>setL old t' 0 fun t=>setL new t (l*s) fun t=>newB h (.r E n' t) fun id h=>nat (l+m) fun lm=>K (.x (.o (.w id 0 lm 0))) h) (setL new t n fun t=>newB h (.r E n' t) fun id h=>nat (l+m) fun lm=>K (.x (.o (.w id 0 lm 0))) h) (Nat.beq (l*s) n && fits n n'))))) (fun _ _ _ _ _ _ _=>none) (fun _ _ _ _ _ _ _=>none) (fun _ _ _ _ _ _ _=>none) (fun _ _ _ _ _ _=>none) (fun v E s m new h K=>nlV v (nat m fun m=>newV h (rowN E new) (fun id=>.x (.o (.w id 0 m 0))) K)) x
noncomputable def apZ (x:So):H→KV→R:=So.rec (motive:=fun _=>H→KV→R) (fun _ _=>none) (fun _ _=>none) (fun id off l c h K=>gd (Nat.ble l c) (K (.x (.o (.s id off l c))) h)) (fun id off l c h K=>K (.x (.o (.w id off l c))) h) (fun _ _ _=>none) (fun _ _ _=>none) (fun _ _ _=>none) (fun h K=>K (.x (.o .e)) h) (fun v h K=>nlV v (K (.x (.o (.c v))) h)) x
noncomputable def appW (E s:Nat) (x:AV) (m:Nat) (new:List Sc) (h:H) (K:KV):R:=Nat.rec (motive:=fun _=>R) (asO x fun x=>apZ x h K) (fun _ _=>gd (Nat.ble (m*s) 4096) (asO x fun x=>apO x E s m new h K)) m
noncomputable def isB (E:TypeId):Bool:=match Pr.underlying E with | some (.int .u8)=>true | _=>false
structure Ap where
 mk::(g:AV→AV→H→KV→R)
noncomputable def apK (Y:TypeId):Nat:=match Pr.underlying Y with | some (.int _)=>0 | some .string=>1 | some (.slice _)=>2 | _=>3
noncomputable def apdE (X Y:TypeId):Ap:=Option.rec (motive:=fun _=>Ap) (.mk fun _ _ _ _=>none) (fun e=>Bool.rec (motive:=fun _=>Ap) (.mk fun _ _ _ _=>none) (
 Nat.rec (motive:=fun _=>Ap) (Option.rec (motive:=fun _=>Ap) (.mk fun _ _ _ _=>none) (fun z=>.mk fun x y h K=>asI y fun _ n=>nn n fun m=>gd (Nat.beq (len z) e.2 && Nat.blt 0 m && Nat.ble (m*e.2) 4096) (asO x fun x=>(match x with | .c v=>nlV v (nat m fun m=>newV h (rowN e.1 (repL z m)) (fun id=>.x (.o (.w id 0 m 0))) K) | _=>none))) (zeroE e.1).g)
  (fun k _=>Nat.rec (motive:=fun _=>Ap) (.mk fun x y h K=>gd (isB e.1 && Nat.beq e.2 1) (asO y fun y=>(match y with | .c v=>stV v fun m new=>appW e.1 e.2 x m new h K | _=>none)))
   (fun k _=>Nat.rec (motive:=fun _=>Ap) (.mk fun x y h K=>asO y fun y=>cellsS y e.2 h fun m new=>appW e.1 e.2 x m new h K) (fun _ _=>.mk fun _ _ _ _=>none) k) k) (apK Y)) (szB e.1)) (elB X)
noncomputable def storeL (id off:Nat) (l:List Sc) (h:H) (K:H→R):R:=editB h id fun n t mk=>gd (Nat.ble (off+len l) n) (setL l t off fun t=>kU h id (mk t) K)
noncomputable def cpE (id off l m s:Nat) (new:List Sc) (h:H) (K:KV):R:=nat (bif Nat.ble l m then l else m) fun q=>Nat.rec (motive:=fun _=>R) (obn (iLn 0) fun v=>K v h) (fun _ _=>tke new (q*s) fun new=>storeL id off new h fun h=>obn (iLn q) fun v=>K v h) q
noncomputable def cpyO (x:So):Nat→Nat→List Sc→H→KV→R:=So.rec (motive:=fun _=>Nat→Nat→List Sc→H→KV→R) (fun _ _ _ _ _=>none) (fun _ _ _ _ _=>none) (fun id off l _ s m new h K=>cpE id off l m s new h K) (fun id off l _ s m new h K=>cpE id off l m s new h K) (fun _ _ _ _ _ _=>none) (fun _ _ _ _ _ _=>none) (fun _ _ _ _ _ _=>none) (fun _ _ _ _ _=>none) (fun v s m new h K=>nlV v (obn (iLn 0) fun v=>K v h)) x
noncomputable def copyE (X:TypeId) (x y:AV) (h:H) (K:KV):R:=el X fun E s=>asO y fun y=>cellsS y s h fun m new=>asO x fun x=>cpyO x s m new h K
noncomputable def clE (id off l:Nat) (X:TypeId) (h:H) (K:KV):R:=el X fun E s=>obn (zeroE E).g fun q=>Nat.rec (motive:=fun _=>R) (K (.t []) h) (fun _ _=>gd (Nat.beq (len q) s) (storeL id off (repL q l) h fun h=>K (.t []) h)) l
noncomputable def clO (x:So):TypeId→H→KV→R:=So.rec (motive:=fun _=>TypeId→H→KV→R) (fun _ _ _=>none) (fun _ _ _=>none) (fun id off l _ X h K=>clE id off l X h K) (fun id off l _ X h K=>clE id off l X h K) (fun _ _ _ _=>none) (fun _ _ _ _=>none) (fun _ _ _ _=>none) (fun _ _ _=>none) (fun v X h K=>nlV v (el X fun _ _=>K (.t []) h)) x
/-! ### Maps -/
noncomputable def kyB (X:TypeId):Option (TypeId×TypeId):=match Pr.underlying X with | some (.map K V)=>some (K,V) | _=>none
structure My where
 mk::(n:Nat) (eq:AV→AV→Option Bool) (z:AV)
noncomputable def kiB (t:TypeId):Option Nat:=match Pr.underlying t with | some (.int _)=>some 0 | _=>(agB t).map (· + 1)
noncomputable def jW (n:Nat) (x y:AV):Option Bool:=Nat.rec (motive:=fun _=>Option Bool) (xx x y fun x y=>eqI x y some) (fun n _=>asA x fun l=>asA y fun m=>gd (Nat.beq (len l) n && Nat.beq (len m) n) (eqL n l m)) n
noncomputable def nums (l:List Sc):Bool:=List.rec (motive:=fun _=>Bool) true (fun s _ ih=>Sc.rec (motive:=fun _=>Bool) (fun _ _=>ih) (fun _=>false) (fun _ _=>false) (fun _=>false) s) l
noncomputable def kD {Z:Type} (n:Nat) (y:AV) (K:AV→Option Z):Option Z:=Nat.rec (motive:=fun _=>Option Z) (asI y fun k a=>K (.i k a)) (fun n _=>asA y fun l=>gd (Nat.beq (len l) n && nums l) (K (.a l))) n
noncomputable def mapK (X:TypeId):Option My:=Option.rec (motive:=fun _=>Option My) none (fun q=>Option.rec (motive:=fun _=>Option My) none (fun n=>Option.rec (motive:=fun _=>Option My) none (fun z=>some (.mk n (jW n) (ofV z))) (zW Pr q.2)) (kiB q.1)) (kyB X)
noncomputable def findM (eq:AV→AV→Option Bool) (k:AV) (l:List (AV×AV)):Option (Option AV):=
 List.rec (motive:=fun _=>Option (Option AV)) (some none) (fun e _ ih=>obn (eq k e.1) fun b=>jZ b (some (some e.2)) ih) l
noncomputable def putM (eq:AV→AV→Option Bool) (k v:AV) (l:List (AV×AV)):Option (List (AV×AV)):=
 List.rec (motive:=fun _=>Option (List (AV×AV))) (some [(k,v)]) (fun e l ih=>obn (eq k e.1) fun b=>jZ b (some ((k,v)::l)) (obn ih fun r=>some (e::r))) l
noncomputable def delM (eq:AV→AV→Option Bool) (k:AV) (l:List (AV×AV)):Option (List (AV×AV)):=
 List.rec (motive:=fun _=>Option (List (AV×AV))) (some []) (fun e l ih=>obn (eq k e.1) fun b=>jZ b (some l) (obn ih fun r=>some (e::r))) l
noncomputable def asM {Z:Type} (x:AV) (K:Nat→Option Z):Option Z:=asO x fun x=>(match x with | .m id=>K id | _=>none)
noncomputable def mapB {Z:Type} (h:H) (id:Nat) (K:List (AV×AV)→Option Z):Option Z:=blkO h id fun b=>(match b with | .m l=>K l | _=>none)
noncomputable def toSum {Z:Type} (v:AV) (K:Sc ⊕ List Sc→Option Z):Option Z:=AV.rec (motive:=fun _=>(Sc ⊕ List Sc→Option Z)→Option Z) (fun s K=>K (.inl s)) (fun l K=>K (.inr l)) (fun _ _=>none) v K
noncomputable def lkV (ok b:Bool) (v:AV):Option AV:=jZ ok (toSum v fun v=>some (.t [v,.inl (.b b)])) (some v)
noncomputable def lookupE (X:TypeId) (x y:AV) (ok:Bool) (h:H):Option AV:=obn (mapK X) fun k=>kD k.n y fun y=>asM x fun id=>mapB h id fun l=>obn (findM k.eq y l) fun o=>Option.rec (motive:=fun _=>Option AV) (lkV ok false k.z) (fun v=>lkV ok true v) o
noncomputable def updE (X:TypeId) (x y v:AV) (h:H) (K:H→R):R:=obn (mapK X) fun k=>kD k.n y fun y=>asM x fun id=>mapB h id fun l=>obn (putM k.eq y v l) fun l=>kU h id (.o (.m l)) K
noncomputable def delE (X:TypeId) (x y:AV) (h:H) (K:H→R):R:=obn (mapK X) fun k=>kD k.n y fun y=>asM x fun id=>blkO h id fun b=>(match b with
 | .m l=>obn (delM k.eq y l) fun l=>kU h id (.o (.m l)) K
 | .g key gone l=>obn (k.eq y key) fun b=>gd (b && !gone && okW h id) (jm h id (.o (.g key true l)) K)
 | _=>none)
noncomputable def isMp (X:TypeId):Bool:=match Pr.underlying X with | some (.map _ _)=>true | _=>false
noncomputable def rangeE (x:AV) (h:H) (K:KV):R:=asM x fun mid=>mapB h mid fun l=>kU h mid (.o .h) fun h=>newB h (.o (.i mid l)) fun id h=>K (.x (.p id 0)) h
noncomputable def both (a b:R):R:=obn a fun l=>obn b fun m=>some (app l m)
noncomputable def nxF:AV:=.t [.inl (.b false)]
noncomputable def nxT (k v:AV) (K:AV→R):R:=toSum k fun k=>toSum v fun v=>K (.t [.inl (.b true),k,v])
noncomputable def eachB (pre rem:List (AV×AV)) (K:AV×AV→List (AV×AV)→R):R:=
 List.rec (motive:=fun _=>List (AV×AV)→R) (fun _=>some []) (fun e r ih pre=>both (K e (app pre r)) (ih (app pre [e]))) rem pre
noncomputable def stepB (id m:Nat) (l rem:List (AV×AV)) (h:H) (K:KV):R:=
 List.rec (motive:=fun _=>R) (kU h id (.o .z) fun h=>kU h m (.o (.m l)) fun h=>K nxF h) (fun _ _ _=>eachB [] rem fun e r=>kU h id (.o (.c m e.1 e.2 l r)) fun h=>nxT e.1 e.2 fun v=>K v h) rem
noncomputable def shpK (k:AV):Option Nat:=match k with | .x (.i _ _)=>some 0 | .a l=>some (Nat.succ (len l)) | _=>none
noncomputable def neK (n:Nat) (k:AV) (l:List (AV×AV)):Bool:=List.rec (motive:=fun _=>Bool) true (fun e _ ih=>match jW n k e.1,jW n e.1 k with | some false,some false=>ih | _,_=>false) l
noncomputable def dstK (l:List (AV×AV)):Bool:=List.rec (motive:=fun _=>Bool) true (fun e l ih=>match shpK e.1 with | some n=>neK n e.1 l && ih | none=>false) l
noncomputable def eachJ (l:List ((AV×AV)×Bool)) (K:Nat→(AV×AV)×Bool→R) (E:R) (i:Nat):R:=List.rec (motive:=fun _=>Nat→R) (fun _=>E) (fun e _ ih i=>both (K i e) (ih (Nat.succ i))) l i
noncomputable def stay (l:List ((AV×AV)×Bool)):List (AV×AV):=List.rec (motive:=fun _=>List (AV×AV)) [] (fun e _ ih=>Bool.rec (motive:=fun _=>List (AV×AV)) ih (e.1::ih) e.2) l
noncomputable def nextO (id:Nat) (b:BO) (h:H) (K:KV):R:=match b with
 | .i m l=>stepB id m l l h K
 | .b m l rem=>stepB id m l rem h K
 | .c m _ _ l rem=>stepB id m l rem h K
 | .j m l x=>gd (okW h id && okW h m) (eachJ l (fun i e=>jm h id (.o (.k m e.1.1 e.1.2 l e.2 x (Nat.beq x (Nat.succ i)))) fun h=>jm h m (.o (.g e.1.1 false l)) fun h=>nxT e.1.1 e.1.2 fun v=>K v h) (Bool.rec (motive:=fun _=>R) (gd (Nat.ble x (len l)) (some [])) (jm h id (.o .z) fun h=>jm h m (.o (.m (stay l))) fun h=>K nxF h) (Nat.beq x 0)) 0)
 | .q m k v=>jm h id (.o (.k m k v [] true 0 false)) fun h=>jm h m (.o (.g k false [])) fun h=>nxT k v fun v=>K v h
 | _=>none
noncomputable def nextE (x:AV) (h:H) (K:KV):R:=asP x fun id off=>gd (Nat.beq off 0) (blkO h id fun b=>nextO id b h K)
end Go.Ev
end
section
namespace Go.Ev
structure Orc where
 mk::(g:List AV→H→KV→R)
noncomputable def Mg (f:FuncId):Nat:=bif Nat.beq f 142 then 1 else bif Nat.beq f 441 then 1 else bif Nat.beq f 22 then 2 else 0
end Go.Ev
end
