/- Texts that the last one of this claim imports. -/
import Derived.Shelf.Sort.Plain
import Derived.Test.YtfmmggphdeiajaaGreatDoorProg
import Derived.KernelRfl
import Derived.Lib.SliceRun
import Derived.Shelf.SlSortCmp.NoneTotal
import Derived.WalkKit
import Derived.Deep.QuietTactic
import Derived.Test.YtfmmggphdeiajaaGreatDoorQ2
set_option linter.unusedVariables false
set_option linter.unusedSimpArgs false
set_option linter.unusedSectionVars false
section
namespace Go.Gl
structure Rg where
 lo:Int
 hi:Int
structure Dy where
 lo:Int
 hi:Int
 pot:Int
structure Pn where
 lo:Int
 hi:Int
 sp:Int
structure Sm where
 t:Int
 g:Int
 deriving DecidableEq
structure Bn where
 w:Int
 p:Int
 each:List Sm
abbrev iv (x:Int):Value:=.int .i64 x
abbrev sme (s:Sm):List Value:=[iv s.t,iv s.g]
abbrev smv (s:Sm):Value:=.agg #[iv s.t,iv s.g]
theorem ivs {a b:Int} (h:a=b):some (iv a)=some (iv b):=by rw[h]
theorem qB {α:Type} (enc:α→List Value) (l m:List α):Go.Lw.flat enc (l++m)=Go.Lw.flat enc l++Go.Lw.flat enc m:=by simp[Go.Lw.flat]
theorem jd (x:Int):(Go.Lw.ei x).length=1:=rfl
theorem take_snoc' {α:Type} {l:List α} {k:Nat} {e:α} (h:l[k]? = some e):l.take (k+1)=l.take k++[e]:=by
 obtain⟨hk,he⟩:=List.getElem?_eq_some_iff.1 h
 rw[List.take_succ_eq_append_getElem hk,he]
def outB (lo hi:Int) (n:Int):Bool:=decide (n<lo) || decide (hi<n)
def wi (lo hi:Int) (l:List Int):Bool:=!(l.any (outB lo hi))
theorem wi1 (lo hi a:Int):wi lo hi [a]=decide (lo≤a∧a≤hi):=by
 simp only[wi,outB,List.any_cons,List.any_nil,Bool.or_false]
 rw[Bool.eq_iff_iff]; simp
structure Ok (d:Dy) (ps:List Pn):Prop where
 l0:1≤d.lo
 l1:d.lo≤d.hi
 l2:d.hi≤240
 p0:1≤d.pot
 p1:d.pot≤200
 n10:ps.length≤10
 each:∀ p∈ps,1≤p.lo∧p.lo≤p.hi∧p.hi≤240∧1≤p.sp∧p.sp≤200
def Sm.and (a b:Sm):Sm:=⟨a.t+b.t,a.g+b.g⟩
def sm0:Sm:=⟨0,0⟩
def eachP (B:Bn) (i:Int):Sm:=B.each.getD i.toNat sm0
def sumL (B:Bn) (l:List Int):Sm:=l.foldl (fun s i=>s.and (eachP B i)) sm0
def fitE (B:Bn) (s:Sm):Int:=if B.w<s.t then 22 else if B.p<s.g then 10 else 0
structure BnOk (B:Bn):Prop where
 w0:1≤B.w
 w1:B.w≤240
 p0:1≤B.p
 p1:B.p≤200
 n10:B.each.length≤10
 each:∀ s∈B.each,1≤s.t∧s.t≤240∧1≤s.g∧s.g≤200
end Go.Gl
end
section
set_option linter.unusedVariables false
namespace Go.Proofs.YtfmmggphdeiajaaGreatDoor.P
open Go.Lw Go.Ps Go.RowKit
open Go.Gl (iv ivs qB)
theorem isList_f (l:List Int) (n:Int) (V:View) (v:Value) (hs:SlI V v l):Fnc Tryz.prog 34 [v,iv n] V fun r _=>∃ b,r=.bool b∧(b=true↔IsL l n):=by
 have hlen:=hs.qI
 obtain⟨a,cc,rfl,k1,k2,_⟩:=id hs
 clear k1 k2
 refine zS Tryz.func34 rfl Tryz.ntmps34 (Nat.le_of_ble_eq_true rfl) ?_
 intro w0 hw0
 refine At.nrm ?_
 refine At.zh (.q 0 .done) ?_
 refine AtT.zf ?_
 refine AtT.done ?_
 refine At.nrm ?_
 refine At.zh (.q 0 .done) ?_
 refine AtT.zf ?_
 refine AtT.done ?_
 refine At.nrm ?_
 refine At.lp (ι:=Nat) (KS:=fun k=>[(0,.slice a l.length cc),(1,iv n),(5,iv k)]) (OS:=fun _=>[])
  (VS:=fun k V'=>V'=V∧k≤l.length∧IsL (l.take k) n) (μ:=fun k=>l.length-k) 0 ?_ ?_ ?_ ?_
 ·exact⟨rfl,rfl,rfl,trivial⟩
 ·exact Pt.zx
 ·exact⟨rfl,Nat.zero_le _,⟨fun x hx=>by simp at hx,by simp⟩⟩
 rintro k V' ks' O' ⟨rfl,hkl,hup⟩ hk hO hl
 subst hk hO
 refine At.nrm ?_
 refine At.zh (.q 0 (.q 1 (.q 2 (.q 3 .done)))) ?_
 refine AtT.ze ?_
 refine AtT.ze ?_
 first | refine AtT.zK Tryz.underlying22 ?_ | refine AtT.zL Tryz.underlying22 ?_
 refine AtT.qg ?_
 refine AtT.done ?_
 refine At.nrm ?_
 refine At.zZ rfl (fun hp=>?_) (fun hp=>?_)
 ·obtain⟨x,hx⟩:∃ x,l[k]? = some x:=⟨_,List.getElem?_eq_getElem (by omega)⟩
  have hkl1:k<l.length:=by omega
  refine At.nrm ?_
  by_cases c1:x<0
  ·refine At.draw (.q 0 (.q 1 (.q 2 (.q 3 (.q 4 (.q 5 (.q 6 (.q 7 (.q 8 (.q 9 (.q 10 (.q 11 (.q 12 (.q 13 (.q 14 (.q 15 (.q 16 (.q 17 (.q 18 (.q 19 (.q 20 (.q 21 (.q 22 (.q 23 (.q 24 (.q 25 (.q 26 (.q 27 (.q 28 .done))))))))))))))))))))))))))))) ffm (by kernel_rfl) ?_
   refine AtT.ze ?_
   refine AtT.ze ?_
   refine AtT.zU Tryz.underlying22 tk3 ?_
   intro p14 e14 he14 hc14
   obtain rfl:x=e14:=by have:l[k]? = some e14:=(by simpa using he14); rw[hx]at this; simpa using this
   first | refine AtT.zk tk3 ?_ | refine AtT.zo tk3 ?_
   refine AtT.qg ?_
   refine AtT.jv (d:=16) rfl (c1) ?_
   refine AtT.ze ?_
   all_goals (first | refine AtT.kL 17 ?_ | refine AtT.zD (d:=17) rfl (fun hg17=>?_) (fun hg17=>?_) | refine AtT.zC (d:=17) rfl (fun hg17=>?_) (fun hg17=>?_))
   all_goals first|refine AtT.zi ?_|refine AtT.zg ?_|(refine AtT.ze ?_)
   all_goals first|refine AtT.zi ?_|refine AtT.zg ?_|(refine AtT.ze ?_)
   all_goals first|refine AtT.zi ?_|refine AtT.zg ?_|(refine AtT.zU Tryz.underlying22 tk3 ?_);(intro p20 e20 he20 hc20)
   all_goals first|refine AtT.zi ?_|refine AtT.zg ?_|(first | refine AtT.zk tk3 ?_ | refine AtT.zo tk3 ?_)
   all_goals first|refine AtT.zi ?_|refine AtT.zg ?_|(refine AtT.ze ?_)
   all_goals first|refine AtT.zi ?_|refine AtT.zg ?_|(refine AtT.kgeq ?_)
   all_goals (refine AtT.zF ?_)
   all_goals (refine AtT.ze ?_)
   all_goals (first | refine AtT.kL 25 ?_ | refine AtT.zD (d:=25) rfl (fun hg25=>?_) (fun hg25=>?_) | refine AtT.zC (d:=25) rfl (fun hg25=>?_) (fun hg25=>?_))
   all_goals first|refine AtT.zi ?_|refine AtT.zg ?_|(refine AtT.ze ?_)
   all_goals first|refine AtT.zi ?_|refine AtT.zg ?_|(refine AtT.qx ?_)
   all_goals first|refine AtT.zi ?_|refine AtT.zg ?_|(refine AtT.ze ?_)
   all_goals (first | refine AtT.kL 28 ?_ | refine AtT.zD (d:=28) rfl (fun hg28=>?_) (fun hg28=>?_) | refine AtT.zC (d:=28) rfl (fun hg28=>?_) (fun hg28=>?_))
   all_goals first|refine AtT.zi ?_|refine AtT.zg ?_|(refine AtT.ze ?_)
   all_goals first|refine AtT.zi ?_|refine AtT.zg ?_|(refine AtT.ze ?_)
   all_goals first|refine AtT.zi ?_|refine AtT.zg ?_|(refine AtT.zU Tryz.underlying22 tk3 ?_);(intro p31 e31 he31 hc31)
   all_goals first|refine AtT.zi ?_|refine AtT.zg ?_|(first | refine AtT.zk tk3 ?_ | refine AtT.zo tk3 ?_)
   all_goals first|refine AtT.zi ?_|refine AtT.zg ?_|(refine AtT.ze ?_)
   all_goals first|refine AtT.zi ?_|refine AtT.zg ?_|(refine AtT.ze ?_)
   all_goals first|refine AtT.zi ?_|refine AtT.zg ?_|(first | refine AtT.ksubt ?_ | refine AtT.ksubW ?_)
   all_goals first|refine AtT.zi ?_|refine AtT.zg ?_|(refine AtT.zU Tryz.underlying22 tk3 ?_);(intro p36 e36 he36 hc36)
   all_goals first|refine AtT.zi ?_|refine AtT.zg ?_|(first | refine AtT.zk tk3 ?_ | refine AtT.zo tk3 ?_)
   all_goals first|refine AtT.zi ?_|refine AtT.zg ?_|(refine AtT.kleq ?_)
   all_goals first|refine AtT.zi ?_|refine AtT.zg ?_|(refine AtT.zF ?_)
   all_goals (refine AtT.zF ?_)
   all_goals refine AtT.done ?_
   all_goals (refine At.nrm ?_)
   refine At.qK rfl rfl ?_
   refine At.nrm ?_
   refine At.zh (.q 0 .done) ?_
   refine AtT.zf ?_
   refine AtT.done ?_
   refine At.nrm ?_
   exact At.zT rfl (.tmp rfl) ⟨false,rfl,fun h=>by(cases h),fun h=>by have:=h.bd x (List.mem_of_getElem? hx); omega⟩
  by_cases c2:n≤x
  ·refine At.draw (.q 0 (.q 1 (.q 2 (.q 3 (.q 4 (.q 5 (.q 6 (.q 7 (.q 8 (.q 9 (.q 10 (.q 11 (.q 12 (.q 13 (.q 14 (.q 15 (.q 16 (.q 17 (.q 18 (.q 19 (.q 20 (.q 21 (.q 22 (.q 23 (.q 24 (.q 25 (.q 26 (.q 27 (.q 28 .done))))))))))))))))))))))))))))) ffm (by kernel_rfl) ?_
   refine AtT.ze ?_
   refine AtT.ze ?_
   refine AtT.zU Tryz.underlying22 tk3 ?_
   intro p14 e14 he14 hc14
   obtain rfl:x=e14:=by have:l[k]? = some e14:=(by simpa using he14); rw[hx]at this; simpa using this
   first | refine AtT.zk tk3 ?_ | refine AtT.zo tk3 ?_
   refine AtT.qg ?_
   refine AtT.qA (d:=16) rfl (c1) ?_
   refine AtT.ze ?_
   all_goals (first | refine AtT.kL 17 ?_ | refine AtT.zD (d:=17) rfl (fun hg17=>?_) (fun hg17=>?_) | refine AtT.zC (d:=17) rfl (fun hg17=>?_) (fun hg17=>?_))
   all_goals first|refine AtT.zi ?_|refine AtT.zg ?_|(refine AtT.ze ?_)
   all_goals first|refine AtT.zi ?_|refine AtT.zg ?_|(refine AtT.ze ?_)
   all_goals first|refine AtT.zi ?_|refine AtT.zg ?_|(refine AtT.zU Tryz.underlying22 tk3 ?_);(intro p20 e20 he20 hc20)
   all_goals (obtain rfl:x=e20:=by have:l[k]? = some e20:=(by simpa using he20); rw[hx]at this; simpa using this)
   all_goals first|refine AtT.zi ?_|refine AtT.zg ?_|(first | refine AtT.zk tk3 ?_ | refine AtT.zo tk3 ?_)
   all_goals first|refine AtT.zi ?_|refine AtT.zg ?_|(refine AtT.ze ?_)
   all_goals first|refine AtT.zi ?_|refine AtT.zg ?_|(refine AtT.kgeq ?_)
   all_goals (refine AtT.jv (d:=23) rfl (c2) ?_)
   all_goals (refine AtT.zF ?_)
   all_goals (refine AtT.ze ?_)
   all_goals (first | refine AtT.kL 25 ?_ | refine AtT.zD (d:=25) rfl (fun hg25=>?_) (fun hg25=>?_) | refine AtT.zC (d:=25) rfl (fun hg25=>?_) (fun hg25=>?_))
   all_goals first|refine AtT.zi ?_|refine AtT.zg ?_|(refine AtT.ze ?_)
   all_goals first|refine AtT.zi ?_|refine AtT.zg ?_|(refine AtT.qx ?_)
   all_goals first|refine AtT.zi ?_|refine AtT.zg ?_|(refine AtT.ze ?_)
   all_goals (first | refine AtT.kL 28 ?_ | refine AtT.zD (d:=28) rfl (fun hg28=>?_) (fun hg28=>?_) | refine AtT.zC (d:=28) rfl (fun hg28=>?_) (fun hg28=>?_))
   all_goals first|refine AtT.zi ?_|refine AtT.zg ?_|(refine AtT.ze ?_)
   all_goals first|refine AtT.zi ?_|refine AtT.zg ?_|(refine AtT.ze ?_)
   all_goals first|refine AtT.zi ?_|refine AtT.zg ?_|(refine AtT.zU Tryz.underlying22 tk3 ?_);(intro p31 e31 he31 hc31)
   all_goals first|refine AtT.zi ?_|refine AtT.zg ?_|(first | refine AtT.zk tk3 ?_ | refine AtT.zo tk3 ?_)
   all_goals first|refine AtT.zi ?_|refine AtT.zg ?_|(refine AtT.ze ?_)
   all_goals first|refine AtT.zi ?_|refine AtT.zg ?_|(refine AtT.ze ?_)
   all_goals first|refine AtT.zi ?_|refine AtT.zg ?_|(first | refine AtT.ksubt ?_ | refine AtT.ksubW ?_)
   all_goals first|refine AtT.zi ?_|refine AtT.zg ?_|(refine AtT.zU Tryz.underlying22 tk3 ?_);(intro p36 e36 he36 hc36)
   all_goals first|refine AtT.zi ?_|refine AtT.zg ?_|(first | refine AtT.zk tk3 ?_ | refine AtT.zo tk3 ?_)
   all_goals first|refine AtT.zi ?_|refine AtT.zg ?_|(refine AtT.kleq ?_)
   all_goals first|refine AtT.zi ?_|refine AtT.zg ?_|(refine AtT.zF ?_)
   all_goals (refine AtT.zF ?_)
   all_goals refine AtT.done ?_
   all_goals (refine At.nrm ?_)
   refine At.qK rfl rfl ?_
   refine At.nrm ?_
   refine At.zh (.q 0 .done) ?_
   refine AtT.zf ?_
   refine AtT.done ?_
   refine At.nrm ?_
   exact At.zT rfl (.tmp rfl) ⟨false,rfl,fun h=>by(cases h),fun h=>by have:=h.bd x (List.mem_of_getElem? hx); omega⟩
  have hxn:∀ y∈l.take (k+1),0≤y∧y<n:=fun y hy=>by
   rw[List.take_succ_eq_append_getElem hkl1]at hy
   rcases List.mem_append.1 hy with h | h
   ·exact hup.bd y h
   ·rw[List.getElem?_eq_getElem hkl1]at hx
    obtain rfl:y=l[k]:=by simpa using h
    obtain rfl:l[k]=x:=by simpa using hx
    omega
  by_cases c3:k=0
  ·refine At.draw (.q 0 (.q 1 (.q 2 (.q 3 (.q 4 (.q 5 (.q 6 (.q 7 (.q 8 (.q 9 (.q 10 (.q 11 (.q 12 (.q 13 (.q 14 (.q 15 (.q 16 (.q 17 (.q 18 (.q 19 (.q 20 (.q 21 (.q 22 (.q 23 (.q 24 (.q 25 (.q 26 (.q 27 (.q 28 .done))))))))))))))))))))))))))))) ffm (by kernel_rfl) ?_
   refine AtT.ze ?_
   refine AtT.ze ?_
   refine AtT.zU Tryz.underlying22 tk3 ?_
   intro p14 e14 he14 hc14
   obtain rfl:x=e14:=by have:l[k]? = some e14:=(by simpa using he14); rw[hx]at this; simpa using this
   first | refine AtT.zk tk3 ?_ | refine AtT.zo tk3 ?_
   refine AtT.qg ?_
   refine AtT.qA (d:=16) rfl (c1) ?_
   refine AtT.ze ?_
   all_goals (first | refine AtT.kL 17 ?_ | refine AtT.zD (d:=17) rfl (fun hg17=>?_) (fun hg17=>?_) | refine AtT.zC (d:=17) rfl (fun hg17=>?_) (fun hg17=>?_))
   all_goals first|refine AtT.zi ?_|refine AtT.zg ?_|(refine AtT.ze ?_)
   all_goals first|refine AtT.zi ?_|refine AtT.zg ?_|(refine AtT.ze ?_)
   all_goals first|refine AtT.zi ?_|refine AtT.zg ?_|(refine AtT.zU Tryz.underlying22 tk3 ?_);(intro p20 e20 he20 hc20)
   all_goals (obtain rfl:x=e20:=by have:l[k]? = some e20:=(by simpa using he20); rw[hx]at this; simpa using this)
   all_goals first|refine AtT.zi ?_|refine AtT.zg ?_|(first | refine AtT.zk tk3 ?_ | refine AtT.zo tk3 ?_)
   all_goals first|refine AtT.zi ?_|refine AtT.zg ?_|(refine AtT.ze ?_)
   all_goals first|refine AtT.zi ?_|refine AtT.zg ?_|(refine AtT.kgeq ?_)
   all_goals (refine AtT.qA (d:=23) rfl (c2) ?_)
   all_goals (refine AtT.zF ?_)
   all_goals (refine AtT.ze ?_)
   all_goals (first | refine AtT.kL 25 ?_ | refine AtT.zD (d:=25) rfl (fun hg25=>?_) (fun hg25=>?_) | refine AtT.zC (d:=25) rfl (fun hg25=>?_) (fun hg25=>?_))
   all_goals first|refine AtT.zi ?_|refine AtT.zg ?_|(refine AtT.ze ?_)
   all_goals first|refine AtT.zi ?_|refine AtT.zg ?_|(refine AtT.qx ?_)
   all_goals (refine AtT.qA (d:=27) rfl ((by omega)) ?_)
   all_goals first|refine AtT.zi ?_|refine AtT.zg ?_|(refine AtT.ze ?_)
   all_goals (first | refine AtT.kL 28 ?_ | refine AtT.zD (d:=28) rfl (fun hg28=>?_) (fun hg28=>?_) | refine AtT.zC (d:=28) rfl (fun hg28=>?_) (fun hg28=>?_))
   all_goals first|refine AtT.zi ?_|refine AtT.zg ?_|(refine AtT.ze ?_)
   all_goals first|refine AtT.zi ?_|refine AtT.zg ?_|(refine AtT.ze ?_)
   all_goals first|refine AtT.zi ?_|refine AtT.zg ?_|(refine AtT.zU Tryz.underlying22 tk3 ?_);(intro p31 e31 he31 hc31)
   all_goals first|refine AtT.zi ?_|refine AtT.zg ?_|(first | refine AtT.zk tk3 ?_ | refine AtT.zo tk3 ?_)
   all_goals first|refine AtT.zi ?_|refine AtT.zg ?_|(refine AtT.ze ?_)
   all_goals first|refine AtT.zi ?_|refine AtT.zg ?_|(refine AtT.ze ?_)
   all_goals first|refine AtT.zi ?_|refine AtT.zg ?_|(first | refine AtT.ksubt ?_ | refine AtT.ksubW ?_)
   all_goals first|refine AtT.zi ?_|refine AtT.zg ?_|(refine AtT.zU Tryz.underlying22 tk3 ?_);(intro p36 e36 he36 hc36)
   all_goals first|refine AtT.zi ?_|refine AtT.zg ?_|(first | refine AtT.zk tk3 ?_ | refine AtT.zo tk3 ?_)
   all_goals first|refine AtT.zi ?_|refine AtT.zg ?_|(refine AtT.kleq ?_)
   all_goals first|refine AtT.zi ?_|refine AtT.zg ?_|(refine AtT.zF ?_)
   all_goals (refine AtT.zF ?_)
   all_goals refine AtT.done ?_
   all_goals (refine At.nrm ?_)
   refine At.qf rfl rfl ?_
   refine At.nrm ?_
   refine At.zh (.q 0 (.q 1 (.q 2 .done))) ?_
   refine AtT.ze ?_
   first | refine AtT.qm ?_ | refine AtT.zR ?_
   refine AtT.zf ?_
   refine AtT.done ?_
   refine At.nrm ?_
   refine At.round (k+1) ?_ ?_ ?_ ?_
   ·show l.length-(k+1)<l.length-k; omega
   ·exact⟨rfl,by omega,⟨hxn,up_step hup.up hx (fun j y hj _=>by omega)⟩⟩
   ·exact⟨rfl,rfl,rfl,trivial⟩
   ·exact Pt.zx
  obtain⟨y,hy⟩:∃ y,l[k-1]? = some y:=⟨_,List.getElem?_eq_getElem (by omega)⟩
  have hk1:((k:Int)-1).toNat=k-1:=by omega
  by_cases c4:x≤y
  ·refine At.draw (.q 0 (.q 1 (.q 2 (.q 3 (.q 4 (.q 5 (.q 6 (.q 7 (.q 8 (.q 9 (.q 10 (.q 11 (.q 12 (.q 13 (.q 14 (.q 15 (.q 16 (.q 17 (.q 18 (.q 19 (.q 20 (.q 21 (.q 22 (.q 23 (.q 24 (.q 25 (.q 26 (.q 27 (.q 28 .done))))))))))))))))))))))))))))) ffm (by kernel_rfl) ?_
   refine AtT.ze ?_
   refine AtT.ze ?_
   refine AtT.zU Tryz.underlying22 tk3 ?_
   intro p14 e14 he14 hc14
   obtain rfl:x=e14:=by have:l[k]? = some e14:=(by simpa using he14); rw[hx]at this; simpa using this
   first | refine AtT.zk tk3 ?_ | refine AtT.zo tk3 ?_
   refine AtT.qg ?_
   refine AtT.qA (d:=16) rfl (c1) ?_
   refine AtT.ze ?_
   all_goals (first | refine AtT.kL 17 ?_ | refine AtT.zD (d:=17) rfl (fun hg17=>?_) (fun hg17=>?_) | refine AtT.zC (d:=17) rfl (fun hg17=>?_) (fun hg17=>?_))
   all_goals first|refine AtT.zi ?_|refine AtT.zg ?_|(refine AtT.ze ?_)
   all_goals first|refine AtT.zi ?_|refine AtT.zg ?_|(refine AtT.ze ?_)
   all_goals first|refine AtT.zi ?_|refine AtT.zg ?_|(refine AtT.zU Tryz.underlying22 tk3 ?_);(intro p20 e20 he20 hc20)
   all_goals (obtain rfl:x=e20:=by have:l[k]? = some e20:=(by simpa using he20); rw[hx]at this; simpa using this)
   all_goals first|refine AtT.zi ?_|refine AtT.zg ?_|(first | refine AtT.zk tk3 ?_ | refine AtT.zo tk3 ?_)
   all_goals first|refine AtT.zi ?_|refine AtT.zg ?_|(refine AtT.ze ?_)
   all_goals first|refine AtT.zi ?_|refine AtT.zg ?_|(refine AtT.kgeq ?_)
   all_goals (refine AtT.qA (d:=23) rfl (c2) ?_)
   all_goals (refine AtT.zF ?_)
   all_goals (refine AtT.ze ?_)
   all_goals (first | refine AtT.kL 25 ?_ | refine AtT.zD (d:=25) rfl (fun hg25=>?_) (fun hg25=>?_) | refine AtT.zC (d:=25) rfl (fun hg25=>?_) (fun hg25=>?_))
   all_goals first|refine AtT.zi ?_|refine AtT.zg ?_|(refine AtT.ze ?_)
   all_goals first|refine AtT.zi ?_|refine AtT.zg ?_|(refine AtT.qx ?_)
   all_goals (refine AtT.jv (d:=27) rfl ((by omega)) ?_)
   all_goals first|refine AtT.zi ?_|refine AtT.zg ?_|(refine AtT.ze ?_)
   all_goals (first | refine AtT.kL 28 ?_ | refine AtT.zD (d:=28) rfl (fun hg28=>?_) (fun hg28=>?_) | refine AtT.zC (d:=28) rfl (fun hg28=>?_) (fun hg28=>?_))
   all_goals first|refine AtT.zi ?_|refine AtT.zg ?_|(refine AtT.ze ?_)
   all_goals first|refine AtT.zi ?_|refine AtT.zg ?_|(refine AtT.ze ?_)
   all_goals first|refine AtT.zi ?_|refine AtT.zg ?_|(refine AtT.zU Tryz.underlying22 tk3 ?_);(intro p31 e31 he31 hc31)
   all_goals (obtain rfl:x=e31:=by have:l[k]? = some e31:=(by simpa using he31); rw[hx]at this; simpa using this)
   all_goals first|refine AtT.zi ?_|refine AtT.zg ?_|(first | refine AtT.zk tk3 ?_ | refine AtT.zo tk3 ?_)
   all_goals first|refine AtT.zi ?_|refine AtT.zg ?_|(refine AtT.ze ?_)
   all_goals first|refine AtT.zi ?_|refine AtT.zg ?_|(refine AtT.ze ?_)
   all_goals first|refine AtT.zi ?_|refine AtT.zg ?_|(first | refine AtT.ksubt ?_ | refine AtT.ksubW ?_)
   all_goals first|refine AtT.zi ?_|refine AtT.zg ?_|(refine AtT.zU Tryz.underlying22 tk3 ?_);(intro p36 e36 he36 hc36)
   all_goals (obtain rfl:y=e36:=by rw[hk1,hy]at he36; simpa using he36)
   all_goals first|refine AtT.zi ?_|refine AtT.zg ?_|(first | refine AtT.zk tk3 ?_ | refine AtT.zo tk3 ?_)
   all_goals first|refine AtT.zi ?_|refine AtT.zg ?_|(refine AtT.kleq ?_)
   all_goals (refine AtT.jv (d:=38) rfl (c4) ?_)
   all_goals first|refine AtT.zi ?_|refine AtT.zg ?_|(refine AtT.zF ?_)
   all_goals (refine AtT.zF ?_)
   all_goals refine AtT.done ?_
   all_goals (refine At.nrm ?_)
   refine At.qK rfl rfl ?_
   refine At.nrm ?_
   refine At.zh (.q 0 .done) ?_
   refine AtT.zf ?_
   refine AtT.done ?_
   refine At.nrm ?_
   exact At.zT rfl (.tmp rfl) ⟨false,rfl,fun h=>by(cases h),fun h=>by have:=up_at h.up hy hx (by omega); omega⟩
  ·refine At.draw (.q 0 (.q 1 (.q 2 (.q 3 (.q 4 (.q 5 (.q 6 (.q 7 (.q 8 (.q 9 (.q 10 (.q 11 (.q 12 (.q 13 (.q 14 (.q 15 (.q 16 (.q 17 (.q 18 (.q 19 (.q 20 (.q 21 (.q 22 (.q 23 (.q 24 (.q 25 (.q 26 (.q 27 (.q 28 .done))))))))))))))))))))))))))))) ffm (by kernel_rfl) ?_
   refine AtT.ze ?_
   refine AtT.ze ?_
   refine AtT.zU Tryz.underlying22 tk3 ?_
   intro p14 e14 he14 hc14
   obtain rfl:x=e14:=by have:l[k]? = some e14:=(by simpa using he14); rw[hx]at this; simpa using this
   first | refine AtT.zk tk3 ?_ | refine AtT.zo tk3 ?_
   refine AtT.qg ?_
   refine AtT.qA (d:=16) rfl (c1) ?_
   refine AtT.ze ?_
   all_goals (first | refine AtT.kL 17 ?_ | refine AtT.zD (d:=17) rfl (fun hg17=>?_) (fun hg17=>?_) | refine AtT.zC (d:=17) rfl (fun hg17=>?_) (fun hg17=>?_))
   all_goals first|refine AtT.zi ?_|refine AtT.zg ?_|(refine AtT.ze ?_)
   all_goals first|refine AtT.zi ?_|refine AtT.zg ?_|(refine AtT.ze ?_)
   all_goals first|refine AtT.zi ?_|refine AtT.zg ?_|(refine AtT.zU Tryz.underlying22 tk3 ?_);(intro p20 e20 he20 hc20)
   all_goals (obtain rfl:x=e20:=by have:l[k]? = some e20:=(by simpa using he20); rw[hx]at this; simpa using this)
   all_goals first|refine AtT.zi ?_|refine AtT.zg ?_|(first | refine AtT.zk tk3 ?_ | refine AtT.zo tk3 ?_)
   all_goals first|refine AtT.zi ?_|refine AtT.zg ?_|(refine AtT.ze ?_)
   all_goals first|refine AtT.zi ?_|refine AtT.zg ?_|(refine AtT.kgeq ?_)
   all_goals (refine AtT.qA (d:=23) rfl (c2) ?_)
   all_goals (refine AtT.zF ?_)
   all_goals (refine AtT.ze ?_)
   all_goals (first | refine AtT.kL 25 ?_ | refine AtT.zD (d:=25) rfl (fun hg25=>?_) (fun hg25=>?_) | refine AtT.zC (d:=25) rfl (fun hg25=>?_) (fun hg25=>?_))
   all_goals first|refine AtT.zi ?_|refine AtT.zg ?_|(refine AtT.ze ?_)
   all_goals first|refine AtT.zi ?_|refine AtT.zg ?_|(refine AtT.qx ?_)
   all_goals (refine AtT.jv (d:=27) rfl ((by omega)) ?_)
   all_goals first|refine AtT.zi ?_|refine AtT.zg ?_|(refine AtT.ze ?_)
   all_goals (first | refine AtT.kL 28 ?_ | refine AtT.zD (d:=28) rfl (fun hg28=>?_) (fun hg28=>?_) | refine AtT.zC (d:=28) rfl (fun hg28=>?_) (fun hg28=>?_))
   all_goals first|refine AtT.zi ?_|refine AtT.zg ?_|(refine AtT.ze ?_)
   all_goals first|refine AtT.zi ?_|refine AtT.zg ?_|(refine AtT.ze ?_)
   all_goals first|refine AtT.zi ?_|refine AtT.zg ?_|(refine AtT.zU Tryz.underlying22 tk3 ?_);(intro p31 e31 he31 hc31)
   all_goals (obtain rfl:x=e31:=by have:l[k]? = some e31:=(by simpa using he31); rw[hx]at this; simpa using this)
   all_goals first|refine AtT.zi ?_|refine AtT.zg ?_|(first | refine AtT.zk tk3 ?_ | refine AtT.zo tk3 ?_)
   all_goals first|refine AtT.zi ?_|refine AtT.zg ?_|(refine AtT.ze ?_)
   all_goals first|refine AtT.zi ?_|refine AtT.zg ?_|(refine AtT.ze ?_)
   all_goals first|refine AtT.zi ?_|refine AtT.zg ?_|(first | refine AtT.ksubt ?_ | refine AtT.ksubW ?_)
   all_goals first|refine AtT.zi ?_|refine AtT.zg ?_|(refine AtT.zU Tryz.underlying22 tk3 ?_);(intro p36 e36 he36 hc36)
   all_goals (obtain rfl:y=e36:=by rw[hk1,hy]at he36; simpa using he36)
   all_goals first|refine AtT.zi ?_|refine AtT.zg ?_|(first | refine AtT.zk tk3 ?_ | refine AtT.zo tk3 ?_)
   all_goals first|refine AtT.zi ?_|refine AtT.zg ?_|(refine AtT.kleq ?_)
   all_goals (refine AtT.qA (d:=38) rfl (c4) ?_)
   all_goals first|refine AtT.zi ?_|refine AtT.zg ?_|(refine AtT.zF ?_)
   all_goals (refine AtT.zF ?_)
   all_goals refine AtT.done ?_
   all_goals (refine At.nrm ?_)
   refine At.qf rfl rfl ?_
   refine At.nrm ?_
   refine At.zh (.q 0 (.q 1 (.q 2 .done))) ?_
   refine AtT.ze ?_
   first | refine AtT.qm ?_ | refine AtT.zR ?_
   refine AtT.zf ?_
   refine AtT.done ?_
   refine At.nrm ?_
   refine At.round (k+1) ?_ ?_ ?_ ?_
   ·show l.length-(k+1)<l.length-k; omega
   ·refine⟨rfl,by omega,⟨hxn,up_step hup.up hx (fun j z hj hz=>?_)⟩⟩
    obtain rfl:j=k-1:=by omega
    rw[hy]at hz
    obtain rfl:y=z:=by simpa using hz
    omega
   ·exact⟨rfl,rfl,rfl,trivial⟩
   ·exact Pt.zx
 ·obtain rfl:k=l.length:=by omega
  refine At.nrm ?_
  refine At.zh (.q 0 .done) ?_
  refine AtT.zf ?_
  refine AtT.done ?_
  refine At.nrm ?_
  refine At.zT rfl (.tmp rfl) ⟨true,rfl,fun _=>?_,fun _=>rfl⟩
  rw[List.take_length]at hup
  exact hup
theorem rCheckBed_f (b:Bd) (a:Option Addr) (c:Nat) (V:View) (hs:SlI V (.slice a b.br.length c) b.br):Fnc Tryz.prog 16 [bdv b a c] V fun r _=>∃ e,r=iv e∧(e=0↔BdOk b):=by
 have hlen:=hs.qI
 refine zS Tryz.func16 rfl Tryz.ntmps16 (Nat.le_of_ble_eq_true rfl) ?_
 intro w0 hw0
 refine At.nrm ?_
 refine At.zh (.n false 0 (.q 1 .done)) ?_
 refine AtT.jS ?_
 intro b1
 refine AtT.zf ?_
 refine AtT.done ?_
 refine At.nrm ?_
 by_cases c1:b.o<1
 ·refine At.zh (.q 0 (.q 1 (.q 2 (.q 3 (.q 4 (.q 5 (.q 6 (.q 7 .done)))))))) ?_
  first | refine AtT.zm zV ?_ | with_reducible refine AtT.zn zV ?_ | refine AtT.zq zV ?_
  first | refine AtT.zk tk3 ?_ | refine AtT.zo tk3 ?_
  refine AtT.qg ?_
  refine AtT.jv (d:=5) rfl (c1) ?_
  refine AtT.ze ?_
  all_goals (first | refine AtT.kL 6 ?_ | refine AtT.zD (d:=6) rfl (fun hg6=>?_) (fun hg6=>?_) | refine AtT.zC (d:=6) rfl (fun hg6=>?_) (fun hg6=>?_))
  all_goals first|refine AtT.zi ?_|refine AtT.zg ?_|(first | refine AtT.zm zV ?_ | with_reducible refine AtT.zn zV ?_ | refine AtT.zq zV ?_)
  all_goals first|refine AtT.zi ?_|refine AtT.zg ?_|(first | refine AtT.zk tk3 ?_ | refine AtT.zo tk3 ?_)
  all_goals first|refine AtT.zi ?_|refine AtT.zg ?_|(refine AtT.qx ?_)
  all_goals (refine AtT.zF ?_)
  all_goals refine AtT.done ?_
  all_goals (refine At.nrm ?_)
  refine At.qK rfl rfl ?_
  refine At.nrm ?_
  refine At.zh (.q 0 .done) ?_
  refine AtT.zf ?_
  refine AtT.done ?_
  refine At.nrm ?_
  exact At.zT rfl (.tmp rfl) ⟨6,rfl,fun h=>by(cases h),fun h=>by have:=h.o; omega⟩
 by_cases c2:10<b.o
 ·refine At.zh (.q 0 (.q 1 (.q 2 (.q 3 (.q 4 (.q 5 (.q 6 (.q 7 .done)))))))) ?_
  first | refine AtT.zm zV ?_ | with_reducible refine AtT.zn zV ?_ | refine AtT.zq zV ?_
  first | refine AtT.zk tk3 ?_ | refine AtT.zo tk3 ?_
  refine AtT.qg ?_
  refine AtT.qA (d:=5) rfl (c1) ?_
  refine AtT.ze ?_
  all_goals (first | refine AtT.kL 6 ?_ | refine AtT.zD (d:=6) rfl (fun hg6=>?_) (fun hg6=>?_) | refine AtT.zC (d:=6) rfl (fun hg6=>?_) (fun hg6=>?_))
  all_goals first|refine AtT.zi ?_|refine AtT.zg ?_|(first | refine AtT.zm zV ?_ | with_reducible refine AtT.zn zV ?_ | refine AtT.zq zV ?_)
  all_goals first|refine AtT.zi ?_|refine AtT.zg ?_|(first | refine AtT.zk tk3 ?_ | refine AtT.zo tk3 ?_)
  all_goals first|refine AtT.zi ?_|refine AtT.zg ?_|(refine AtT.qx ?_)
  all_goals (refine AtT.jv (d:=9) rfl (c2) ?_)
  all_goals (refine AtT.zF ?_)
  all_goals refine AtT.done ?_
  all_goals (refine At.nrm ?_)
  refine At.qK rfl rfl ?_
  refine At.nrm ?_
  refine At.zh (.q 0 .done) ?_
  refine AtT.zf ?_
  refine AtT.done ?_
  refine At.nrm ?_
  exact At.zT rfl (.tmp rfl) ⟨6,rfl,fun h=>by(cases h),fun h=>by have:=h.o; omega⟩
 refine At.zh (.q 0 (.q 1 (.q 2 (.q 3 (.q 4 (.q 5 (.q 6 (.q 7 .done)))))))) ?_
 first | refine AtT.zm zV ?_ | with_reducible refine AtT.zn zV ?_ | refine AtT.zq zV ?_
 first | refine AtT.zk tk3 ?_ | refine AtT.zo tk3 ?_
 refine AtT.qg ?_
 refine AtT.qA (d:=5) rfl (c1) ?_
 refine AtT.ze ?_
 all_goals (first | refine AtT.kL 6 ?_ | refine AtT.zD (d:=6) rfl (fun hg6=>?_) (fun hg6=>?_) | refine AtT.zC (d:=6) rfl (fun hg6=>?_) (fun hg6=>?_))
 all_goals first|refine AtT.zi ?_|refine AtT.zg ?_|(first | refine AtT.zm zV ?_ | with_reducible refine AtT.zn zV ?_ | refine AtT.zq zV ?_)
 all_goals first|refine AtT.zi ?_|refine AtT.zg ?_|(first | refine AtT.zk tk3 ?_ | refine AtT.zo tk3 ?_)
 all_goals first|refine AtT.zi ?_|refine AtT.zg ?_|(refine AtT.qx ?_)
 all_goals (refine AtT.qA (d:=9) rfl (c2) ?_)
 all_goals (refine AtT.zF ?_)
 all_goals refine AtT.done ?_
 all_goals (refine At.nrm ?_)
 refine At.qf rfl rfl ?_
 refine At.nrm ?_
 refine At.zh (.q 0 (.q 1 (.q 2 (.q 3 (.n false 4 (.q 5 .done)))))) ?_
 first | refine AtT.zm qF ?_ | with_reducible refine AtT.zn qF ?_ | refine AtT.zq qF ?_
 first | refine AtT.zk zQ ?_ | refine AtT.zo zQ ?_
 first | refine AtT.zm zV ?_ | with_reducible refine AtT.zn zV ?_ | refine AtT.zq zV ?_
 first | refine AtT.zk tk3 ?_ | refine AtT.zo tk3 ?_
 refine AtT.zJ rfl rfl ok34 (isList_f b.br b.o _ _ hs) ?_
 rintro _ ⟨q,rfl,hq⟩
 refine AtT.knot ?_
 refine AtT.done ?_
 refine At.nrm ?_
 refine At.cond rfl (fun hb=>?_) (fun hb=>?_)
 ·refine At.nrm ?_
  refine At.zh (.q 0 .done) ?_
  refine AtT.zf ?_
  refine AtT.done ?_
  refine At.nrm ?_
  exact At.zT rfl (.tmp rfl) ⟨2,rfl,fun h=>by(cases h),fun h=>by rw[hq.2 h.br]at hb; cases hb⟩
 have hqt:=hq.1 (by simpa using hb)
 refine At.nrm ?_
 refine At.zh (.q 0 (.q 1 (.q 2 (.q 3 (.q 4 (.q 5 .done)))))) ?_
 first | refine AtT.zm qF ?_ | with_reducible refine AtT.zn qF ?_ | refine AtT.zq qF ?_
 first | refine AtT.zk zQ ?_ | refine AtT.zo zQ ?_
 first | refine AtT.zK Tryz.underlying22 ?_ | refine AtT.zL Tryz.underlying22 ?_
 first | refine AtT.zm zV ?_ | with_reducible refine AtT.zn zV ?_ | refine AtT.zq zV ?_
 first | refine AtT.zk tk3 ?_ | refine AtT.zo tk3 ?_
 refine AtT.jR ?_
 refine AtT.done ?_
 refine At.nrm ?_
 refine At.zZ rfl (fun hp=>?_) (fun hp=>?_)
 ·refine At.nrm ?_
  refine At.zh (.q 0 .done) ?_
  refine AtT.zf ?_
  refine AtT.done ?_
  refine At.nrm ?_
  exact At.zT rfl (.tmp rfl) ⟨10,rfl,fun h=>by(cases h),fun h=>absurd hp h.ne⟩
 refine At.nrm ?_
 by_cases d1:b.h<0
 ·refine At.zh (.q 0 (.q 1 (.q 2 (.q 3 (.q 4 (.q 5 (.q 6 (.q 7 (.q 8 (.q 9 (.q 10 (.q 11 (.q 12 (.q 13 (.q 14 (.q 15 (.q 16 (.q 17 .done)))))))))))))))))) ?_
  first | refine AtT.zm qp ?_ | with_reducible refine AtT.zn qp ?_ | refine AtT.zq qp ?_
  first | refine AtT.zk tk3 ?_ | refine AtT.zo tk3 ?_
  refine AtT.qg ?_
  refine AtT.jv (d:=25) rfl (d1) ?_
  refine AtT.ze ?_
  all_goals (first | refine AtT.kL 26 ?_ | refine AtT.zD (d:=26) rfl (fun hg26=>?_) (fun hg26=>?_) | refine AtT.zC (d:=26) rfl (fun hg26=>?_) (fun hg26=>?_))
  all_goals first|refine AtT.zi ?_|refine AtT.zg ?_|(first | refine AtT.zm qp ?_ | with_reducible refine AtT.zn qp ?_ | refine AtT.zq qp ?_)
  all_goals first|refine AtT.zi ?_|refine AtT.zg ?_|(first | refine AtT.zk tk3 ?_ | refine AtT.zo tk3 ?_)
  all_goals first|refine AtT.zi ?_|refine AtT.zg ?_|(refine AtT.qx ?_)
  all_goals (refine AtT.zF ?_)
  all_goals (refine AtT.ze ?_)
  all_goals (first | refine AtT.kL 31 ?_ | refine AtT.zD (d:=31) rfl (fun hg31=>?_) (fun hg31=>?_) | refine AtT.zC (d:=31) rfl (fun hg31=>?_) (fun hg31=>?_))
  all_goals first|refine AtT.zi ?_|refine AtT.zg ?_|(first | refine AtT.zm qo ?_ | with_reducible refine AtT.zn qo ?_ | refine AtT.zq qo ?_)
  all_goals first|refine AtT.zi ?_|refine AtT.zg ?_|(first | refine AtT.zk tk2 ?_ | refine AtT.zo tk2 ?_)
  all_goals first|refine AtT.zi ?_|refine AtT.zg ?_|(refine AtT.qg ?_)
  all_goals (refine AtT.zF ?_)
  all_goals (refine AtT.ze ?_)
  all_goals (first | refine AtT.kL 36 ?_ | refine AtT.zD (d:=36) rfl (fun hg36=>?_) (fun hg36=>?_) | refine AtT.zC (d:=36) rfl (fun hg36=>?_) (fun hg36=>?_))
  all_goals first|refine AtT.zi ?_|refine AtT.zg ?_|(first | refine AtT.zm qo ?_ | with_reducible refine AtT.zn qo ?_ | refine AtT.zq qo ?_)
  all_goals first|refine AtT.zi ?_|refine AtT.zg ?_|(first | refine AtT.zk tk2 ?_ | refine AtT.zo tk2 ?_)
  all_goals first|refine AtT.zi ?_|refine AtT.zg ?_|(refine AtT.qx ?_)
  all_goals (refine AtT.zF ?_)
  all_goals refine AtT.done ?_
  all_goals (refine At.nrm ?_)
  refine At.qK rfl rfl ?_
  refine At.nrm ?_
  refine At.zh (.q 0 .done) ?_
  refine AtT.zf ?_
  refine AtT.done ?_
  refine At.nrm ?_
  exact At.zT rfl (.tmp rfl) ⟨3,rfl,fun h=>by(cases h),fun h=>by have:=h.h; omega⟩
 by_cases d2:20<b.h
 ·refine At.zh (.q 0 (.q 1 (.q 2 (.q 3 (.q 4 (.q 5 (.q 6 (.q 7 (.q 8 (.q 9 (.q 10 (.q 11 (.q 12 (.q 13 (.q 14 (.q 15 (.q 16 (.q 17 .done)))))))))))))))))) ?_
  first | refine AtT.zm qp ?_ | with_reducible refine AtT.zn qp ?_ | refine AtT.zq qp ?_
  first | refine AtT.zk tk3 ?_ | refine AtT.zo tk3 ?_
  refine AtT.qg ?_
  refine AtT.qA (d:=25) rfl (d1) ?_
  refine AtT.ze ?_
  all_goals (first | refine AtT.kL 26 ?_ | refine AtT.zD (d:=26) rfl (fun hg26=>?_) (fun hg26=>?_) | refine AtT.zC (d:=26) rfl (fun hg26=>?_) (fun hg26=>?_))
  all_goals first|refine AtT.zi ?_|refine AtT.zg ?_|(first | refine AtT.zm qp ?_ | with_reducible refine AtT.zn qp ?_ | refine AtT.zq qp ?_)
  all_goals first|refine AtT.zi ?_|refine AtT.zg ?_|(first | refine AtT.zk tk3 ?_ | refine AtT.zo tk3 ?_)
  all_goals first|refine AtT.zi ?_|refine AtT.zg ?_|(refine AtT.qx ?_)
  all_goals (refine AtT.jv (d:=29) rfl (d2) ?_)
  all_goals (refine AtT.zF ?_)
  all_goals (refine AtT.ze ?_)
  all_goals (first | refine AtT.kL 31 ?_ | refine AtT.zD (d:=31) rfl (fun hg31=>?_) (fun hg31=>?_) | refine AtT.zC (d:=31) rfl (fun hg31=>?_) (fun hg31=>?_))
  all_goals first|refine AtT.zi ?_|refine AtT.zg ?_|(first | refine AtT.zm qo ?_ | with_reducible refine AtT.zn qo ?_ | refine AtT.zq qo ?_)
  all_goals first|refine AtT.zi ?_|refine AtT.zg ?_|(first | refine AtT.zk tk2 ?_ | refine AtT.zo tk2 ?_)
  all_goals first|refine AtT.zi ?_|refine AtT.zg ?_|(refine AtT.qg ?_)
  all_goals (refine AtT.zF ?_)
  all_goals (refine AtT.ze ?_)
  all_goals (first | refine AtT.kL 36 ?_ | refine AtT.zD (d:=36) rfl (fun hg36=>?_) (fun hg36=>?_) | refine AtT.zC (d:=36) rfl (fun hg36=>?_) (fun hg36=>?_))
  all_goals first|refine AtT.zi ?_|refine AtT.zg ?_|(first | refine AtT.zm qo ?_ | with_reducible refine AtT.zn qo ?_ | refine AtT.zq qo ?_)
  all_goals first|refine AtT.zi ?_|refine AtT.zg ?_|(first | refine AtT.zk tk2 ?_ | refine AtT.zo tk2 ?_)
  all_goals first|refine AtT.zi ?_|refine AtT.zg ?_|(refine AtT.qx ?_)
  all_goals (refine AtT.zF ?_)
  all_goals refine AtT.done ?_
  all_goals (refine At.nrm ?_)
  refine At.qK rfl rfl ?_
  refine At.nrm ?_
  refine At.zh (.q 0 .done) ?_
  refine AtT.zf ?_
  refine AtT.done ?_
  refine At.nrm ?_
  exact At.zT rfl (.tmp rfl) ⟨3,rfl,fun h=>by(cases h),fun h=>by have:=h.h; omega⟩
 by_cases d3:b.c<0
 ·refine At.zh (.q 0 (.q 1 (.q 2 (.q 3 (.q 4 (.q 5 (.q 6 (.q 7 (.q 8 (.q 9 (.q 10 (.q 11 (.q 12 (.q 13 (.q 14 (.q 15 (.q 16 (.q 17 .done)))))))))))))))))) ?_
  first | refine AtT.zm qp ?_ | with_reducible refine AtT.zn qp ?_ | refine AtT.zq qp ?_
  first | refine AtT.zk tk3 ?_ | refine AtT.zo tk3 ?_
  refine AtT.qg ?_
  refine AtT.qA (d:=25) rfl (d1) ?_
  refine AtT.ze ?_
  all_goals (first | refine AtT.kL 26 ?_ | refine AtT.zD (d:=26) rfl (fun hg26=>?_) (fun hg26=>?_) | refine AtT.zC (d:=26) rfl (fun hg26=>?_) (fun hg26=>?_))
  all_goals first|refine AtT.zi ?_|refine AtT.zg ?_|(first | refine AtT.zm qp ?_ | with_reducible refine AtT.zn qp ?_ | refine AtT.zq qp ?_)
  all_goals first|refine AtT.zi ?_|refine AtT.zg ?_|(first | refine AtT.zk tk3 ?_ | refine AtT.zo tk3 ?_)
  all_goals first|refine AtT.zi ?_|refine AtT.zg ?_|(refine AtT.qx ?_)
  all_goals (refine AtT.qA (d:=29) rfl (d2) ?_)
  all_goals (refine AtT.zF ?_)
  all_goals (refine AtT.ze ?_)
  all_goals (first | refine AtT.kL 31 ?_ | refine AtT.zD (d:=31) rfl (fun hg31=>?_) (fun hg31=>?_) | refine AtT.zC (d:=31) rfl (fun hg31=>?_) (fun hg31=>?_))
  all_goals first|refine AtT.zi ?_|refine AtT.zg ?_|(first | refine AtT.zm qo ?_ | with_reducible refine AtT.zn qo ?_ | refine AtT.zq qo ?_)
  all_goals first|refine AtT.zi ?_|refine AtT.zg ?_|(first | refine AtT.zk tk2 ?_ | refine AtT.zo tk2 ?_)
  all_goals first|refine AtT.zi ?_|refine AtT.zg ?_|(refine AtT.qg ?_)
  all_goals (refine AtT.jv (d:=34) rfl (d3) ?_)
  all_goals (refine AtT.zF ?_)
  all_goals (refine AtT.ze ?_)
  all_goals (first | refine AtT.kL 36 ?_ | refine AtT.zD (d:=36) rfl (fun hg36=>?_) (fun hg36=>?_) | refine AtT.zC (d:=36) rfl (fun hg36=>?_) (fun hg36=>?_))
  all_goals first|refine AtT.zi ?_|refine AtT.zg ?_|(first | refine AtT.zm qo ?_ | with_reducible refine AtT.zn qo ?_ | refine AtT.zq qo ?_)
  all_goals first|refine AtT.zi ?_|refine AtT.zg ?_|(first | refine AtT.zk tk2 ?_ | refine AtT.zo tk2 ?_)
  all_goals first|refine AtT.zi ?_|refine AtT.zg ?_|(refine AtT.qx ?_)
  all_goals (refine AtT.zF ?_)
  all_goals refine AtT.done ?_
  all_goals (refine At.nrm ?_)
  refine At.qK rfl rfl ?_
  refine At.nrm ?_
  refine At.zh (.q 0 .done) ?_
  refine AtT.zf ?_
  refine AtT.done ?_
  refine At.nrm ?_
  exact At.zT rfl (.tmp rfl) ⟨3,rfl,fun h=>by(cases h),fun h=>by have:=h.c; omega⟩
 by_cases d4:10<b.c
 ·refine At.zh (.q 0 (.q 1 (.q 2 (.q 3 (.q 4 (.q 5 (.q 6 (.q 7 (.q 8 (.q 9 (.q 10 (.q 11 (.q 12 (.q 13 (.q 14 (.q 15 (.q 16 (.q 17 .done)))))))))))))))))) ?_
  first | refine AtT.zm qp ?_ | with_reducible refine AtT.zn qp ?_ | refine AtT.zq qp ?_
  first | refine AtT.zk tk3 ?_ | refine AtT.zo tk3 ?_
  refine AtT.qg ?_
  refine AtT.qA (d:=25) rfl (d1) ?_
  refine AtT.ze ?_
  all_goals (first | refine AtT.kL 26 ?_ | refine AtT.zD (d:=26) rfl (fun hg26=>?_) (fun hg26=>?_) | refine AtT.zC (d:=26) rfl (fun hg26=>?_) (fun hg26=>?_))
  all_goals first|refine AtT.zi ?_|refine AtT.zg ?_|(first | refine AtT.zm qp ?_ | with_reducible refine AtT.zn qp ?_ | refine AtT.zq qp ?_)
  all_goals first|refine AtT.zi ?_|refine AtT.zg ?_|(first | refine AtT.zk tk3 ?_ | refine AtT.zo tk3 ?_)
  all_goals first|refine AtT.zi ?_|refine AtT.zg ?_|(refine AtT.qx ?_)
  all_goals (refine AtT.qA (d:=29) rfl (d2) ?_)
  all_goals (refine AtT.zF ?_)
  all_goals (refine AtT.ze ?_)
  all_goals (first | refine AtT.kL 31 ?_ | refine AtT.zD (d:=31) rfl (fun hg31=>?_) (fun hg31=>?_) | refine AtT.zC (d:=31) rfl (fun hg31=>?_) (fun hg31=>?_))
  all_goals first|refine AtT.zi ?_|refine AtT.zg ?_|(first | refine AtT.zm qo ?_ | with_reducible refine AtT.zn qo ?_ | refine AtT.zq qo ?_)
  all_goals first|refine AtT.zi ?_|refine AtT.zg ?_|(first | refine AtT.zk tk2 ?_ | refine AtT.zo tk2 ?_)
  all_goals first|refine AtT.zi ?_|refine AtT.zg ?_|(refine AtT.qg ?_)
  all_goals (refine AtT.qA (d:=34) rfl (d3) ?_)
  all_goals (refine AtT.zF ?_)
  all_goals (refine AtT.ze ?_)
  all_goals (first | refine AtT.kL 36 ?_ | refine AtT.zD (d:=36) rfl (fun hg36=>?_) (fun hg36=>?_) | refine AtT.zC (d:=36) rfl (fun hg36=>?_) (fun hg36=>?_))
  all_goals first|refine AtT.zi ?_|refine AtT.zg ?_|(first | refine AtT.zm qo ?_ | with_reducible refine AtT.zn qo ?_ | refine AtT.zq qo ?_)
  all_goals first|refine AtT.zi ?_|refine AtT.zg ?_|(first | refine AtT.zk tk2 ?_ | refine AtT.zo tk2 ?_)
  all_goals first|refine AtT.zi ?_|refine AtT.zg ?_|(refine AtT.qx ?_)
  all_goals (refine AtT.jv (d:=39) rfl (d4) ?_)
  all_goals (refine AtT.zF ?_)
  all_goals refine AtT.done ?_
  all_goals (refine At.nrm ?_)
  refine At.qK rfl rfl ?_
  refine At.nrm ?_
  refine At.zh (.q 0 .done) ?_
  refine AtT.zf ?_
  refine AtT.done ?_
  refine At.nrm ?_
  exact At.zT rfl (.tmp rfl) ⟨3,rfl,fun h=>by(cases h),fun h=>by have:=h.c; omega⟩
 refine At.zh (.q 0 (.q 1 (.q 2 (.q 3 (.q 4 (.q 5 (.q 6 (.q 7 (.q 8 (.q 9 (.q 10 (.q 11 (.q 12 (.q 13 (.q 14 (.q 15 (.q 16 (.q 17 .done)))))))))))))))))) ?_
 first | refine AtT.zm qp ?_ | with_reducible refine AtT.zn qp ?_ | refine AtT.zq qp ?_
 first | refine AtT.zk tk3 ?_ | refine AtT.zo tk3 ?_
 refine AtT.qg ?_
 refine AtT.qA (d:=25) rfl (d1) ?_
 refine AtT.ze ?_
 all_goals (first | refine AtT.kL 26 ?_ | refine AtT.zD (d:=26) rfl (fun hg26=>?_) (fun hg26=>?_) | refine AtT.zC (d:=26) rfl (fun hg26=>?_) (fun hg26=>?_))
 all_goals first|refine AtT.zi ?_|refine AtT.zg ?_|(first | refine AtT.zm qp ?_ | with_reducible refine AtT.zn qp ?_ | refine AtT.zq qp ?_)
 all_goals first|refine AtT.zi ?_|refine AtT.zg ?_|(first | refine AtT.zk tk3 ?_ | refine AtT.zo tk3 ?_)
 all_goals first|refine AtT.zi ?_|refine AtT.zg ?_|(refine AtT.qx ?_)
 all_goals (refine AtT.qA (d:=29) rfl (d2) ?_)
 all_goals (refine AtT.zF ?_)
 all_goals (refine AtT.ze ?_)
 all_goals (first | refine AtT.kL 31 ?_ | refine AtT.zD (d:=31) rfl (fun hg31=>?_) (fun hg31=>?_) | refine AtT.zC (d:=31) rfl (fun hg31=>?_) (fun hg31=>?_))
 all_goals first|refine AtT.zi ?_|refine AtT.zg ?_|(first | refine AtT.zm qo ?_ | with_reducible refine AtT.zn qo ?_ | refine AtT.zq qo ?_)
 all_goals first|refine AtT.zi ?_|refine AtT.zg ?_|(first | refine AtT.zk tk2 ?_ | refine AtT.zo tk2 ?_)
 all_goals first|refine AtT.zi ?_|refine AtT.zg ?_|(refine AtT.qg ?_)
 all_goals (refine AtT.qA (d:=34) rfl (d3) ?_)
 all_goals (refine AtT.zF ?_)
 all_goals (refine AtT.ze ?_)
 all_goals (first | refine AtT.kL 36 ?_ | refine AtT.zD (d:=36) rfl (fun hg36=>?_) (fun hg36=>?_) | refine AtT.zC (d:=36) rfl (fun hg36=>?_) (fun hg36=>?_))
 all_goals first|refine AtT.zi ?_|refine AtT.zg ?_|(first | refine AtT.zm qo ?_ | with_reducible refine AtT.zn qo ?_ | refine AtT.zq qo ?_)
 all_goals first|refine AtT.zi ?_|refine AtT.zg ?_|(first | refine AtT.zk tk2 ?_ | refine AtT.zo tk2 ?_)
 all_goals first|refine AtT.zi ?_|refine AtT.zg ?_|(refine AtT.qx ?_)
 all_goals (refine AtT.qA (d:=39) rfl (d4) ?_)
 all_goals (refine AtT.zF ?_)
 all_goals refine AtT.done ?_
 all_goals (refine At.nrm ?_)
 refine At.qf rfl rfl ?_
 refine At.nrm ?_
 refine At.zh (.q 0 .done) ?_
 refine AtT.zf ?_
 refine AtT.done ?_
 refine At.nrm ?_
 exact At.zT rfl (.tmp rfl) ⟨0,rfl,fun _=>⟨⟨by omega,by omega⟩,hqt,by simpa using hp,⟨by omega,by omega⟩,⟨by omega,by omega⟩⟩,fun _=>rfl⟩
theorem rCheckPanels_f (ps:List Pp) (V:View) (v:Value) (hs:Sl V ppe 2 v ps):Fnc Tryz.prog 17 [v] V fun r _=>∃ e,r=iv e∧(e=0→PpOk ps):=by
 have hlen:=hs.qI
 obtain⟨a,cc,rfl,k1,k2,_⟩:=id hs
 clear k1 k2
 refine zS Tryz.func17 rfl Tryz.ntmps17 (Nat.le_of_ble_eq_true rfl) ?_
 intro w0 hw0
 refine At.nrm ?_
 refine At.zh (.q 0 .done) ?_
 refine AtT.zf ?_
 refine AtT.done ?_
 refine At.nrm ?_
 refine At.zh (.q 0 (.q 1 (.q 2 .done))) ?_
 refine AtT.ze ?_
 first | refine AtT.zK Tryz.underlying25 ?_ | refine AtT.zL Tryz.underlying25 ?_
 refine AtT.qx ?_
 refine AtT.done ?_
 refine At.nrm ?_
 refine At.zZ rfl (fun hp=>?_) (fun hp=>?_)
 ·refine At.nrm ?_
  refine At.zh (.q 0 .done) ?_
  refine AtT.zf ?_
  refine AtT.done ?_
  refine At.nrm ?_
  exact At.zT rfl (.tmp rfl) ⟨6,rfl,fun h=>by cases h⟩
 refine At.nrm ?_
 refine At.zh (.q 0 .done) ?_
 refine AtT.zf ?_
 refine AtT.done ?_
 refine At.nrm ?_
 refine At.lp (ι:=Nat) (KS:=fun k=>[(0,.slice a ps.length cc),(3,iv k)]) (OS:=fun _=>[])
  (VS:=fun k V'=>V'=V∧k≤ps.length∧∀ j p,j<k→ps[j]? = some p→0≤p.h∧p.h≤20∧1≤p.t∧p.t≤24) (μ:=fun k=>ps.length-k) 0 ?_ ?_ ?_ ?_
 ·exact⟨rfl,rfl,trivial⟩
 ·exact Pt.zx
 ·exact⟨rfl,Nat.zero_le _,fun j p h=>by omega⟩
 rintro k V' ks' O' ⟨rfl,hkl,hup⟩ hk hO hl
 subst hk hO
 refine At.nrm ?_
 refine At.zh (.q 0 (.q 1 (.q 2 (.q 3 .done)))) ?_
 refine AtT.ze ?_
 refine AtT.ze ?_
 first | refine AtT.zK Tryz.underlying25 ?_ | refine AtT.zL Tryz.underlying25 ?_
 refine AtT.qg ?_
 refine AtT.done ?_
 refine At.nrm ?_
 refine At.zZ rfl (fun hp2=>?_) (fun hp2=>?_)
 ·obtain⟨x,hx⟩:∃ x,ps[k]? = some x:=⟨_,List.getElem?_eq_getElem (by omega)⟩
  refine At.nrm ?_
  refine At.zh (.q 0 (.q 1 (.q 2 (.q 3 (.n false 4 (.n true 5 .done)))))) ?_
  refine AtT.ze ?_
  refine AtT.ze ?_
  refine AtT.zU Tryz.underlying25 kN ?_
  intro p16 e16 he16 hc16
  obtain rfl:x=e16:=by have:ps[k]? = some e16:=(by simpa using he16); rw[hx]at this; simpa using this
  first | refine AtT.zB kN ?_ | refine AtT.zM kN ?_ | refine AtT.zA kN ?_
  refine AtT.qE z52 ?_
  intro b4
  refine AtT.qc kN ?_
  refine AtT.done ?_
  refine At.nrm ?_
  by_cases c1:x.h<0
  ·refine At.zh (.q 0 (.q 1 (.q 2 (.q 3 (.q 4 (.q 5 (.q 6 (.q 7 (.q 8 (.q 9 (.q 10 (.q 11 (.q 12 (.q 13 (.q 14 (.q 15 (.q 16 (.q 17 .done)))))))))))))))))) ?_
   first | refine AtT.zm zH ?_ | with_reducible refine AtT.zn zH ?_ | refine AtT.zq zH ?_
   first | refine AtT.zk tk3 ?_ | refine AtT.zo tk3 ?_
   refine AtT.qg ?_
   refine AtT.jv (d:=20) rfl (c1) ?_
   refine AtT.ze ?_
   all_goals (first | refine AtT.kL 21 ?_ | refine AtT.zD (d:=21) rfl (fun hg21=>?_) (fun hg21=>?_) | refine AtT.zC (d:=21) rfl (fun hg21=>?_) (fun hg21=>?_))
   all_goals first|refine AtT.zi ?_|refine AtT.zg ?_|(first | refine AtT.zm zH ?_ | with_reducible refine AtT.zn zH ?_ | refine AtT.zq zH ?_)
   all_goals first|refine AtT.zi ?_|refine AtT.zg ?_|(first | refine AtT.zk tk3 ?_ | refine AtT.zo tk3 ?_)
   all_goals first|refine AtT.zi ?_|refine AtT.zg ?_|(refine AtT.qx ?_)
   all_goals (refine AtT.zF ?_)
   all_goals (refine AtT.ze ?_)
   all_goals (first | refine AtT.kL 26 ?_ | refine AtT.zD (d:=26) rfl (fun hg26=>?_) (fun hg26=>?_) | refine AtT.zC (d:=26) rfl (fun hg26=>?_) (fun hg26=>?_))
   all_goals first|refine AtT.zi ?_|refine AtT.zg ?_|(first | refine AtT.zm qb ?_ | with_reducible refine AtT.zn qb ?_ | refine AtT.zq qb ?_)
   all_goals first|refine AtT.zi ?_|refine AtT.zg ?_|(first | refine AtT.zk tk2 ?_ | refine AtT.zo tk2 ?_)
   all_goals first|refine AtT.zi ?_|refine AtT.zg ?_|(refine AtT.qg ?_)
   all_goals (refine AtT.zF ?_)
   all_goals (refine AtT.ze ?_)
   all_goals (first | refine AtT.kL 31 ?_ | refine AtT.zD (d:=31) rfl (fun hg31=>?_) (fun hg31=>?_) | refine AtT.zC (d:=31) rfl (fun hg31=>?_) (fun hg31=>?_))
   all_goals first|refine AtT.zi ?_|refine AtT.zg ?_|(first | refine AtT.zm qb ?_ | with_reducible refine AtT.zn qb ?_ | refine AtT.zq qb ?_)
   all_goals first|refine AtT.zi ?_|refine AtT.zg ?_|(first | refine AtT.zk tk2 ?_ | refine AtT.zo tk2 ?_)
   all_goals first|refine AtT.zi ?_|refine AtT.zg ?_|(refine AtT.qx ?_)
   all_goals (refine AtT.zF ?_)
   all_goals refine AtT.done ?_
   all_goals (refine At.nrm ?_)
   refine At.qK rfl rfl ?_
   refine At.nrm ?_
   refine At.zh (.q 0 .done) ?_
   refine AtT.zf ?_
   refine AtT.done ?_
   refine At.nrm ?_
   exact At.zT rfl (.tmp rfl) ⟨3,rfl,fun h=>by cases h⟩
  by_cases c2:20<x.h
  ·refine At.zh (.q 0 (.q 1 (.q 2 (.q 3 (.q 4 (.q 5 (.q 6 (.q 7 (.q 8 (.q 9 (.q 10 (.q 11 (.q 12 (.q 13 (.q 14 (.q 15 (.q 16 (.q 17 .done)))))))))))))))))) ?_
   first | refine AtT.zm zH ?_ | with_reducible refine AtT.zn zH ?_ | refine AtT.zq zH ?_
   first | refine AtT.zk tk3 ?_ | refine AtT.zo tk3 ?_
   refine AtT.qg ?_
   refine AtT.qA (d:=20) rfl (c1) ?_
   refine AtT.ze ?_
   all_goals (first | refine AtT.kL 21 ?_ | refine AtT.zD (d:=21) rfl (fun hg21=>?_) (fun hg21=>?_) | refine AtT.zC (d:=21) rfl (fun hg21=>?_) (fun hg21=>?_))
   all_goals first|refine AtT.zi ?_|refine AtT.zg ?_|(first | refine AtT.zm zH ?_ | with_reducible refine AtT.zn zH ?_ | refine AtT.zq zH ?_)
   all_goals first|refine AtT.zi ?_|refine AtT.zg ?_|(first | refine AtT.zk tk3 ?_ | refine AtT.zo tk3 ?_)
   all_goals first|refine AtT.zi ?_|refine AtT.zg ?_|(refine AtT.qx ?_)
   all_goals (refine AtT.jv (d:=24) rfl (c2) ?_)
   all_goals (refine AtT.zF ?_)
   all_goals (refine AtT.ze ?_)
   all_goals (first | refine AtT.kL 26 ?_ | refine AtT.zD (d:=26) rfl (fun hg26=>?_) (fun hg26=>?_) | refine AtT.zC (d:=26) rfl (fun hg26=>?_) (fun hg26=>?_))
   all_goals first|refine AtT.zi ?_|refine AtT.zg ?_|(first | refine AtT.zm qb ?_ | with_reducible refine AtT.zn qb ?_ | refine AtT.zq qb ?_)
   all_goals first|refine AtT.zi ?_|refine AtT.zg ?_|(first | refine AtT.zk tk2 ?_ | refine AtT.zo tk2 ?_)
   all_goals first|refine AtT.zi ?_|refine AtT.zg ?_|(refine AtT.qg ?_)
   all_goals (refine AtT.zF ?_)
   all_goals (refine AtT.ze ?_)
   all_goals (first | refine AtT.kL 31 ?_ | refine AtT.zD (d:=31) rfl (fun hg31=>?_) (fun hg31=>?_) | refine AtT.zC (d:=31) rfl (fun hg31=>?_) (fun hg31=>?_))
   all_goals first|refine AtT.zi ?_|refine AtT.zg ?_|(first | refine AtT.zm qb ?_ | with_reducible refine AtT.zn qb ?_ | refine AtT.zq qb ?_)
   all_goals first|refine AtT.zi ?_|refine AtT.zg ?_|(first | refine AtT.zk tk2 ?_ | refine AtT.zo tk2 ?_)
   all_goals first|refine AtT.zi ?_|refine AtT.zg ?_|(refine AtT.qx ?_)
   all_goals (refine AtT.zF ?_)
   all_goals refine AtT.done ?_
   all_goals (refine At.nrm ?_)
   refine At.qK rfl rfl ?_
   refine At.nrm ?_
   refine At.zh (.q 0 .done) ?_
   refine AtT.zf ?_
   refine AtT.done ?_
   refine At.nrm ?_
   exact At.zT rfl (.tmp rfl) ⟨3,rfl,fun h=>by cases h⟩
  by_cases c3:x.t<1
  ·refine At.zh (.q 0 (.q 1 (.q 2 (.q 3 (.q 4 (.q 5 (.q 6 (.q 7 (.q 8 (.q 9 (.q 10 (.q 11 (.q 12 (.q 13 (.q 14 (.q 15 (.q 16 (.q 17 .done)))))))))))))))))) ?_
   first | refine AtT.zm zH ?_ | with_reducible refine AtT.zn zH ?_ | refine AtT.zq zH ?_
   first | refine AtT.zk tk3 ?_ | refine AtT.zo tk3 ?_
   refine AtT.qg ?_
   refine AtT.qA (d:=20) rfl (c1) ?_
   refine AtT.ze ?_
   all_goals (first | refine AtT.kL 21 ?_ | refine AtT.zD (d:=21) rfl (fun hg21=>?_) (fun hg21=>?_) | refine AtT.zC (d:=21) rfl (fun hg21=>?_) (fun hg21=>?_))
   all_goals first|refine AtT.zi ?_|refine AtT.zg ?_|(first | refine AtT.zm zH ?_ | with_reducible refine AtT.zn zH ?_ | refine AtT.zq zH ?_)
   all_goals first|refine AtT.zi ?_|refine AtT.zg ?_|(first | refine AtT.zk tk3 ?_ | refine AtT.zo tk3 ?_)
   all_goals first|refine AtT.zi ?_|refine AtT.zg ?_|(refine AtT.qx ?_)
   all_goals (refine AtT.qA (d:=24) rfl (c2) ?_)
   all_goals (refine AtT.zF ?_)
   all_goals (refine AtT.ze ?_)
   all_goals (first | refine AtT.kL 26 ?_ | refine AtT.zD (d:=26) rfl (fun hg26=>?_) (fun hg26=>?_) | refine AtT.zC (d:=26) rfl (fun hg26=>?_) (fun hg26=>?_))
   all_goals first|refine AtT.zi ?_|refine AtT.zg ?_|(first | refine AtT.zm qb ?_ | with_reducible refine AtT.zn qb ?_ | refine AtT.zq qb ?_)
   all_goals first|refine AtT.zi ?_|refine AtT.zg ?_|(first | refine AtT.zk tk2 ?_ | refine AtT.zo tk2 ?_)
   all_goals first|refine AtT.zi ?_|refine AtT.zg ?_|(refine AtT.qg ?_)
   all_goals (refine AtT.jv (d:=29) rfl (c3) ?_)
   all_goals (refine AtT.zF ?_)
   all_goals (refine AtT.ze ?_)
   all_goals (first | refine AtT.kL 31 ?_ | refine AtT.zD (d:=31) rfl (fun hg31=>?_) (fun hg31=>?_) | refine AtT.zC (d:=31) rfl (fun hg31=>?_) (fun hg31=>?_))
   all_goals first|refine AtT.zi ?_|refine AtT.zg ?_|(first | refine AtT.zm qb ?_ | with_reducible refine AtT.zn qb ?_ | refine AtT.zq qb ?_)
   all_goals first|refine AtT.zi ?_|refine AtT.zg ?_|(first | refine AtT.zk tk2 ?_ | refine AtT.zo tk2 ?_)
   all_goals first|refine AtT.zi ?_|refine AtT.zg ?_|(refine AtT.qx ?_)
   all_goals (refine AtT.zF ?_)
   all_goals refine AtT.done ?_
   all_goals (refine At.nrm ?_)
   refine At.qK rfl rfl ?_
   refine At.nrm ?_
   refine At.zh (.q 0 .done) ?_
   refine AtT.zf ?_
   refine AtT.done ?_
   refine At.nrm ?_
   exact At.zT rfl (.tmp rfl) ⟨3,rfl,fun h=>by cases h⟩
  by_cases c4:24<x.t
  ·refine At.zh (.q 0 (.q 1 (.q 2 (.q 3 (.q 4 (.q 5 (.q 6 (.q 7 (.q 8 (.q 9 (.q 10 (.q 11 (.q 12 (.q 13 (.q 14 (.q 15 (.q 16 (.q 17 .done)))))))))))))))))) ?_
   first | refine AtT.zm zH ?_ | with_reducible refine AtT.zn zH ?_ | refine AtT.zq zH ?_
   first | refine AtT.zk tk3 ?_ | refine AtT.zo tk3 ?_
   refine AtT.qg ?_
   refine AtT.qA (d:=20) rfl (c1) ?_
   refine AtT.ze ?_
   all_goals (first | refine AtT.kL 21 ?_ | refine AtT.zD (d:=21) rfl (fun hg21=>?_) (fun hg21=>?_) | refine AtT.zC (d:=21) rfl (fun hg21=>?_) (fun hg21=>?_))
   all_goals first|refine AtT.zi ?_|refine AtT.zg ?_|(first | refine AtT.zm zH ?_ | with_reducible refine AtT.zn zH ?_ | refine AtT.zq zH ?_)
   all_goals first|refine AtT.zi ?_|refine AtT.zg ?_|(first | refine AtT.zk tk3 ?_ | refine AtT.zo tk3 ?_)
   all_goals first|refine AtT.zi ?_|refine AtT.zg ?_|(refine AtT.qx ?_)
   all_goals (refine AtT.qA (d:=24) rfl (c2) ?_)
   all_goals (refine AtT.zF ?_)
   all_goals (refine AtT.ze ?_)
   all_goals (first | refine AtT.kL 26 ?_ | refine AtT.zD (d:=26) rfl (fun hg26=>?_) (fun hg26=>?_) | refine AtT.zC (d:=26) rfl (fun hg26=>?_) (fun hg26=>?_))
   all_goals first|refine AtT.zi ?_|refine AtT.zg ?_|(first | refine AtT.zm qb ?_ | with_reducible refine AtT.zn qb ?_ | refine AtT.zq qb ?_)
   all_goals first|refine AtT.zi ?_|refine AtT.zg ?_|(first | refine AtT.zk tk2 ?_ | refine AtT.zo tk2 ?_)
   all_goals first|refine AtT.zi ?_|refine AtT.zg ?_|(refine AtT.qg ?_)
   all_goals (refine AtT.qA (d:=29) rfl (c3) ?_)
   all_goals (refine AtT.zF ?_)
   all_goals (refine AtT.ze ?_)
   all_goals (first | refine AtT.kL 31 ?_ | refine AtT.zD (d:=31) rfl (fun hg31=>?_) (fun hg31=>?_) | refine AtT.zC (d:=31) rfl (fun hg31=>?_) (fun hg31=>?_))
   all_goals first|refine AtT.zi ?_|refine AtT.zg ?_|(first | refine AtT.zm qb ?_ | with_reducible refine AtT.zn qb ?_ | refine AtT.zq qb ?_)
   all_goals first|refine AtT.zi ?_|refine AtT.zg ?_|(first | refine AtT.zk tk2 ?_ | refine AtT.zo tk2 ?_)
   all_goals first|refine AtT.zi ?_|refine AtT.zg ?_|(refine AtT.qx ?_)
   all_goals (refine AtT.jv (d:=34) rfl (c4) ?_)
   all_goals (refine AtT.zF ?_)
   all_goals refine AtT.done ?_
   all_goals (refine At.nrm ?_)
   refine At.qK rfl rfl ?_
   refine At.nrm ?_
   refine At.zh (.q 0 .done) ?_
   refine AtT.zf ?_
   refine AtT.done ?_
   refine At.nrm ?_
   exact At.zT rfl (.tmp rfl) ⟨3,rfl,fun h=>by cases h⟩
  refine At.zh (.q 0 (.q 1 (.q 2 (.q 3 (.q 4 (.q 5 (.q 6 (.q 7 (.q 8 (.q 9 (.q 10 (.q 11 (.q 12 (.q 13 (.q 14 (.q 15 (.q 16 (.q 17 .done)))))))))))))))))) ?_
  first | refine AtT.zm zH ?_ | with_reducible refine AtT.zn zH ?_ | refine AtT.zq zH ?_
  first | refine AtT.zk tk3 ?_ | refine AtT.zo tk3 ?_
  refine AtT.qg ?_
  refine AtT.qA (d:=20) rfl (c1) ?_
  refine AtT.ze ?_
  all_goals (first | refine AtT.kL 21 ?_ | refine AtT.zD (d:=21) rfl (fun hg21=>?_) (fun hg21=>?_) | refine AtT.zC (d:=21) rfl (fun hg21=>?_) (fun hg21=>?_))
  all_goals first|refine AtT.zi ?_|refine AtT.zg ?_|(first | refine AtT.zm zH ?_ | with_reducible refine AtT.zn zH ?_ | refine AtT.zq zH ?_)
  all_goals first|refine AtT.zi ?_|refine AtT.zg ?_|(first | refine AtT.zk tk3 ?_ | refine AtT.zo tk3 ?_)
  all_goals first|refine AtT.zi ?_|refine AtT.zg ?_|(refine AtT.qx ?_)
  all_goals (refine AtT.qA (d:=24) rfl (c2) ?_)
  all_goals (refine AtT.zF ?_)
  all_goals (refine AtT.ze ?_)
  all_goals (first | refine AtT.kL 26 ?_ | refine AtT.zD (d:=26) rfl (fun hg26=>?_) (fun hg26=>?_) | refine AtT.zC (d:=26) rfl (fun hg26=>?_) (fun hg26=>?_))
  all_goals first|refine AtT.zi ?_|refine AtT.zg ?_|(first | refine AtT.zm qb ?_ | with_reducible refine AtT.zn qb ?_ | refine AtT.zq qb ?_)
  all_goals first|refine AtT.zi ?_|refine AtT.zg ?_|(first | refine AtT.zk tk2 ?_ | refine AtT.zo tk2 ?_)
  all_goals first|refine AtT.zi ?_|refine AtT.zg ?_|(refine AtT.qg ?_)
  all_goals (refine AtT.qA (d:=29) rfl (c3) ?_)
  all_goals (refine AtT.zF ?_)
  all_goals (refine AtT.ze ?_)
  all_goals (first | refine AtT.kL 31 ?_ | refine AtT.zD (d:=31) rfl (fun hg31=>?_) (fun hg31=>?_) | refine AtT.zC (d:=31) rfl (fun hg31=>?_) (fun hg31=>?_))
  all_goals first|refine AtT.zi ?_|refine AtT.zg ?_|(first | refine AtT.zm qb ?_ | with_reducible refine AtT.zn qb ?_ | refine AtT.zq qb ?_)
  all_goals first|refine AtT.zi ?_|refine AtT.zg ?_|(first | refine AtT.zk tk2 ?_ | refine AtT.zo tk2 ?_)
  all_goals first|refine AtT.zi ?_|refine AtT.zg ?_|(refine AtT.qx ?_)
  all_goals (refine AtT.qA (d:=34) rfl (c4) ?_)
  all_goals (refine AtT.zF ?_)
  all_goals refine AtT.done ?_
  all_goals (refine At.nrm ?_)
  refine At.qf rfl rfl ?_
  refine At.nrm ?_
  refine At.zh (.q 0 (.q 1 (.q 2 .done))) ?_
  refine AtT.ze ?_
  first | refine AtT.qm ?_ | refine AtT.zR ?_
  refine AtT.zf ?_
  refine AtT.done ?_
  refine At.nrm ?_
  refine At.round (k+1) ?_ ?_ ?_ ?_
  ·show ps.length-(k+1)<ps.length-k; omega
  ·refine⟨rfl,by omega,fun j p hj hjp=>?_⟩
   rcases Nat.lt_or_ge j k with c | c
   ·exact hup j p c hjp
   ·obtain rfl:j=k:=by omega
    rw[hx]at hjp
    obtain rfl:x=p:=by simpa using hjp
    omega
  ·exact⟨rfl,rfl,trivial⟩
  ·exact Pt.zx
 ·obtain rfl:k=ps.length:=by omega
  refine At.nrm ?_
  refine At.zh (.q 0 .done) ?_
  refine AtT.zf ?_
  refine AtT.done ?_
  refine At.nrm ?_
  refine At.zT rfl (.tmp rfl) ⟨0,rfl,fun _=>⟨by omega,fun p hp=>?_⟩⟩
  obtain⟨j,hj,rfl⟩:=List.getElem_of_mem hp
  exact hup j _ hj (List.getElem?_eq_getElem hj)
theorem both_f (b:Bd) (a:Option Addr) (c:Nat) (ps:List Pp) (V:View) (v:Value) (hs:SlI V (.slice a b.br.length c) b.br) (hp:Sl V ppe 2 v ps):Fnc Tryz.prog 4 [bdv b a c,v] V fun r _=>∃ e,r=iv e∧(e=0→BdOk b∧PpOk ps):=by
 refine zS Tryz.func4 rfl Tryz.ntmps4 (Nat.le_of_ble_eq_true rfl) ?_
 intro w0 hw0
 refine At.nrm ?_
 refine At.zh (.n false 0 (.q 1 .done)) ?_
 refine AtT.jS ?_
 intro b2
 refine AtT.zf ?_
 refine AtT.done ?_
 refine At.nrm ?_
 refine At.zh (.q 0 (.n false 1 (.q 2 .done))) ?_
 first | refine AtT.zB qz ?_ | refine AtT.zM qz ?_ | refine AtT.zA qz ?_
 refine AtT.zJ rfl rfl ok16 (rCheckBed_f b a c _ hs) ?_
 rintro _ ⟨e,rfl,he⟩
 refine AtT.jV ?_
 refine AtT.done ?_
 refine At.nrm ?_
 refine At.zZ rfl (fun h1=>?_) (fun h1=>?_)
 ·refine At.nrm ?_
  refine At.zh (.q 0 (.n false 1 (.q 2 .done))) ?_
  first | refine AtT.zB qz ?_ | refine AtT.zM qz ?_ | refine AtT.zA qz ?_
  refine AtT.zJ rfl rfl ok16 (rCheckBed_f b a c _ hs) ?_
  rintro _ ⟨e2,rfl,he2⟩
  refine AtT.zf ?_
  refine AtT.done ?_
  refine At.nrm ?_
  refine At.zT rfl (.tmp rfl) ⟨e2,rfl,fun h=>absurd (he.2 (he2.1 h)) (by simpa using h1)⟩
 refine At.nrm ?_
 refine At.zh (.q 0 (.n false 1 (.q 2 .done))) ?_
 refine AtT.ze ?_
 refine AtT.zJ rfl rfl ok17 (rCheckPanels_f ps _ _ hp) ?_
 rintro _ ⟨e2,rfl,he2⟩
 refine AtT.zf ?_
 refine AtT.done ?_
 refine At.nrm ?_
 exact At.zT rfl (.tmp rfl) ⟨e2,rfl,fun h=>⟨he.1 (by simpa using h1),he2 h⟩⟩
theorem has_f (l:List Int) (x:Int) (V:View) (v:Value) (hs:SlI V v l):Fnc Tryz.prog 11 [v,iv x] V fun r _=>r=.bool (decide (x∈l)):=by
 have hlen:=hs.qI
 obtain⟨a,cc,rfl,k1,k2,_⟩:=id hs
 clear k1 k2
 refine zS Tryz.func11 rfl Tryz.ntmps11 (Nat.le_of_ble_eq_true rfl) ?_
 intro w0 hw0
 refine At.nrm ?_
 refine At.zh (.q 0 .done) ?_
 refine AtT.zf ?_
 refine AtT.done ?_
 refine At.nrm ?_
 refine At.zh (.q 0 .done) ?_
 refine AtT.zf ?_
 refine AtT.done ?_
 refine At.nrm ?_
 refine At.lp (ι:=Nat) (KS:=fun k=>[(0,.slice a l.length cc),(1,iv x),(5,iv k)]) (OS:=fun _=>[])
  (VS:=fun k V'=>V'=V∧k≤l.length∧x∉l.take k) (μ:=fun k=>l.length-k) 0 ?_ ?_ ?_ ?_
 ·exact⟨rfl,rfl,rfl,trivial⟩
 ·exact Pt.zx
 ·exact⟨rfl,Nat.zero_le _,by simp⟩
 rintro k V' ks' O' ⟨rfl,hkl,hup⟩ hk hO hl
 subst hk hO
 refine At.nrm ?_
 refine At.zh (.q 0 (.q 1 (.q 2 (.q 3 .done)))) ?_
 refine AtT.ze ?_
 refine AtT.ze ?_
 first | refine AtT.zK Tryz.underlying22 ?_ | refine AtT.zL Tryz.underlying22 ?_
 refine AtT.qg ?_
 refine AtT.done ?_
 refine At.nrm ?_
 refine At.zZ rfl (fun hp=>?_) (fun hp=>?_)
 ·have hkl1:k<l.length:=by omega
  refine At.nrm ?_
  refine At.zh (.q 0 (.q 1 (.q 2 (.q 3 (.q 4 (.q 5 .done)))))) ?_
  refine AtT.ze ?_
  refine AtT.ze ?_
  refine AtT.zU Tryz.underlying22 tk3 ?_
  intro p14 e14 he14 hc14
  obtain rfl:l[k]=e14:=by have:l[k]? = some e14:=(by simpa using he14); rw[List.getElem?_eq_getElem hkl1]at this; simpa using this
  first | refine AtT.zk tk3 ?_ | refine AtT.zo tk3 ?_
  refine AtT.ze ?_
  refine AtT.jR ?_
  refine AtT.done ?_
  refine At.nrm ?_
  refine At.zZ rfl (fun hq=>?_) (fun hq=>?_)
  ·refine At.nrm ?_
   refine At.zh (.q 0 .done) ?_
   refine AtT.zf ?_
   refine AtT.done ?_
   refine At.nrm ?_
   refine At.zT rfl (.tmp rfl) ?_
   rw[decide_eq_true (by rw[←hq]; exact List.getElem_mem hkl1)]
  ·refine At.nrm ?_
   refine At.zh (.q 0 (.q 1 (.q 2 .done))) ?_
   refine AtT.ze ?_
   first | refine AtT.qm ?_ | refine AtT.zR ?_
   refine AtT.zf ?_
   refine AtT.done ?_
   refine At.nrm ?_
   refine At.round (k+1) ?_ ?_ ?_ ?_
   ·show l.length-(k+1)<l.length-k; omega
   ·refine⟨rfl,hkl1,fun h=>?_⟩
    rw[List.take_succ_eq_append_getElem hkl1]at h
    rcases List.mem_append.1 h with h | h
    ·exact hup h
    ·exact hq (by simpa using h:x=l[k]).symm
   ·exact⟨rfl,rfl,rfl,trivial⟩
   ·exact Pt.zx
 ·obtain rfl:k=l.length:=by omega
  rw[List.take_length]at hup
  refine At.nrm ?_
  refine At.zh (.q 0 .done) ?_
  refine AtT.zf ?_
  refine AtT.done ?_
  refine At.nrm ?_
  refine At.zT rfl (.tmp rfl) ?_
  rw[decide_eq_false hup]
theorem wholeOf_f (b:Bd) (hb:1≤b.o∧b.o≤10) (a:Option Addr) (c:Nat) (V:View) (hs:SlI V (.slice a b.br.length c) b.br):Fnc Tryz.prog 10 [bdv b a c] V fun r V'=>SlI V' r (whl b):=by
 obtain⟨n,hn⟩:∃ n:Nat,b.o=n:=⟨b.o.toNat,by omega⟩
 have hw:whl b=whK b n:=by unfold whl; rw[hn]; rfl
 rw[hw]
 refine zS Tryz.func10 rfl Tryz.ntmps10 (Nat.le_of_ble_eq_true rfl) ?_
 intro w0 hw0
 refine At.nrm ?_
 refine At.zh (.n false 0 (.q 1 .done)) ?_
 refine AtT.jS ?_
 intro b1
 refine AtT.zf ?_
 refine AtT.done ?_
 refine At.nrm ?_
 refine At.zh (.q 0 .done) ?_
 refine AtT.zf ?_
 refine AtT.done ?_
 refine At.nrm ?_
 refine At.zh (.q 0 .done) ?_
 refine AtT.zf ?_
 refine AtT.done ?_
 refine At.nrm ?_
 refine At.newRow 3 1 ?_
 refine At.lp (ι:=Nat×Option Addr×Nat) (KS:=fun g=>[(1,.pointer (some ⟨b1,0,none⟩)),(3,.slice g.2.1 (whK b g.1).length g.2.2),(4,iv g.1)]) (OS:=fun g=>[.blk b1 (LC [iv b.o,.slice a b.br.length c,iv b.h,iv b.c] 24),.row (.slice g.2.1 (whK b g.1).length g.2.2) 3 1 (whK b g.1).length (flat ei (whK b g.1))])
  (VS:=fun g V'=>Le V V'∧g.1≤n) (μ:=fun g=>n-g.1) (0,none,0) ?_ ?_ ?_ ?_
 ·exact⟨rfl,rfl,rfl,trivial⟩
 ·exact Pt.zx
 ·exact⟨Le.refl _,Nat.zero_le _⟩
 rintro⟨k,ao,co⟩ V1 ks' O' ⟨hV1,hk1⟩ hk hO hl
 dsimp only at hk1 hk hO
 subst hk hO
 have hs1:=hs.le hV1
 have hwl:=whK_len b k
 refine At.nrm ?_
 refine At.zh (.q 0 (.q 1 (.q 2 (.q 3 .done)))) ?_
 refine AtT.ze ?_
 first | refine AtT.zm zV ?_ | with_reducible refine AtT.zn zV ?_ | refine AtT.zq zV ?_
 first | refine AtT.zk tk3 ?_ | refine AtT.zo tk3 ?_
 refine AtT.qg ?_
 refine AtT.done ?_
 refine At.nrm ?_
 refine At.zZ rfl (fun hp=>?_) (fun hp=>?_)
 ·refine At.nrm ?_
  refine At.zh (.q 0 (.q 1 (.q 2 (.n false 3 (.q 4 .done))))) ?_
  first | refine AtT.zm qF ?_ | with_reducible refine AtT.zn qF ?_ | refine AtT.zq qF ?_
  first | refine AtT.zk zQ ?_ | refine AtT.zo zQ ?_
  refine AtT.ze ?_
  refine AtT.zJ rfl rfl ok11 (has_f b.br k _ _ hs1) ?_
  rintro _ rfl
  refine AtT.knot ?_
  refine AtT.done ?_
  refine At.nrm ?_
  have hsc:=whK_succ b k
  refine At.cond rfl (fun h=>?_) (fun h=>?_)
  ·have h:(k:Int)∉b.br:=by simpa using h
   rw[if_neg h]at hsc
   refine At.nrm ?_
   refine At.zh (.q 0 (.q 1 (.n false 2 (.n true 3 (.q 4 .done))))) ?_
   refine AtT.ze ?_
   refine AtT.ze ?_
   refine AtT.qi (qX _) ?_
   intro q18 V18 hV18 hq18
   have g18:Le V V18:=by first | exact hV18 | exact Le.trans (by assumption) hV18
   first | refine AtT.kX Tryz.underlying22 rw3 ?_
   intro a19 c19
   refine AtT.zf ?_
   refine AtT.done ?_
   refine At.nrm ?_
   refine At.nrm ?_
   refine At.zh (.q 0 (.q 1 (.q 2 .done))) ?_
   refine AtT.ze ?_
   first | refine AtT.qm ?_ | refine AtT.zR ?_
   refine AtT.zf ?_
   refine AtT.done ?_
   refine At.nrm ?_
   refine At.round (k+1,a19,c19) ?_ ?_ ?_ ?_
   ·show n-(k+1)<n-k; omega
   ·exact⟨hV1.trans hV18,by dsimp only; omega⟩
   ·dsimp only; rw[hsc,List.length_append]; exact⟨rfl,rfl,rfl,trivial⟩
   ·dsimp only; rw[hsc,qB,List.length_append]; exact Pt.zx
  ·have h:(k:Int)∈b.br:=by simpa using h
   rw[if_pos h]at hsc
   refine At.nrm ?_
   refine At.zh (.q 0 (.q 1 (.q 2 .done))) ?_
   refine AtT.ze ?_
   first | refine AtT.qm ?_ | refine AtT.zR ?_
   refine AtT.zf ?_
   refine AtT.done ?_
   refine At.nrm ?_
   refine At.round (k+1,ao,co) ?_ ?_ ?_ ?_
   ·show n-(k+1)<n-k; omega
   ·exact⟨hV1,by dsimp only; omega⟩
   ·dsimp only; rw[hsc]; exact⟨rfl,rfl,rfl,trivial⟩
   ·dsimp only; rw[hsc]; exact Pt.zx
 ·obtain rfl:k=n:=by omega
  refine At.nrm ?_
  refine At.zh (.q 0 (.q 1 .done)) ?_
  refine AtT.ze ?_
  refine AtT.zf ?_
  refine AtT.done ?_
  refine At.nrm ?_
  refine At.giveSl (l:=whK b k) Lw.jd rfl rfl zN.zx (fun V4 hV4 hs4=>?_)
  exact At.zT rfl (.tmp rfl) hs4
end Go.Proofs.YtfmmggphdeiajaaGreatDoor.P
end
section
set_option linter.unusedVariables false
namespace Go.Proofs.YtfmmggphdeiajaaGreatDoor.P
open Go.Lw Go.Ps Go.RowKit
open Go.Gl (iv ivs qB)
theorem pindex_i (g:FuncId) (cap:List Value) (p:Int→Bool) (V:View) (vl:Value) (l:List Int) (hs:SlI V vl l) (hok:zy Tryz.prog g)
  (hc:∀ x,x∈l→Fnc Tryz.prog g ([]++[iv x]++cap) V (fun v _=>v=.bool (p x))) :
  Fnc Tryz.prog 101 [vl,.func (.func g) #[] cap.toArray] V fun v _=>∃ j:Int,v=iv j∧(decide (0≤j))=l.any p:=by
 have hlen:=hs.qI
 refine zS Tryz.func101 rfl Tryz.ntmps101 (Nat.le_of_ble_eq_true rfl) ?_
 intro w0 hw0
 refine At.nrm ?_
 refine At.zh (.q 0 .done) ?_
 refine AtT.zf ?_
 refine AtT.done ?_
 refine At.nrm ?_
 refine At.zh (.q 0 (.q 1 (.q 2 .done))) ?_
 refine AtT.ze ?_
 first | refine AtT.zK Tryz.underlying22 ?_ | refine AtT.zL Tryz.underlying22 ?_
 refine AtT.ze ?_
 refine AtT.done ?_
 refine At.nrm ?_
 refine At.lp (ι:=Nat) (KS:=fun k=>[(0,vl),(1,.func (.func g) #[] cap.toArray),(4,iv 0),(7,iv l.length),(8,iv k)]) (OS:=fun _=>[])
  (VS:=fun k V'=>V'=V∧k≤l.length∧(l.take k).any p=false) (μ:=fun k=>l.length-k) 0 ?_ ?_ ?_ ?_
 ·exact⟨rfl,rfl,rfl,rfl,rfl,trivial⟩
 ·exact Pt.zx
 ·exact⟨rfl,Nat.zero_le _,rfl⟩
 ·rintro k V' ks' O' ⟨rfl,hkl,hany⟩ hk hO hl
  subst hk hO
  refine At.nrm ?_
  refine At.zh (.q 0 .done) ?_
  refine AtT.qg ?_
  refine AtT.done ?_
  refine At.nrm ?_
  refine At.zZ rfl (fun hp=>?_) (fun hp=>?_)
  ·refine At.nrm ?_
   refine At.zh (.q 0 (.q 1 .done)) ?_
   refine AtT.ze ?_
   refine AtT.zf ?_
   refine AtT.done ?_
   refine At.nrm ?_
   refine At.zh (.q 0 (.q 1 (.q 2 (.q 3 (.q 4 (.n false 5 .done)))))) ?_
   refine AtT.ze ?_
   refine AtT.ze ?_
   refine AtT.ze ?_
   refine AtT.zU Tryz.underlying22 tk3 ?_
   intro p14 e14 he14 hc14
   first | refine AtT.zk tk3 ?_ | refine AtT.zo tk3 ?_
   refine AtT.kcallV rfl rfl rfl hok (hc e14 (List.mem_of_getElem? he14)) ?_
   rintro _ rfl
   refine AtT.done ?_
   refine At.nrm ?_
   have hee:l[k]? = some e14:=by simpa using he14
   have hnx:l.take (k+1)=l.take k++[e14]:=by
    rw[List.take_succ_eq_append_getElem (by omega)]; congr 1; rw[List.getElem?_eq_getElem (by omega)]at hee; simpa using hee
   refine At.cond rfl (fun hb=>?_) (fun hb=>?_)
   ·refine At.nrm ?_
    refine At.zh (.q 0 (.q 1 .done)) ?_
    refine AtT.ze ?_
    refine AtT.zf ?_
    refine AtT.done ?_
    refine At.nrm ?_
    refine At.zT rfl (.tmp rfl) ⟨k,rfl,?_⟩
    have:l.any p=true:=List.any_eq_true.2 ⟨e14,List.mem_of_getElem? hee,hb⟩
    rw[this]; simp
   ·refine At.nrm ?_
    refine At.zh (.q 0 (.q 1 .done)) ?_
    first | refine AtT.qm ?_ | refine AtT.zR ?_
    refine AtT.ze ?_
    refine AtT.done ?_
    refine At.nrm ?_
    refine At.round (k+1) ?_ ?_ ?_ ?_
    ·show l.length-(k+1)<l.length-k; omega
    ·refine⟨rfl,by omega,?_⟩
     rw[hnx,List.any_append,hany]; simp[hb]
    ·exact⟨rfl,rfl,rfl,rfl,rfl,trivial⟩
    ·exact Pt.zx
  ·have hkk:k=l.length:=by omega
   subst hkk
   rw[List.take_length]at hany
   refine At.nrm ?_
   refine At.zh (.q 0 .done) ?_
   refine AtT.zf ?_
   refine AtT.done ?_
   refine At.nrm ?_
   refine At.zT rfl (.tmp rfl) ⟨-1,rfl,?_⟩
   rw[hany]; rfl
theorem pcontains_i (g:FuncId) (cap:List Value) (p:Int→Bool) (V:View) (vl:Value) (l:List Int) (hs:SlI V vl l) (hok:zy Tryz.prog g)
  (hc:∀ x,x∈l→Fnc Tryz.prog g ([]++[iv x]++cap) V (fun v _=>v=.bool (p x))) :
  Fnc Tryz.prog 52 [vl,.func (.func g) #[] cap.toArray] V fun v _=>v=.bool (l.any p):=by
 refine zS Tryz.func52 rfl Tryz.ntmps52 (Nat.le_of_ble_eq_true rfl) ?_
 intro w0 hw0
 refine At.nrm ?_
 refine At.zh (.q 0 .done) ?_
 refine AtT.zf ?_
 refine AtT.done ?_
 refine At.nrm ?_
 refine At.zh (.q 0 (.q 1 (.n false 2 (.q 3 (.q 4 .done))))) ?_
 refine AtT.ze ?_
 refine AtT.ze ?_
 refine AtT.zJ rfl rfl ok101 (pindex_i g cap p V vl l hs hok hc) ?_
 rintro _ ⟨j,rfl,hj⟩
 refine AtT.kgeq ?_
 refine AtT.zf ?_
 refine AtT.done ?_
 refine At.nrm ?_
 refine At.zT rfl (.tmp rfl) ?_
 rw[hj]
theorem within1_f (lo hi y:Int) (V:View) (q1 q2:Addr) (h1:Cells V q1 [iv lo]) (h2:Cells V q2 [iv hi]):Fnc Tryz.prog 102 ([]++[iv y]++[.pointer (some q1),.pointer (some q2)]) V fun r _=>r=.bool (decide (y<lo∨hi<y)):=by
 refine zS Tryz.func102 rfl Tryz.ntmps102 (Nat.le_of_ble_eq_true rfl) ?_
 intro w0 hw0
 refine At.nrm ?_
 refine At.zh (.q 0 .done) ?_
 refine AtT.zf ?_
 refine AtT.done ?_
 refine At.nrm ?_
 by_cases h:y<lo
 ·refine At.zh (.q 0 (.q 1 (.q 2 (.q 3 (.q 4 (.q 5 (.q 6 (.q 7 (.q 8 .done))))))))) ?_
  refine AtT.ze ?_
  first | refine AtT.zk tk3 ?_ | refine AtT.zo tk3 ?_
  refine AtT.qg ?_
  refine AtT.jv (d:=7) rfl (h) ?_
  refine AtT.ze ?_
  all_goals (first | refine AtT.kL 8 ?_ | refine AtT.zD (d:=8) rfl (fun hg8=>?_) (fun hg8=>?_) | refine AtT.zC (d:=8) rfl (fun hg8=>?_) (fun hg8=>?_))
  all_goals first|refine AtT.zi ?_|refine AtT.zg ?_|(refine AtT.ze ?_)
  all_goals first|refine AtT.zi ?_|refine AtT.zg ?_|(first | refine AtT.zk tk3 ?_ | refine AtT.zo tk3 ?_)
  all_goals first|refine AtT.zi ?_|refine AtT.zg ?_|(refine AtT.qx ?_)
  all_goals (refine AtT.zF ?_)
  all_goals (refine AtT.zf ?_)
  all_goals refine AtT.done ?_
  all_goals (refine At.nrm ?_)
  all_goals (exact At.zT rfl (.tmp rfl) (by rw[decide_eq_true (Or.inl h)]; rfl))
 ·refine At.zh (.q 0 (.q 1 (.q 2 (.q 3 (.q 4 (.q 5 (.q 6 (.q 7 (.q 8 .done))))))))) ?_
  refine AtT.ze ?_
  first | refine AtT.zk tk3 ?_ | refine AtT.zo tk3 ?_
  refine AtT.qg ?_
  refine AtT.qA (d:=7) rfl (h) ?_
  refine AtT.ze ?_
  all_goals (first | refine AtT.kL 8 ?_ | refine AtT.zD (d:=8) rfl (fun hg8=>?_) (fun hg8=>?_) | refine AtT.zC (d:=8) rfl (fun hg8=>?_) (fun hg8=>?_))
  all_goals first|refine AtT.zi ?_|refine AtT.zg ?_|(refine AtT.ze ?_)
  all_goals first|refine AtT.zi ?_|refine AtT.zg ?_|(first | refine AtT.zk tk3 ?_ | refine AtT.zo tk3 ?_)
  all_goals first|refine AtT.zi ?_|refine AtT.zg ?_|(refine AtT.qx ?_)
  all_goals (refine AtT.zF ?_)
  all_goals (refine AtT.zf ?_)
  all_goals refine AtT.done ?_
  all_goals (refine At.nrm ?_)
  all_goals (exact At.zT rfl (.tmp rfl) (congrArg Value.bool (decide_eq_decide.2 ⟨fun h'=>.inr h',fun h'=>h'.resolve_left h⟩)))
theorem within_f (lo hi x:Int) (V:View) (v:Value) (hs:SlI V v [x]):Fnc Tryz.prog 58 [iv lo,iv hi,v] V fun r _=>r=.bool (decide (lo≤x∧x≤hi)):=by
 refine zS Tryz.func58 rfl Tryz.ntmps58 (Nat.le_of_ble_eq_true rfl) ?_
 intro w0 hw0
 refine At.nrm ?_
 refine At.zh (.n false 0 (.n false 1 (.q 2 .done))) ?_
 refine AtT.jS ?_
 intro b3
 refine AtT.jS ?_
 intro b4
 refine AtT.zf ?_
 refine AtT.done ?_
 refine At.nrm ?_
 refine At.zh (.q 0 (.q 1 (.n false 2 (.q 3 (.q 4 .done))))) ?_
 refine AtT.ze ?_
 refine AtT.kfn ?_
 refine AtT.kcallL rfl rfl ok52 (fun VL hVL hOL=>pcontains_i 102 [.pointer (some ⟨b3,0,none⟩),.pointer (some ⟨b4,0,none⟩)] (fun y=>decide (y<lo∨hi<y)) VL _ [x] (hs.le hVL) ok102 (fun y hy=>within1_f lo hi y VL _ _ (qj (hOL b3 _ (List.mem_cons_of_mem _ (List.mem_cons_self ..)))) (qj (hOL b4 _ (List.mem_cons_self ..))))) ?_
 rintro _ rfl
 refine AtT.knot ?_
 refine AtT.zf ?_
 refine AtT.done ?_
 refine At.nrm ?_
 refine At.zT rfl (.tmp rfl) ?_
 simp only[List.any_cons,List.any_nil,Bool.or_false]
 congr 1
 rw[←decide_not]
 exact decide_eq_decide.2 (by omega)
theorem rising_f (l:List Int) (n:Int) (hn:0≤n∧n≤1000) (hl:IsL l n) (V:View) (v:Value) (hs:SlI V v l):Fnc Tryz.prog 51 [v,iv n] V fun r _=>r=.bool true:=by
 have hlen:=hs.qI
 obtain⟨a,cc,rfl,k1,k2,_⟩:=id hs
 clear k1 k2
 refine zS Tryz.func51 rfl Tryz.ntmps51 (Nat.le_of_ble_eq_true rfl) ?_
 intro w0 hw0
 refine At.nrm ?_
 refine At.zh (.q 0 .done) ?_
 refine AtT.zf ?_
 refine AtT.done ?_
 refine At.nrm ?_
 refine At.zh (.q 0 .done) ?_
 refine AtT.zf ?_
 refine AtT.done ?_
 refine At.nrm ?_
 refine At.zh (.q 0 (.q 1 (.q 2 .done))) ?_
 refine AtT.ze ?_
 first | refine AtT.zK Tryz.underlying22 ?_ | refine AtT.zL Tryz.underlying22 ?_
 refine AtT.ze ?_
 refine AtT.done ?_
 refine At.nrm ?_
 refine At.lp (ι:=Nat×Int) (KS:=fun g=>[(0,.slice a l.length cc),(1,iv n),(5,iv g.2),(8,.slice a l.length cc),(9,iv l.length),(10,iv g.1)]) (OS:=fun _=>[])
  (VS:=fun g V'=>Le V V'∧g.1≤l.length∧0≤g.2∧g.2≤1000∧∀ j y,g.1≤j→l[j]? = some y→g.2≤y) (μ:=fun g=>l.length-g.1) (0,0) ?_ ?_ ?_ ?_
 ·exact⟨rfl,rfl,rfl,rfl,rfl,rfl,trivial⟩
 ·exact Pt.zx
 ·exact⟨Le.refl _,Nat.zero_le _,Int.le_refl _,by decide,fun j y _ hj=>(hl.bd y (List.mem_of_getElem? hj)).1⟩
 rintro⟨k,nx⟩ V1 ks' O' ⟨hV1,hkl,hn0,hn1,hnx⟩ hk hO hll
 dsimp only at hkl hn0 hn1 hnx hk hO
 subst hk hO
 have hs1:=hs.le hV1
 refine At.nrm ?_
 refine At.zh (.q 0 .done) ?_
 refine AtT.qg ?_
 refine AtT.done ?_
 refine At.nrm ?_
 refine At.zZ rfl (fun hp=>?_) (fun hp=>?_)
 ·obtain⟨x,hx⟩:∃ x,l[k]? = some x:=⟨_,List.getElem?_eq_getElem (by omega)⟩
  have hb:=hl.bd x (List.mem_of_getElem? hx)
  have h2:=hnx k x (Nat.le_refl _) hx
  refine At.nrm ?_
  refine At.zh (.q 0 (.q 1 (.q 2 .done))) ?_
  refine AtT.zU Tryz.underlying22 tk3 ?_
  intro p12 e12 he12 hc12
  obtain rfl:x=e12:=by have:l[k]? = some e12:=(by simpa using he12); rw[hx]at this; simpa using this
  first | refine AtT.zk tk3 ?_ | refine AtT.zo tk3 ?_
  refine AtT.zf ?_
  refine AtT.done ?_
  refine At.nrm ?_
  refine At.zh (.q 0 (.q 1 (.q 2 (.q 3 (.n false 4 (.n false 5 (.q 6 .done))))))) ?_
  refine AtT.ze ?_
  refine AtT.ze ?_
  first | refine AtT.ksubt ?_ | refine AtT.ksubW ?_
  refine AtT.ze ?_
  refine AtT.qi (qX _) ?_
  intro q18 V18 hV18 hq18
  have g18:Le V V18:=by first | exact hV18 | exact Le.trans (by assumption) hV18
  refine AtT.zJ rfl rfl ok58 (within_f nx (n-1) x _ _ (Sl.lit hq18 rfl (by simp))) ?_
  rintro _ rfl
  refine AtT.knot ?_
  refine AtT.done ?_
  refine At.nrm ?_
  refine At.qf rfl (by rw[decide_eq_true (by omega)]; rfl) ?_
  refine At.nrm ?_
  refine At.zh (.q 0 (.q 1 (.q 2 .done))) ?_
  refine AtT.ze ?_
  first | refine AtT.qm ?_ | refine AtT.zR ?_
  refine AtT.zf ?_
  refine AtT.done ?_
  refine At.nrm ?_
  refine At.nrm ?_
  refine At.zh (.q 0 (.q 1 .done)) ?_
  first | refine AtT.qm ?_ | refine AtT.zR ?_
  refine AtT.ze ?_
  refine AtT.done ?_
  refine At.nrm ?_
  refine At.round (k+1,x+1) ?_ ?_ ?_ ?_
  ·show l.length-(k+1)<l.length-k; omega
  ·refine⟨hV1.trans hV18,by dsimp only; omega,by dsimp only; omega,by dsimp only; omega,fun j y hj hy=>?_⟩
   have:=up_at hl.up hx hy (by dsimp only at hj; omega)
   dsimp only; omega
  ·exact⟨rfl,rfl,rfl,rfl,rfl,ivs (by dsimp only; omega),trivial⟩
  ·exact Pt.zx
 ·refine At.nrm ?_
  refine At.zh (.q 0 .done) ?_
  refine AtT.zf ?_
  refine AtT.done ?_
  refine At.nrm ?_
  exact At.zT rfl (.tmp rfl) rfl
theorem pCheckBed_f (b:Bd) (hb:BdOk b) (a:Option Addr) (c:Nat) (V:View) (hs:SlI V (.slice a b.br.length c) b.br):Fnc Tryz.prog 21 [bdv b a c] V fun r _=>r=iv 0:=by
 have hlen:=hs.qI
 have ho:=hb.o
 have hh:=hb.h
 have hc:=hb.c
 refine zS Tryz.func21 rfl Tryz.ntmps21 (Nat.le_of_ble_eq_true rfl) ?_
 intro w0 hw0
 refine At.nrm ?_
 refine At.zh (.n false 0 (.q 1 .done)) ?_
 refine AtT.jS ?_
 intro b1
 refine AtT.zf ?_
 refine AtT.done ?_
 refine At.nrm ?_
 refine At.nrm ?_
 refine At.zh (.q 0 (.q 1 (.n false 2 (.n false 3 (.q 4 (.q 5 .done)))))) ?_
 first | refine AtT.zm zV ?_ | with_reducible refine AtT.zn zV ?_ | refine AtT.zq zV ?_
 first | refine AtT.zk tk3 ?_ | refine AtT.zo tk3 ?_
 refine AtT.qi (qX _) ?_
 intro q6 V6 hV6 hq6
 have g6:Le V V6:=by first | exact hV6 | exact Le.trans (by assumption) hV6
 refine AtT.zJ rfl rfl ok58 (within_f 1 10 b.o _ _ (Sl.lit hq6 rfl (by simp))) ?_
 rintro _ rfl
 refine AtT.knot ?_
 refine AtT.zf ?_
 refine AtT.done ?_
 refine At.nrm ?_
 refine At.qf rfl (by rw[decide_eq_true (by omega)]; rfl) ?_
 refine At.nrm ?_
 refine At.zh (.q 0 (.q 1 (.q 2 (.q 3 (.n false 4 (.q 5 (.q 6 .done))))))) ?_
 first | refine AtT.zm qF ?_ | with_reducible refine AtT.zn qF ?_ | refine AtT.zq qF ?_
 first | refine AtT.zk zQ ?_ | refine AtT.zo zQ ?_
 first | refine AtT.zm zV ?_ | with_reducible refine AtT.zn zV ?_ | refine AtT.zq zV ?_
 first | refine AtT.zk tk3 ?_ | refine AtT.zo tk3 ?_
 refine AtT.zJ rfl rfl ok51 (rising_f b.br b.o (by omega) hb.br _ _ (hs.le hV6)) ?_
 rintro _ rfl
 refine AtT.knot ?_
 refine AtT.zf ?_
 refine AtT.done ?_
 refine At.nrm ?_
 refine At.qf rfl rfl ?_
 refine At.nrm ?_
 refine At.zh (.q 0 (.q 1 (.q 2 (.q 3 (.q 4 (.q 5 (.q 6 .done))))))) ?_
 first | refine AtT.zm qF ?_ | with_reducible refine AtT.zn qF ?_ | refine AtT.zq qF ?_
 first | refine AtT.zk zQ ?_ | refine AtT.zo zQ ?_
 first | refine AtT.zK Tryz.underlying22 ?_ | refine AtT.zL Tryz.underlying22 ?_
 first | refine AtT.zm zV ?_ | with_reducible refine AtT.zn zV ?_ | refine AtT.zq zV ?_
 first | refine AtT.zk tk3 ?_ | refine AtT.zo tk3 ?_
 refine AtT.jR ?_
 refine AtT.zf ?_
 refine AtT.done ?_
 refine At.nrm ?_
 refine At.qf rfl (decide_eq_false hb.ne) ?_
 refine At.nrm ?_
 refine At.zh (.q 0 (.q 1 (.n false 2 (.n false 3 (.q 4 (.q 5 (.q 6 (.q 7 (.q 8 (.q 9 (.q 10 (.q 11 (.q 12 (.q 13 (.q 14 (.q 15 .done)))))))))))))))) ?_
 first | refine AtT.zm qp ?_ | with_reducible refine AtT.zn qp ?_ | refine AtT.zq qp ?_
 first | refine AtT.zk tk3 ?_ | refine AtT.zo tk3 ?_
 refine AtT.qi (qX _) ?_
 intro q26 V26 hV26 hq26
 have g26:Le V V26:=by first | exact hV26 | exact Le.trans (by assumption) hV26
 refine AtT.zJ rfl rfl ok58 (within_f 0 20 b.h _ _ (Sl.lit hq26 rfl (by simp))) ?_
 rintro _ rfl
 refine AtT.knot ?_
 refine AtT.setB (d:=28) rfl ((show(!decide (0≤b.h∧b.h≤20))=false by rw[decide_eq_true (by omega)]; rfl)) ?_
 refine AtT.ze ?_
 all_goals (first | refine AtT.kL 29 ?_ | refine AtT.zD (d:=29) rfl (fun hg29=>?_) (fun hg29=>?_) | refine AtT.zC (d:=29) rfl (fun hg29=>?_) (fun hg29=>?_))
 all_goals first|refine AtT.zi ?_|refine AtT.zg ?_|(first | refine AtT.zm qo ?_ | with_reducible refine AtT.zn qo ?_ | refine AtT.zq qo ?_)
 all_goals first|refine AtT.zi ?_|refine AtT.zg ?_|(first | refine AtT.zk tk2 ?_ | refine AtT.zo tk2 ?_)
 all_goals first|refine AtT.zi ?_|refine AtT.zg ?_|(refine AtT.qg ?_)
 all_goals (refine AtT.qA (d:=32) rfl ((by omega)) ?_)
 all_goals (refine AtT.zF ?_)
 all_goals (refine AtT.ze ?_)
 all_goals (first | refine AtT.kL 34 ?_ | refine AtT.zD (d:=34) rfl (fun hg34=>?_) (fun hg34=>?_) | refine AtT.zC (d:=34) rfl (fun hg34=>?_) (fun hg34=>?_))
 all_goals first|refine AtT.zi ?_|refine AtT.zg ?_|(first | refine AtT.zm qo ?_ | with_reducible refine AtT.zn qo ?_ | refine AtT.zq qo ?_)
 all_goals first|refine AtT.zi ?_|refine AtT.zg ?_|(first | refine AtT.zk tk2 ?_ | refine AtT.zo tk2 ?_)
 all_goals first|refine AtT.zi ?_|refine AtT.zg ?_|(refine AtT.qx ?_)
 all_goals (refine AtT.qA (d:=37) rfl ((by omega)) ?_)
 all_goals (refine AtT.zF ?_)
 all_goals (refine AtT.zf ?_)
 all_goals refine AtT.done ?_
 all_goals (refine At.nrm ?_)
 refine At.qf rfl rfl ?_
 refine At.nrm ?_
 refine At.zh (.q 0 .done) ?_
 refine AtT.zf ?_
 refine AtT.done ?_
 refine At.nrm ?_
 exact At.zT rfl (.tmp rfl) rfl
theorem stray_f (p:Pp) (hp:0≤p.h∧p.h≤20∧1≤p.t∧p.t≤24) (V:View):Fnc Tryz.prog 158 ([]++[.agg #[iv p.h,iv p.t]]++[]) V fun r _=>r=.bool false:=by
 refine zS Tryz.func158 rfl Tryz.ntmps158 (Nat.le_of_ble_eq_true rfl) ?_
 intro w0 hw0
 refine At.nrm ?_
 refine At.zh (.n false 0 (.q 1 .done)) ?_
 refine AtT.jS ?_
 intro b1
 refine AtT.zf ?_
 refine AtT.done ?_
 refine At.nrm ?_
 refine At.zh (.q 0 (.q 1 (.n false 2 (.n false 3 (.q 4 (.q 5 (.q 6 (.q 7 (.q 8 (.q 9 (.q 10 (.q 11 (.q 12 (.q 13 (.q 14 (.q 15 .done)))))))))))))))) ?_
 first | refine AtT.zm zH ?_ | with_reducible refine AtT.zn zH ?_ | refine AtT.zq zH ?_
 first | refine AtT.zk tk3 ?_ | refine AtT.zo tk3 ?_
 refine AtT.qi (qX _) ?_
 intro q5 V5 hV5 hq5
 have g5:Le V V5:=by first | exact hV5 | exact Le.trans (by assumption) hV5
 refine AtT.zJ rfl rfl ok58 (within_f 0 20 p.h _ _ (Sl.lit hq5 rfl (by simp))) ?_
 rintro _ rfl
 refine AtT.knot ?_
 refine AtT.setB (d:=7) rfl ((show(!decide (0≤p.h∧p.h≤20))=false by rw[decide_eq_true (by omega)]; rfl)) ?_
 refine AtT.ze ?_
 all_goals (first | refine AtT.kL 8 ?_ | refine AtT.zD (d:=8) rfl (fun hg8=>?_) (fun hg8=>?_) | refine AtT.zC (d:=8) rfl (fun hg8=>?_) (fun hg8=>?_))
 all_goals first|refine AtT.zi ?_|refine AtT.zg ?_|(first | refine AtT.zm qb ?_ | with_reducible refine AtT.zn qb ?_ | refine AtT.zq qb ?_)
 all_goals first|refine AtT.zi ?_|refine AtT.zg ?_|(first | refine AtT.zk tk2 ?_ | refine AtT.zo tk2 ?_)
 all_goals first|refine AtT.zi ?_|refine AtT.zg ?_|(refine AtT.qg ?_)
 all_goals (refine AtT.qA (d:=11) rfl ((by omega)) ?_)
 all_goals (refine AtT.zF ?_)
 all_goals (refine AtT.ze ?_)
 all_goals (first | refine AtT.kL 13 ?_ | refine AtT.zD (d:=13) rfl (fun hg13=>?_) (fun hg13=>?_) | refine AtT.zC (d:=13) rfl (fun hg13=>?_) (fun hg13=>?_))
 all_goals first|refine AtT.zi ?_|refine AtT.zg ?_|(first | refine AtT.zm qb ?_ | with_reducible refine AtT.zn qb ?_ | refine AtT.zq qb ?_)
 all_goals first|refine AtT.zi ?_|refine AtT.zg ?_|(first | refine AtT.zk tk2 ?_ | refine AtT.zo tk2 ?_)
 all_goals first|refine AtT.zi ?_|refine AtT.zg ?_|(refine AtT.qx ?_)
 all_goals (refine AtT.qA (d:=16) rfl ((by omega)) ?_)
 all_goals (refine AtT.zF ?_)
 all_goals (refine AtT.zf ?_)
 all_goals refine AtT.done ?_
 all_goals (refine At.nrm ?_)
 exact At.zT rfl (.tmp rfl) rfl
theorem sindex_f (ps:List Pp) (hps:PpOk ps) (V:View) (vl:Value) (hs:Sl V ppe 2 vl ps):Fnc Tryz.prog 220 [vl,.func (.func 158) #[] #[]] V fun v _=>v=iv (-1):=by
 have hlen:=hs.qI
 refine zS Tryz.func220 rfl Tryz.ntmps220 (Nat.le_of_ble_eq_true rfl) ?_
 intro w0 hw0
 refine At.nrm ?_
 refine At.zh (.q 0 .done) ?_
 refine AtT.zf ?_
 refine AtT.done ?_
 refine At.nrm ?_
 refine At.zh (.q 0 (.q 1 (.q 2 .done))) ?_
 refine AtT.ze ?_
 first | refine AtT.zK Tryz.underlying25 ?_ | refine AtT.zL Tryz.underlying25 ?_
 refine AtT.ze ?_
 refine AtT.done ?_
 refine At.nrm ?_
 refine At.lp (ι:=Nat) (KS:=fun k=>[(0,vl),(1,.func (.func 158) #[] #[]),(4,iv 0),(7,iv ps.length),(8,iv k)]) (OS:=fun _=>[])
  (VS:=fun k V'=>V'=V∧k≤ps.length) (μ:=fun k=>ps.length-k) 0 ?_ ?_ ?_ ?_
 ·exact⟨rfl,rfl,rfl,rfl,rfl,trivial⟩
 ·exact Pt.zx
 ·exact⟨rfl,Nat.zero_le _⟩
 rintro k V' ks' O' ⟨rfl,hkl⟩ hk hO hl
 subst hk hO
 refine At.nrm ?_
 refine At.zh (.q 0 .done) ?_
 refine AtT.qg ?_
 refine AtT.done ?_
 refine At.nrm ?_
 refine At.zZ rfl (fun hp=>?_) (fun hp=>?_)
 ·refine At.nrm ?_
  refine At.zh (.q 0 (.q 1 .done)) ?_
  refine AtT.ze ?_
  refine AtT.zf ?_
  refine AtT.done ?_
  refine At.nrm ?_
  refine At.zh (.q 0 (.q 1 (.q 2 (.q 3 (.q 4 (.n false 5 .done)))))) ?_
  refine AtT.ze ?_
  refine AtT.ze ?_
  refine AtT.ze ?_
  refine AtT.zU Tryz.underlying25 kN ?_
  intro p14 e14 he14 hc14
  first | refine AtT.zB kN ?_ | refine AtT.zM kN ?_ | refine AtT.zA kN ?_
  refine AtT.kcallV rfl rfl rfl ok158 (stray_f e14 (hps.p e14 (List.mem_of_getElem? he14)) _) ?_
  rintro _ rfl
  refine AtT.done ?_
  refine At.nrm ?_
  refine At.qf rfl rfl ?_
  refine At.nrm ?_
  refine At.zh (.q 0 (.q 1 .done)) ?_
  first | refine AtT.qm ?_ | refine AtT.zR ?_
  refine AtT.ze ?_
  refine AtT.done ?_
  refine At.nrm ?_
  refine At.round (k+1) ?_ ?_ ?_ ?_
  ·show ps.length-(k+1)<ps.length-k; omega
  ·exact⟨rfl,by omega⟩
  ·exact⟨rfl,rfl,rfl,rfl,rfl,trivial⟩
  ·exact Pt.zx
 ·refine At.nrm ?_
  refine At.zh (.q 0 .done) ?_
  refine AtT.zf ?_
  refine AtT.done ?_
  refine At.nrm ?_
  exact At.zT rfl (.tmp rfl) rfl
theorem pCheckPanels_f (ps:List Pp) (hps:PpOk ps) (V:View) (vl:Value) (hs:Sl V ppe 2 vl ps):Fnc Tryz.prog 100 [vl] V fun v _=>v=iv 0:=by
 have hlen:=hs.qI
 have hn:=hps.n
 obtain⟨a,cc,rfl,k1,k2,_⟩:=id hs
 clear k1 k2
 have hcon:∀ V',Le V V'→Fnc Tryz.prog 159 [.slice a ps.length cc,.func (.func 158) #[] #[]] V' fun v _=>v=.bool false:=fun V' hV'=>by
  refine zS Tryz.func159 rfl Tryz.ntmps159 (Nat.le_of_ble_eq_true rfl) ?_
  intro w0 hw0
  refine At.nrm ?_
  refine At.zh (.q 0 .done) ?_
  refine AtT.zf ?_
  refine AtT.done ?_
  refine At.nrm ?_
  refine At.zh (.q 0 (.q 1 (.n false 2 (.q 3 (.q 4 .done))))) ?_
  refine AtT.ze ?_
  refine AtT.ze ?_
  refine AtT.zJ rfl rfl ok220 (sindex_f ps hps _ _ (hs.le hV')) ?_
  rintro _ rfl
  refine AtT.kgeq ?_
  refine AtT.zf ?_
  refine AtT.done ?_
  refine At.nrm ?_
  exact At.zT rfl (.tmp rfl) rfl
 refine zS Tryz.func100 rfl Tryz.ntmps100 (Nat.le_of_ble_eq_true rfl) ?_
 intro w0 hw0
 refine At.nrm ?_
 refine At.zh (.q 0 .done) ?_
 refine AtT.zf ?_
 refine AtT.done ?_
 refine At.nrm ?_
 refine At.zh (.q 0 .done) ?_
 refine AtT.zf ?_
 refine AtT.done ?_
 refine At.nrm ?_
 refine At.nrm ?_
 refine At.zh (.q 0 (.q 1 (.q 2 (.q 3 .done)))) ?_
 refine AtT.ze ?_
 first | refine AtT.zK Tryz.underlying25 ?_ | refine AtT.zL Tryz.underlying25 ?_
 refine AtT.qx ?_
 refine AtT.zf ?_
 refine AtT.done ?_
 refine At.nrm ?_
 refine At.qf rfl (decide_eq_false (by omega)) ?_
 refine At.nrm ?_
 refine At.zh (.q 0 (.q 1 (.n false 2 (.q 3 .done)))) ?_
 refine AtT.ze ?_
 refine AtT.ze ?_
 refine AtT.zJ rfl rfl ok159 (hcon _ (Le.refl _)) ?_
 rintro _ rfl
 refine AtT.zf ?_
 refine AtT.done ?_
 refine At.nrm ?_
 refine At.qf rfl rfl ?_
 refine At.nrm ?_
 refine At.zh (.q 0 .done) ?_
 refine AtT.zf ?_
 refine AtT.done ?_
 refine At.nrm ?_
 exact At.zT rfl (.tmp rfl) rfl
end Go.Proofs.YtfmmggphdeiajaaGreatDoor.P
end
section
set_option linter.unusedVariables false
namespace Go.Proofs.YtfmmggphdeiajaaGreatDoor
open Go.Shelf Go.RowKit Go.Lib
def srtI_ren:Go.Shelf.Ren:=⟨fun | 125=>104 | 128=>169 | 129=>170 | 189=>59 | 215=>226 | 216=>166 | 257=>103 | 294=>160 | 295=>161 | 296=>162 | 297=>163 | 298=>164 | 299=>165 | 300=>167 | 301=>168 | 328=>221 | 329=>222 | 330=>223 | 331=>224 | 332=>225 | 343=>288 | n=>n,fun | 0=>0 | 3=>3 | 4=>4 | 5=>5 | 9=>9 | 28=>22 | 46=>152 | 51=>214 | 53=>216 | 131=>211 | 182=>206 | 183=>207 | 218=>265 | 222=>269 | 228=>317 | 229=>318 | n=>n,fun | n=>n⟩
theorem lay_sort:Lays.n189 Tryz.prog srtI_ren where
 mixed:=by kernel_rfl
 f125:=Tryz.func104.trans (congrArg some (by kernel_rfl))
 f128:=Tryz.func169.trans (congrArg some (by kernel_rfl))
 f129:=Tryz.func170.trans (congrArg some (by kernel_rfl))
 f189:=Tryz.func59.trans (congrArg some (by kernel_rfl))
 f215:=Tryz.func226.trans (congrArg some (by kernel_rfl))
 f216:=Tryz.func166.trans (congrArg some (by kernel_rfl))
 f257:=Tryz.func103.trans (congrArg some (by kernel_rfl))
 f294:=Tryz.func160.trans (congrArg some (by kernel_rfl))
 f295:=Tryz.func161.trans (congrArg some (by kernel_rfl))
 f296:=Tryz.func162.trans (congrArg some (by kernel_rfl))
 f297:=Tryz.func163.trans (congrArg some (by kernel_rfl))
 f298:=Tryz.func164.trans (congrArg some (by kernel_rfl))
 f299:=Tryz.func165.trans (congrArg some (by kernel_rfl))
 f300:=Tryz.func167.trans (congrArg some (by kernel_rfl))
 f301:=Tryz.func168.trans (congrArg some (by kernel_rfl))
 f328:=Tryz.func221.trans (congrArg some (by kernel_rfl))
 f329:=Tryz.func222.trans (congrArg some (by kernel_rfl))
 f330:=Tryz.func223.trans (congrArg some (by kernel_rfl))
 f331:=Tryz.func224.trans (congrArg some (by kernel_rfl))
 f332:=Tryz.func225.trans (congrArg some (by kernel_rfl))
 f343:=Tryz.func288.trans (congrArg some (by kernel_rfl))
 t0:=Tryz.underlying0
 a0:=Tryz.isAgg0
 z0:=Tryz.sizeOf0
 v0:=Tryz.zeroValue0
 t3:=Tryz.underlying3
 a3:=Tryz.isAgg3
 z3:=Tryz.sizeOf3
 v3:=Tryz.zeroValue3
 t4:=Tryz.underlying4
 a4:=Tryz.isAgg4
 z4:=Tryz.sizeOf4
 v4:=Tryz.zeroValue4
 t5:=Tryz.underlying5
 a5:=Tryz.isAgg5
 z5:=Tryz.sizeOf5
 v5:=Tryz.zeroValue5
 t9:=Tryz.underlying9
 a9:=Tryz.isAgg9
 z9:=Tryz.sizeOf9
 v9:=Tryz.zeroValue9
 t28:=Tryz.underlying22
 a28:=Tryz.isAgg22
 z28:=Tryz.sizeOf22
 v28:=Tryz.zeroValue22
 t46:=Tryz.underlying152
 a46:=Tryz.isAgg152
 z46:=Tryz.sizeOf152
 v46:=Tryz.zeroValue152
 t51:=Tryz.underlying214
 a51:=Tryz.isAgg214
 z51:=Tryz.sizeOf214
 v51:=Tryz.zeroValue214
 t53:=Tryz.underlying216
 a53:=Tryz.isAgg216
 z53:=Tryz.sizeOf216
 v53:=Tryz.zeroValue216
 t131:=Tryz.underlying211
 a131:=Tryz.isAgg211
 z131:=Tryz.sizeOf211
 v131:=Tryz.zeroValue211
 t182:=Tryz.underlying206
 a182:=Tryz.isAgg206
 z182:=Tryz.sizeOf206
 v182:=Tryz.zeroValue206
 t183:=Tryz.underlying207
 a183:=Tryz.isAgg207
 z183:=Tryz.sizeOf207
 v183:=Tryz.zeroValue207
 t218:=Tryz.underlying265
 a218:=Tryz.isAgg265
 z218:=Tryz.sizeOf265
 v218:=Tryz.zeroValue265
 t222:=Tryz.underlying269
 a222:=Tryz.isAgg269
 z222:=Tryz.sizeOf269
 v222:=Tryz.zeroValue269
 t228:=Tryz.underlying317
 a228:=Tryz.isAgg317
 z228:=Tryz.sizeOf317
 v228:=Tryz.zeroValue317
 t229:=Tryz.underlying318
 a229:=Tryz.isAgg318
 z229:=Tryz.sizeOf318
 v229:=Tryz.zeroValue318
end Go.Proofs.YtfmmggphdeiajaaGreatDoor
end
section
set_option linter.unusedVariables false
namespace Go.Lw
open Go.RowKit
section
variable {cx:Cx} {n:Nat} {ks:List (Nat×Value)} {O R:List Own} {V:View} {w:World} {K:Act→World→Prop}
theorem Mem.reclaim {b:Nat} {o:Obj} (h:Mem cx O V w) (hb:V b=some o) (h0:cx.V0 b=none):Mem cx (.blk b o::O) (fun k=>if k=b then none else V k) w:=by
 obtain⟨fp,h1,h2,h3⟩:=h.own
 have hlow:cx.w0.heap.size≤b:=by
  rcases h.fresh b o hb with h4 | h4
  ·rw[h0]at h4; cases h4
  ·exact h4
 refine⟨h.below,fun k o2 hk=>?_,fun k o2 hk=>?_,fun k o2 hk=>?_,b::fp,⟨[b],fp,rfl,⟨rfl,hlow,h.view b o hb⟩,h1⟩,List.nodup_cons.2 ⟨fun hm=>?_,h2⟩,fun k hk=>?_⟩
 ·by_cases e:k=b
  ·subst e; rw[h0]at hk; cases hk
  ·simp[e,h.le0 k o2 hk]
 ·by_cases e:k=b
  ·subst e; simp at hk
  ·simp[e]at hk; exact h.fresh k o2 hk
 ·by_cases e:k=b
  ·subst e; simp at hk
  ·simp[e]at hk; exact h.view k o2 hk
 ·rw[h3 b hm]at hb; cases hb
 ·rcases List.mem_cons.1 hk with rfl | hk
  ·simp
  ·simp[h3 k hk]
theorem At.reclaim {b:Nat} {o:Obj} (hb:V b=some o) (h0:cx.V0 b=none) (h:∀ V'',(∀ W,Le W V→W b=none→Le W V'')→At cx n ks (.blk b o::O) V'' K):At cx n ks O V K:=fun a w hk hm=>
 h _ (fun W hW hWb k o2 hk=>by
  by_cases e:k=b
  ·subst e; rw[hWb]at hk; cases hk
  ·simp[e,hW k o2 hk]) a w hk (hm.reclaim hb h0)
theorem At.rowSplit {v:Value} {e:TypeId} {s m:Nat} {xs:List Value} (hp:zN (.row v e s m xs) O R) (h0:v=.slice none 0 0→m=0→xs=[]→At cx n ks R V K)
  (h:∀ b cap rest,v=.slice (some ⟨b,0,none⟩) m cap→m≤cap→cap≤maxLen→(xs++rest).length=cap*s→At cx n ks (.blk b (LC (xs++rest) e)::R) V K):At cx n ks O V K:=fun a w hk hmm=>by
 have hm1:=hmm.pick hp
 obtain⟨fp,⟨f,g,rfl,⟨rfl,hr⟩,hl⟩,h2,h3⟩:=hm1.own
 rcases hr.2 with ⟨rfl,hn0⟩ | ⟨b,cap,cur,rfl,hb,hh,hnc,hcm,hcs,htake⟩
 ·refine h0 rfl hn0 ?_ a w hk hm1.drop
  have:=hr.1
  rw[hn0]at this
  exact List.eq_nil_of_length_eq_zero (by simpa using this)
 ·have hcat:xs++cur.toList.drop (m*s)=cur.toList:=by rw[←htake,List.take_append_drop]
  have hcur:(LC (xs++cur.toList.drop (m*s)) e:Obj)=.cells cur e (0,0):=by
   show Obj.cells _ e (0,0)=Obj.cells cur e (0,0)
   congr 1
   rw[hcat]
  refine h b cap (cur.toList.drop (m*s)) rfl hnc hcm (by rw[hcat]; simpa using hcs) a w hk ?_
  rw[hcur]
  exact⟨hm1.below,hm1.le0,hm1.fresh,hm1.view,[b]++g,⟨[b],g,rfl,⟨rfl,hb,hh⟩,hl⟩,by simpa [Value.ownBlock]using h2,by simpa [Value.ownBlock]using h3⟩
def Lent (V V2:View) (ao:Option Addr) (co:Nat) (e:TypeId) (s m:Nat) (xs:List Value):Prop:=
 (ao=none∧m=0∧co=0∧xs=[])∨∃ b rest,ao=some ⟨b,0,none⟩∧m≤co∧co≤maxLen∧(xs++rest).length=co*s∧xs.length=m*s∧V b=none∧V2 b=some (LC (xs++rest) e)
theorem At.giveM {b:Nat} {o:Obj} (hp:zN (.blk b o) O R) (h:∀ V',Le V V'→V' b=some o→V b=none→At cx n ks R V' K):At cx n ks O V K:=fun a w hk hm=>by
 have hm1:=hm.pick hp
 have h0:V b=none:=by
  obtain⟨fp,⟨f,g,rfl,⟨rfl,hB,hb⟩,hl⟩,h2,h3⟩:=hm1.own
  exact h3 b (by simp)
 obtain⟨V',h1,h2,h3⟩:=hm1.give
 exact h V' h1 h2 h0 a w hk h3
theorem At.lend {ao:Option Addr} {co:Nat} {e:TypeId} {s m:Nat} {xs:List Value} (hp:zN (.row (.slice ao m co) e s m xs) O R) (h:∀ V2,Le V V2→Lent V V2 ao co e s m xs→At cx n ks R V2 K):At cx n ks O V K:=fun a w hk hm=>by
 have hm1:=hm.pick hp
 obtain⟨f1,f2,f3,f4⟩:=hm1.rowFacts
 refine At.rowSplit (O:=.row (.slice ao m co) e s m xs::R) zN.here (fun hv hm0 hx=>?_) (fun b cap rest hv h1 h2 h3=>?_) a w hk hm1
 ·cases hv
  exact h V (Le.refl _) (.inl ⟨rfl,rfl,rfl,hx⟩)
 ·cases hv
  exact At.giveM zN.here fun V' hV hb h0=>h V' hV (.inr ⟨b,rest,rfl,h1,h2,h3,f3,h0,hb⟩)
theorem At.regain {V3 V1:View} {ao:Option Addr} {co:Nat} {e:TypeId} {s m:Nat} {xs:List Value} (hL:Lent V1 V ao co e s m xs) (hV1:Le V1 V) (hV:Le V V3) (h0:Le cx.V0 V1)
  (h:∀ V4,Le V1 V4→At cx n ks (.row (.slice ao m co) e s m xs::O) V4 K):At cx n ks O V3 K:=by
 rcases hL with ⟨rfl,rfl,rfl,rfl⟩ | ⟨b,rest,rfl,h1,h2,h3,h4,h5,h6⟩
 ·exact At.newRow e s (h V3 (hV1.trans hV))
 ·have hcx:cx.V0 b=none:=by
   cases hc:cx.V0 b with
   | none=>rfl
   | some o=>rw[h0 b o hc]at h5; cases h5
  refine At.reclaim (hV b _ h6) hcx fun V4 hV4=>?_
  exact At.blkRow zN.here h3 h4 h1 h2 (h V4 (hV4 V1 (hV1.trans hV) h5))
theorem Lent.sl {α:Type} {enc:α→List Value} {V1 V2:View} {ao:Option Addr} {co:Nat} {e:TypeId} {s:Nat} {l:List α} (he:∀ x,(enc x).length=s) (h:Lent V1 V2 ao co e s l.length (flat enc l)):Sl V2 enc s (.slice ao l.length co) l:=by
 rcases h with ⟨rfl,h1,rfl,h2⟩ | ⟨b,rest,rfl,h1,h2,h3,h4,h5,h6⟩
 ·obtain rfl:l=[]:=List.eq_nil_of_length_eq_zero h1
  exact Sl.nil _ _ _
 ·exact Sl.of_cells he (cells_pre h6) h1 h2
theorem none_of {V W:View} {b:Nat} (h:Le W V) (hb:V b=none):W b=none:=by
 cases c:W b with
 | none=>rfl
 | some o=>rw[h b o c]at hb; cases hb
end
end Go.Lw
end
section
set_option linter.unusedVariables false
namespace Go.Proofs.YtfmmggphdeiajaaGreatDoor.P
open Go.Lw Go.Ps Go.RowKit Go.Sort Go.Shelf
open Go.Gl (iv ivs qB)
abbrev srtI (l:List Int):List Int:=l.mergeSort fun x y=>decide (x≤y)
theorem sortI_f (l:List Int) (rest:List Value) (b cap:Nat) (w:World) (hb:w.heap[b]? = some (LC (flat ei l++rest) 3)) (hl:l.length<4611686018427387904) :
  Calls Tryz.prog 59 #[.slice (some ⟨b,0,none⟩) l.length cap] w fun e w'=>e=.returned (.tuple #[])∧w'.os=w.os∧w'.tape=w.tape∧w'.output=w.output∧w.heap.size≤w'.heap.size∧(∀ k,k<w.heap.size→k≠b→w'.heap[k]? = w.heap[k]?)∧w'.heap[b]? = some (LC (flat ei (srtI l)++rest) 3):=by
 have hbs:b<w.heap.size:=(Array.getElem?_eq_some_iff.1 hb).1
 have hlen:(flat ei l).length=l.length*1:=qa Lw.jd l
 have hH:Holds (Value.int .i64) w b 0 l.toArray:=by
  intro j hj
  rw[List.size_toArray]at hj
  refine⟨?_,?_⟩
  ·rw[Nat.zero_add,jl hb,List.getElem?_append_left (by rw[hlen]; omega),jg,List.getElem?_map,List.getElem?_eq_getElem hj,getElem!_pos _ _ (by simpa using hj)]
   simp
  ·simp[World.frozen?,hb,LC]
 refine(Any.slices_Sort_int lay_sort b 0 cap l w hH hbs hl).mono fun e w' ⟨he,n,os,hw⟩=>?_
 have hsz:(srtI l).length=l.length:=List.length_mergeSort l
 have hf1:(flat ei (srtI l)).length=(srtI l).length*1:=qa Lw.jd _
 subst hw
 refine⟨he,rfl,rfl,rfl,?_,fun k hk hkb=>?_,?_⟩
 ·show w.heap.size≤((w.heap.modify b _)++os).size
  simp
 ·show((w.heap.modify b _)++os)[k]? = _
  rw[Array.getElem?_append_left (by simpa using hk),Array.getElem?_modify,if_neg (fun h=>hkb h.symm)]
 ·show((w.heap.modify b _)++os)[b]? = _
  rw[Array.getElem?_append_left (by simpa using hbs),Array.getElem?_modify,if_pos rfl,hb]
  simp only[Option.map_some,onCells,LC]
  congr 2
  apply Array.ext
  ·simp[putCells]; omega
  ·intro t h1 h2
   simp only[putCells,Array.size_mapIdx,List.size_toArray]at h1
   simp only[putCells,Array.getElem_mapIdx,Nat.zero_le,true_and,Nat.zero_add,List.size_toArray,Nat.sub_zero,id]
   by_cases c:t<(srtI l).length
   ·rw[if_pos c,getElem!_pos _ _ (by simpa using c)]
    simp only[List.getElem_toArray]
    rw[List.getElem_append_left (by omega)]
    simp[jg]
   ·rw[if_neg c]
    simp only[List.getElem_toArray]
    rw[List.getElem_append_right (by omega),List.getElem_append_right (by omega)]
    congr 1; omega
theorem srtI_perm (l:List Int):(srtI l).Perm l:=List.mergeSort_perm _ _
theorem srtI_sorted {l:List Int} (h:l.Nodup):(srtI l).Pairwise (· < ·):=by
 have h1:(srtI l).Pairwise (fun x y=>decide (x≤y)=true):=List.pairwise_mergeSort (fun a b c h1 h2=>by simp only[decide_eq_true_eq]at *; omega) (fun a b=>by simp only[Bool.or_eq_true,decide_eq_true_eq]; omega) l
 have h2:(srtI l).Nodup:=(srtI_perm l).nodup_iff.2 h
 refine(h1.and h2).imp fun {a b} hab=>?_
 have:=of_decide_eq_true hab.1
 have:=hab.2
 omega
theorem AtT.sortI {cx:Cx} {n:Nat} {ks:List (Nat×Value)} {O R:List Own} {V:View} {ops:Array Oper} {Qn:Act→World→Prop} {t:Tr} {i d:Nat} {T:TypeId} {pos:String} {after:Array Edge} {gd:Option (Nat×Bool)} {x:Operand} {ts:Array TypeId} {b cap:Nat} {l:List Int} {rest:List Value}
  (ho:ops[i]? = some ⟨some d,.call ⟨.value (.func 59),#[x],ts⟩,T,pos,after,gd⟩) (hg:Gd ks ops gd) (hx:ev ks x=some (.slice (some ⟨b,0,none⟩) l.length cap)) (hl:l.length<4611686018427387904) (hp:zN (.blk b (LC (flat ei l++rest) 3)) O R) (hn:d<n)
  (next:AtT cx n ((d,.tuple #[])::ks) (.blk b (LC (flat ei (srtI l)++rest) 3)::R) V Tryz.prog ops Qn t):AtT cx n ks O V Tryz.prog ops Qn (.n true i t):=
 .x ho hg fun a w hk hm=>by
  have hm1:=hm.pick hp
  have e:(#[x]:Array Operand).map a.eval=#[.slice (some ⟨b,0,none⟩) l.length cap]:=by simp[hk.ev hx]
  have e2:a.eval (.func 59)=.func (.func 59) #[] #[]:=rfl
  simp only[opW,execOp,resolve,e,e2,Deferred.ofValue,Sem.run_bind,Sem.run_pure,Result.andThen_ok,invoke,Array.empty_append,Array.append_empty]
  rw[ok59 _ w]
  refine(sortI_f l rest b cap w hm1.blk hl).mono fun e w' ⟨h0,h3,h4,h5,h6,h7,h8⟩=>?_
  subst h0
  have hm2:=hm1.set (w':=w') ⟨h3,h4,h5,h6,fun k hk hne=>h7 k hk (fun e=>hne (by rw[e]))⟩ h8
  exact⟨_,_,V,hk.put hn _,hm2,fun h=>(by cases h),next⟩
abbrev plv (x:Int):Value:=.agg #[iv x]
theorem key103:KeyL Tryz.prog 103 plv where
 eq a b w:=(eqS103 a b).2 w
 ck e a w:=by
  have u3:=Tryz.underlying3
  have ci:∀ (x:Int) (w:World),(Instr.checkKey e 9999 3 (.int .i64 x)).run Tryz.prog w=.ok () w:=fun x w=>by
   rw[show(9999:Nat)=9998+1 from rfl,Instr.checkKey]
   simp[run_underlying u3,Sem.run_bind,Result.andThen_ok,Sem.run_pure]
  rw[show(10000:Nat)=9999+1 from rfl,Instr.checkKey]
  simp only[Sem.run_bind,run_underlying Tryz.underlying103,Result.andThen_ok]
  rw[←Array.forIn_toList]
  simp only[List.forIn_cons,List.forIn_nil,Sem.run_bind,Sem.run_pure,Result.andThen_ok]
  generalize (9999:Nat)=q at ci⊢
  go_simp
 sb a:=by simp[Instr.sameBits]
 now:=⟨_,Tryz.underlying103,.inl fun a b=>rfl⟩
abbrev bnc (b:Bd) (a:Option Addr) (c:Nat) (pv wv:Value) (ws:List Int):List Value:=iv b.o::.slice a b.br.length c::iv b.h::iv b.c::pv::wv::flat ei ws
def BnV (V:View) (b0:Nat) (pv:Value) (w:List Int):Prop:=∃ aw cw,Cells V ⟨b0,4,none⟩ [pv]∧Cells V ⟨b0,5,none⟩ [.slice aw w.length cw]∧SlI V (.slice aw w.length cw) w
theorem BnV.le {V V':View} {b:Nat} {pv:Value} {w:List Int} (h:BnV V b pv w) (hl:Le V V'):BnV V' b pv w:=by
 obtain⟨a,c,h1,h2,h3⟩:=h
 exact⟨a,c,h1.le hl,h2.le hl,h3.le hl⟩
theorem slice60 (b:Nat) (w:World):(Instr.sliceAt 60 (.pointer (some ⟨b,0+6,none⟩)) none none none).run Tryz.prog w=.ok (.slice (some ⟨b,6,none⟩) 21 21) w:=by kernel_rfl
theorem want_set (b:Bd) (a:Option Addr) (c:Nat) (pv wv:Value) (S:List Int) (i:Nat) (x:Int) (hS:S.length=21) (hi:i<21):SetAt (bnc b a c pv wv S) (0+6+i*1) (iv x) (bnc b a c pv wv (S.set i x)):=by
 refine setAt_of (by simp only[List.length_cons]; rw[qa Lw.jd,hS]; omega) ?_
 rw[show 0+6+i*1=i+1+1+1+1+1+1 by omega,List.set_cons_succ,List.set_cons_succ,List.set_cons_succ,List.set_cons_succ,List.set_cons_succ,List.set_cons_succ]
 show _::_::_::_::_::_::(flat ei S).set i (iv x)=_::_::_::_::_::_::flat ei (S.set i x)
 rw[jg,jg,List.map_set]
theorem want_at (b:Bd) (a:Option Addr) (c:Nat) (pv wv:Value) (S:List Int) (i:Nat) (hi:i<S.length):(bnc b a c pv wv S)[0+6+i*1]? = some (iv S[i]):=by
 rw[show 0+6+i*1=i+1+1+1+1+1+1 by omega]
 simp only[List.getElem?_cons_succ]
 rw[jg,List.getElem?_map,List.getElem?_eq_getElem hi]; rfl
set_option maxHeartbeats 1600000 in
theorem newBench_f (b:Bd) (hb:BdOk b) (a:Option Addr) (c:Nat) (ps:List Pp) (hps:PpOk ps) (V:View) (pv:Value) (hs:SlI V (.slice a b.br.length c) b.br) (hp:Sl V ppe 2 pv ps) :
  Fnc Tryz.prog 22 [bdv b a c,pv] V fun r V'=>∃ b0,r=.pointer (some ⟨b0,0,none⟩)∧BnV V' b0 pv (whl b):=by
 have hlen:=hs.qI
 have hlenp:=hp.qI
 have ho:=hb.o
 obtain⟨n,hn⟩:∃ n:Nat,b.o=n:=⟨b.o.toNat,by omega⟩
 obtain⟨ap,cp,rfl,k1,k2,_⟩:=id hp
 clear k1 k2
 refine zS Tryz.func22 rfl Tryz.ntmps22 (Nat.le_of_ble_eq_true rfl) ?_
 intro w0 hw0
 refine At.nrm ?_
 refine At.zh (.n false 0 (.q 1 .done)) ?_
 refine AtT.jS ?_
 intro b2
 refine AtT.zf ?_
 refine AtT.done ?_
 refine At.nrm ?_
 refine At.zh (.q 0 (.q 1 (.q 2 (.n false 3 (.q 4 .done))))) ?_
 first | refine AtT.zB qz ?_ | refine AtT.zM qz ?_ | refine AtT.zA qz ?_
 refine AtT.ze ?_
 refine AtT.jk (bd62_0_1 _ _ _ _ _ _ _ _ _) ?_
 refine AtT.jS ?_
 intro b17
 refine AtT.zf ?_
 refine AtT.done ?_
 refine At.nrm ?_
 refine At.zh (.q 0 (.q 1 (.q 2 (.q 3 (.n true 4 .done))))) ?_
 refine AtT.ze ?_
 refine AtT.jI ?_
 first | refine AtT.zm fo62_3 ?_ | with_reducible refine AtT.zn fo62_3 ?_ | refine AtT.zq fo62_3 ?_
 refine AtT.slV rfl trivial rfl (slice60 b17) (by decide) ?_
 refine AtT.clearAt rfl trivial Tryz.underlying22 z3 rfl (by kernel_rfl) (Nat.le_of_ble_eq_true rfl) (by rfl) (by rfl) (by repeat first|exact Upd.here|apply Upd.there) ?_ (us:=flat ei (List.replicate 21 0)) (cs:=bnc b a c (.slice ap ps.length cp) (.slice none 0 0) (List.replicate 21 0)) (xs:=bnc b a c (.slice ap ps.length cp) (.slice none 0 0) (List.replicate 21 0))
 refine AtT.done ?_
 refine At.nrm ?_
 refine At.zh (.q 0 (.q 1 (.q 2 .done))) ?_
 refine AtT.ze ?_
 first | refine AtT.zK Tryz.underlying25 ?_ | refine AtT.zL Tryz.underlying25 ?_
 refine AtT.ze ?_
 refine AtT.done ?_
 refine At.nrmB ?_
 refine At.cutG (ι:=List Int) (fun _=>[(5,.pointer (some ⟨b17,0,none⟩))]) (fun S=>[.blk b17 (LC (bnc b a c (.slice ap ps.length cp) (.slice none 0 0) S) 62)]) (fun S V'=>Le V V'∧S.length=21) ?_ ?_
 ·refine At.nrm ?_
  refine At.lp (ι:=Nat×List Int) (KS:=fun g=>[(5,.pointer (some ⟨b17,0,none⟩)),(22,.slice ap ps.length cp),(23,iv ps.length),(24,iv g.1)]) (OS:=fun g=>[.blk b17 (LC (bnc b a c (.slice ap ps.length cp) (.slice none 0 0) g.2) 62)])
   (VS:=fun g V'=>Le V V'∧g.1≤ps.length∧g.2.length=21) (μ:=fun g=>ps.length-g.1) (0,List.replicate 21 0) ?_ ?_ ?_ ?_
  ·exact⟨rfl,rfl,rfl,rfl,trivial⟩
  ·exact Pt.zx
  ·exact⟨Le.refl _,Nat.zero_le _,rfl⟩
  rintro⟨k,S⟩ V1 ks' O' ⟨hV1,hk1,hS⟩ hk hO hl
  dsimp only at hk1 hS hk hO
  subst hk hO
  have hp1:=hp.le hV1
  refine At.nrm ?_
  refine At.zh (.q 0 .done) ?_
  refine AtT.qg ?_
  refine AtT.done ?_
  refine At.nrm ?_
  refine At.zZ rfl (fun hc=>?_) (fun hc=>?_)
  ·obtain⟨x,hx⟩:∃ x,ps[k]? = some x:=⟨_,List.getElem?_eq_getElem (by omega)⟩
   have hxb:=hps.p x (List.mem_of_getElem? hx)
   refine At.nrm ?_
   refine At.zh (.q 0 (.q 1 (.n false 2 (.n true 3 .done)))) ?_
   refine AtT.zU Tryz.underlying25 kN ?_
   intro p26 e26 he26 hc26
   obtain rfl:x=e26:=by have:ps[k]? = some e26:=(by simpa using he26); rw[hx]at this; simpa using this
   first | refine AtT.zB kN ?_ | refine AtT.zM kN ?_ | refine AtT.zA kN ?_
   refine AtT.qE z52 ?_
   intro b7
   refine AtT.qc kN ?_
   refine AtT.done ?_
   refine At.nrm ?_
   have hi:x.h.toNat<21:=by omega
   have hat:=want_at b a c (.slice ap ps.length cp) (.slice none 0 0) S x.h.toNat (by omega)
   have hset:=want_set b a c (.slice ap ps.length cp) (.slice none 0 0) S x.h.toNat (IntKind.i64.wrap (S[x.h.toNat]'(by omega)+1)) hS hi
   refine At.draw (.q 0 (.q 1 (.q 2 (.q 3 (.q 4 (.q 5 (.q 6 (.q 7 (.q 8 (.q 9 (.q 10 (.n true 11 .done)))))))))))) ffm (by kernel_rfl) ?_
   refine AtT.ze ?_
   first | refine AtT.zm zH ?_ | with_reducible refine AtT.zn zH ?_ | refine AtT.zq zH ?_
   first | refine AtT.zk tk3 ?_ | refine AtT.zo tk3 ?_
   refine AtT.jI ?_
   first | refine AtT.zm fo62_3 ?_ | with_reducible refine AtT.zn fo62_3 ?_ | refine AtT.zq fo62_3 ?_
   refine AtT.kidxA Tryz.underlying60 tk3 ?_
   refine AtT.loadO rfl trivial rfl tk3 zN.zx hat (by decide) ?_
   refine AtT.zR ?_
   refine AtT.jI ?_
   first | refine AtT.zm fo62_3 ?_ | with_reducible refine AtT.zn fo62_3 ?_ | refine AtT.zq fo62_3 ?_
   refine AtT.kidxA Tryz.underlying60 tk3 ?_
   refine AtT.store1 rfl trivial rfl rfl tk3 rfl rfl (by repeat first|exact Upd.here|apply Upd.there) hset ?_
   refine AtT.done ?_
   refine At.nrm ?_
   refine At.nrm ?_
   refine At.zh (.q 0 (.q 1 .done)) ?_
   first | refine AtT.qm ?_ | refine AtT.zR ?_
   refine AtT.ze ?_
   refine AtT.done ?_
   refine At.nrm ?_
   refine At.round (k+1,S.set x.h.toNat (IntKind.i64.wrap (S[x.h.toNat]'(by omega)+1))) ?_ ?_ ?_ ?_
   ·show ps.length-(k+1)<ps.length-k; omega
   ·exact⟨hV1,by dsimp only; omega,by rw[List.length_set]; exact hS⟩
   ·exact⟨rfl,rfl,rfl,rfl,trivial⟩
   ·exact Pt.zx
  ·refine At.nrm ?_
   exact At.kH S ⟨hV1,hS⟩ ⟨rfl,trivial⟩ Pt.zx
 rintro S V1 ks' O' ⟨hV1,hS⟩ hk hO hl
 subst hk hO
 have hs1:=hs.le hV1
 refine At.nrm ?_
 refine At.zh (.n false 0 (.q 1 .done)) ?_
 refine AtT.makeMap rfl trivial plv iv (by decide) ?_
 intro b40
 refine AtT.zf ?_
 refine AtT.done ?_
 refine At.nrm ?_
 refine At.zh (.q 0 (.q 1 (.q 2 (.q 3 (.q 4 (.q 5 .done)))))) ?_
 refine AtT.ze ?_
 refine AtT.jI ?_
 first | refine AtT.zm fo62_0 ?_ | with_reducible refine AtT.zn fo62_0 ?_ | refine AtT.zq fo62_0 ?_
 first | refine AtT.zm zV ?_ | with_reducible refine AtT.zn zV ?_ | refine AtT.zq zV ?_
 first | refine AtT.zk tk3 ?_ | refine AtT.zo tk3 ?_
 refine AtT.ze ?_
 refine AtT.done ?_
 refine At.nrm ?_
 refine At.lp (ι:=Nat) (KS:=fun k=>[(5,.pointer (some ⟨b17,0,none⟩)),(8,.map (some b40)),(45,iv b.o),(46,iv k)]) (OS:=fun k=>[.blk b17 (LC (bnc b a c (.slice ap ps.length cp) (.slice none 0 0) S) 62),.blk b40 (qV plv iv (plM k) k)])
  (VS:=fun k V'=>V'=V1∧k≤n) (μ:=fun k=>n-k) 0 ?_ ?_ ?_ ?_
 ·exact⟨rfl,rfl,rfl,rfl,trivial⟩
 ·exact Pt.zx
 ·exact⟨rfl,Nat.zero_le _⟩
 rintro k V2 ks' O' ⟨rfl,hk1⟩ hk hO hl2
 subst hk hO
 refine At.nrm ?_
 refine At.zh (.q 0 .done) ?_
 refine AtT.qg ?_
 refine AtT.done ?_
 refine At.nrm ?_
 refine At.zZ rfl (fun hc=>?_) (fun hc=>?_)
 ·refine At.nrm ?_
  refine At.zh (.q 0 (.q 1 .done)) ?_
  refine AtT.ze ?_
  refine AtT.zf ?_
  refine AtT.done ?_
  refine At.nrm ?_
  refine At.zh (.q 0 (.q 1 (.q 2 (.q 3 (.n true 4 .done))))) ?_
  refine AtT.ze ?_
  refine AtT.ze ?_
  refine AtT.jk (bd103_0 _) ?_
  refine AtT.ze ?_
  refine AtT.mapNew rfl trivial key103 (k:Int) (k:Int) Tryz.underlying101 rfl rfl rfl (plM_new k) (by repeat first|exact Upd.here|apply Upd.there) ?_
  refine AtT.done ?_
  refine At.nrm ?_
  refine At.nrm ?_
  refine At.zh (.q 0 (.q 1 .done)) ?_
  first | refine AtT.qm ?_ | refine AtT.zR ?_
  refine AtT.ze ?_
  refine AtT.done ?_
  refine At.nrm ?_
  refine At.round (k+1) ?_ ?_ ?_ ?_
  ·show n-(k+1)<n-k; omega
  ·exact⟨rfl,by omega⟩
  ·exact⟨rfl,rfl,rfl,rfl,trivial⟩
  rw[plM_succ]
  ·exact Pt.zx
 obtain rfl:k=n:=by omega
 refine At.nrm ?_
 refine At.zh (.q 0 (.q 1 (.q 2 (.q 3 (.q 4 (.q 5 (.q 6 .done))))))) ?_
 refine AtT.ze ?_
 refine AtT.jI ?_
 first | refine AtT.zm fo62_0 ?_ | with_reducible refine AtT.zn fo62_0 ?_ | refine AtT.zq fo62_0 ?_
 first | refine AtT.zm qF ?_ | with_reducible refine AtT.zn qF ?_ | refine AtT.zq qF ?_
 first | refine AtT.zk zQ ?_ | refine AtT.zo zQ ?_
 first | refine AtT.zK Tryz.underlying22 ?_ | refine AtT.zL Tryz.underlying22 ?_
 refine AtT.ze ?_
 refine AtT.done ?_
 refine At.nrm ?_
 refine At.lp (ι:=Nat) (KS:=fun j=>[(5,.pointer (some ⟨b17,0,none⟩)),(8,.map (some b40)),(58,.slice a b.br.length c),(59,iv b.br.length),(60,iv j)]) (OS:=fun j=>[.blk b17 (LC (bnc b a c (.slice ap ps.length cp) (.slice none 0 0) S) 62),.blk b40 (qV plv iv (plF k (b.br.take j)) k)])
  (VS:=fun j V'=>V'=V2∧j≤b.br.length) (μ:=fun j=>b.br.length-j) 0 ?_ ?_ ?_ ?_
 ·exact⟨rfl,rfl,rfl,rfl,rfl,trivial⟩
 ·rw[List.take_zero,plF_nil]
  ·exact Pt.zx
 ·exact⟨rfl,Nat.zero_le _⟩
 rintro j V3 ks' O' ⟨rfl,hj1⟩ hk hO hl3
 subst hk hO
 refine At.nrm ?_
 refine At.zh (.q 0 .done) ?_
 refine AtT.qg ?_
 refine AtT.done ?_
 refine At.nrm ?_
 refine At.zZ rfl (fun hc=>?_) (fun hc=>?_)
 ·have hjl:j<b.br.length:=by omega
  refine At.nrm ?_
  refine At.zh (.q 0 (.q 1 (.q 2 .done))) ?_
  refine AtT.zU Tryz.underlying22 tk3 ?_
  intro p62 e62 he62 hc62
  obtain rfl:b.br[j]=e62:=by have:b.br[j]? = some e62:=(by simpa using he62); rw[List.getElem?_eq_getElem hjl]at this; simpa using this
  first | refine AtT.zk tk3 ?_ | refine AtT.zo tk3 ?_
  refine AtT.zf ?_
  refine AtT.done ?_
  refine At.nrm ?_
  refine At.zh (.q 0 (.q 1 (.q 2 (.n true 3 .done)))) ?_
  refine AtT.ze ?_
  refine AtT.ze ?_
  refine AtT.jk (bd103_0 _) ?_
  refine AtT.mapDel rfl trivial key103 b.br[j] iv rfl Tryz.underlying101 rfl rfl (by repeat first|exact Upd.here|apply Upd.there) ?_
  refine AtT.done ?_
  refine At.nrm ?_
  refine At.nrm ?_
  refine At.zh (.q 0 (.q 1 .done)) ?_
  first | refine AtT.qm ?_ | refine AtT.zR ?_
  refine AtT.ze ?_
  refine AtT.done ?_
  refine At.nrm ?_
  refine At.round (j+1) ?_ ?_ ?_ ?_
  ·show b.br.length-(j+1)<b.br.length-j; omega
  ·exact⟨rfl,by omega⟩
  ·exact⟨rfl,rfl,rfl,rfl,rfl,trivial⟩
  rw[List.take_succ_eq_append_getElem hjl,←plF_del]
  ·exact Pt.zx
 obtain rfl:j=b.br.length:=by omega
 rw[List.take_length]
 obtain⟨N,hN⟩:∃ N,N=plF k b.br:=⟨_,rfl⟩
 have hNK:(N.map (·.1)).Nodup:=by rw[hN]; exact plF_keys _ _
 have hNB:(N.map (·.2.2)).Nodup:=by rw[hN]; exact plF_borns _ _
 have hNl:N.length≤k:=by rw[hN]; exact plF_len _ _
 have hNe:∀ e∈N,e.1=e.2.1∧e.2.2<k:=fun e he=>by
  rw[hN]at he
  obtain⟨⟨i,hi,rfl⟩,_⟩:=plF_mem.1 he
  exact⟨rfl,hi⟩
 rw[←hN]
 refine At.nrm ?_
 refine At.zh (.q 0 (.n false 1 .done)) ?_
 refine AtT.ze ?_
 refine AtT.range rfl trivial Tryz.underlying101 rfl zN.zx (by decide) ?_
 intro b69
 refine AtT.done ?_
 refine At.nrm ?_
 refine At.newRow 3 1 ?_
 refine At.lp (ι:=Array Nat×List Int×Option Addr×Nat) (KS:=fun g=>[(5,.pointer (some ⟨b17,0,none⟩)),(69,.pointer (some ⟨b69,0,none⟩))])
  (OS:=fun g=>[.blk b69 (.mapIter (some b40) k g.1 k),.blk b40 (qV plv iv N k),.blk b17 (LC (bnc b a c (.slice ap ps.length cp) (.slice g.2.2.1 g.2.1.length g.2.2.2) S) 62),.row (.slice g.2.2.1 g.2.1.length g.2.2.2) 3 1 g.2.1.length (flat ei g.2.1)])
  (VS:=fun g V''=>Le V3 V''∧g.2.1.Nodup∧(∀ x,x∈g.2.1↔∃ e∈N,e.2.2∈g.1∧e.1=x)∧g.2.1.length+(N.filter fun e=>!g.1.contains e.2.2).length≤N.length) (μ:=fun g=>(N.filter fun e=>!g.1.contains e.2.2).length) (#[],[],none,0) ?_ ?_ ?_ ?_
 ·exact⟨rfl,rfl,trivial⟩
 ·exact Pt.zx
 ·exact⟨Le.refl _,List.nodup_nil,fun x=>(by simp),by show 0+_≤_; rw[Nat.zero_add]; exact List.length_filter_le _ _⟩
 rintro⟨seen,out,ao,co⟩ V5 ks' O' ⟨hV5,ho1,ho2,ho3⟩ hk hO hl5
 dsimp only at ho1 ho2 ho3 hk hO
 subst hk hO
 refine At.nrm ?_
 refine At.zh (.n true 0 (.q 1 .done)) ?_
 all_goals (refine AtT.next rfl trivial rfl zN.zx zN.zx (fun e he=>(hNe e he).2) (Nat.le_refl _) (by decide) (fun hall3=>?_) (fun e he hns=>?_))
 all_goals (refine AtT.zI ?_)
 all_goals refine AtT.done ?_
 all_goals (refine At.nrm ?_)
 rotate_left
 ·refine At.qK rfl rfl ?_
  have hun:=jN he hns
  have hno:e.1∉out:=fun h=>by
   obtain⟨e',h1,h2,h3⟩:=(ho2 e.1).1 h
   have:=inj_of (fun e:Int×Int×Nat=>e.1) hNK h1 he h3
   subst this; exact hns h2
  have hev:=(hNe e he).1
  refine At.nrm ?_
  refine At.zh (.n false 0 (.q 1 (.q 2 .done))) ?_
  refine AtT.entry rfl trivial rfl zN.zx zN.zx he hNB (by decide) ?_
  refine AtT.zI ?_
  refine AtT.zf ?_
  refine AtT.done ?_
  refine At.nrm ?_
  rw[←hev]
  refine At.zh (.q 0 (.q 1 (.q 2 (.q 3 (.q 4 (.q 5 (.n false 6 (.n true 7 (.q 8 (.q 9 (.n true 10 .done))))))))))) ?_
  refine AtT.ze ?_
  refine AtT.ze ?_
  refine AtT.jI ?_
  first | refine AtT.zm jA ?_ | with_reducible refine AtT.zn jA ?_ | refine AtT.zq jA ?_
  first | refine AtT.zk zQ ?_ | refine AtT.zo zQ ?_
  refine AtT.ze ?_
  refine AtT.qi (qX _) ?_
  intro q80 V80 hV80 hq80
  have g80:Le V V80:=by first | exact hV80 | exact Le.trans (by assumption) hV80
  first | refine AtT.kX Tryz.underlying22 rw3 ?_
  intro a81 c81
  refine AtT.jI ?_
  first | refine AtT.zm jA ?_ | with_reducible refine AtT.zn jA ?_ | refine AtT.zq jA ?_
  first | refine AtT.kstore1 zQ ?_ | refine AtT.qc zQ ?_
  refine AtT.done ?_
  refine At.nrm ?_
  refine At.round (seen.push e.2.2,out++[e.1],a81,c81) ?_ ?_ ?_ ?_
  ·exact hun
  ·refine⟨hV5.trans (by first | assumption | exact Le.refl _),?_,fun x=>?_,?_⟩
   ·exact List.nodup_append.2 ⟨ho1,by simp,fun x hx y hy=>by rw[List.mem_singleton]at hy; subst hy; intro h; subst h; exact hno hx⟩
   ·dsimp only
    rw[List.mem_append,List.mem_singleton,ho2]
    constructor
    ·rintro(⟨e',h1,h2,h3⟩ | rfl)
     ·exact⟨e',h1,(seen_pushI hNB he h1).2 (.inl h2),h3⟩
     ·exact⟨e,he,(seen_pushI hNB he he).2 (.inr rfl),rfl⟩
    ·rintro⟨e',h1,h2,h3⟩
     rcases(seen_pushI hNB he h1).1 h2 with h | rfl
     ·exact .inl ⟨e',h1,h,h3⟩
     ·exact .inr h3.symm
   ·dsimp only; rw[List.length_append]; simp only[List.length_cons,List.length_nil]; omega
  ·exact⟨rfl,rfl,trivial⟩
  dsimp only
  rw[qB,List.length_append]
  ·exact Pt.zx
 refine At.qf rfl rfl ?_
 have hmem:∀ x,x∈out↔x∈whl b:=fun x=>by
  rw[ho2,whl_mem hb]
  constructor
  ·rintro⟨e,h1,_,rfl⟩
   rw[hN]at h1
   obtain⟨⟨i,hi,rfl⟩,h2⟩:=plF_mem.1 h1
   exact⟨Int.natCast_nonneg _,by show(i:Int)<b.o; omega,h2⟩
  ·rintro⟨h1,h2,h3⟩
   have h4:(((x.toNat:Nat):Int),((x.toNat:Nat):Int),x.toNat)∈N:=by
    rw[hN]
    refine plF_mem.2 ⟨⟨x.toNat,by omega,rfl⟩,?_⟩
    show((x.toNat:Nat):Int)∉b.br
    rw[Int.toNat_of_nonneg h1]; exact h3
   exact⟨_,h4,hall3 _ h4,Int.toNat_of_nonneg h1⟩
 have hsrt:srtI out=whl b:=up_ext (srtI_sorted ho1) (whl_up b) fun x=>by rw[(srtI_perm out).mem_iff,hmem]
 have hol:out.length=(whl b).length:=by rw[←hsrt]; exact(List.length_mergeSort out).symm
 have hon0:out.length≠0:=fun h=>whl_ne hb (List.eq_nil_of_length_eq_zero (by omega))
 refine At.nrm ?_
 refine At.rowBlk2 (v:=.slice ao out.length co) zN.zx hon0 (fun bb cap rest hbb hcap hcm hrl=>?_)
 cases hbb
 refine At.zh (.q 0 (.q 1 (.q 2 (.q 3 (.n true 4 .done))))) ?_
 refine AtT.ze ?_
 refine AtT.jI ?_
 first | refine AtT.zm jA ?_ | with_reducible refine AtT.zn jA ?_ | refine AtT.zq jA ?_
 first | refine AtT.zk zQ ?_ | refine AtT.zo zQ ?_
 refine AtT.sortI rfl trivial rfl (by omega) zN.zx (by decide) ?_
 refine AtT.done ?_
 refine At.nrm ?_
 rw[hsrt]
 refine At.giveB (b:=bb) zN.zx (fun V6 hV6 hb6=>?_)
 refine At.giveB (b:=b17) zN.zx (fun V7 hV7 hb7=>?_)
 refine At.nrm ?_
 refine At.zh (.q 0 (.q 1 .done)) ?_
 refine AtT.ze ?_
 refine AtT.zf ?_
 refine AtT.done ?_
 refine At.nrm ?_
 have hc7:=qj hb7
 rw[hol]at hc7
 refine At.zT rfl (.tmp rfl) ⟨b17,rfl,some ⟨bb,0,none⟩,co,?_,?_,?_⟩
 ·have:=hc7.at (k:=4) (vs:=[.slice ap ps.length cp]) fun j u hj=>by
   cases j with
   | zero=>exact hj
   | succ j=>simp at hj
  rwa[Addr.add_lit]at this
 ·have:=hc7.at (k:=5) (vs:=[.slice (some ⟨bb,0,none⟩) (whl b).length co]) fun j u hj=>by
   cases j with
   | zero=>exact hj
   | succ j=>simp at hj
  rwa[Addr.add_lit]at this
 ·exact(Sl.of_cells Lw.jd (cells_pre hb6) (by rw[←hol]; exact hcap) hcm).le hV7
end Go.Proofs.YtfmmggphdeiajaaGreatDoor.P
end
section
set_option linter.unusedVariables false
namespace Go.Ps
open Go.Lw
def sl3 (q:Option Addr×Nat×Nat):List Value:=[.slice q.1 q.2.1 q.2.2]
theorem sl3_len (q:Option Addr×Nat×Nat):(sl3 q).length=1:=rfl
def SLL (V:View) (v:Value) (L:List (List Int)):Prop:=∃ qs:List (Option Addr×Nat×Nat),Sl V sl3 1 v qs∧qs.length=L.length∧∀ (i:Nat) (q:Option Addr×Nat×Nat) (l:List Int),qs[i]? = some q→L[i]? = some l→SlI V (.slice q.1 q.2.1 q.2.2) l
theorem SLL.le {V V':View} {v:Value} {L:List (List Int)} (h:SLL V v L) (hl:Le V V'):SLL V' v L:=by
 obtain⟨qs,h1,h2,h3⟩:=h
 exact⟨qs,h1.le hl,h2,fun i q l a b=>(h3 i q l a b).le hl⟩
def hAt (ps:List Pp) (i:Int):Option Int:=(ps[i.toNat]?).map (·.h)
structure TnOk (ps:List Pp) (w:Nat) (L:List (List Int)):Prop where
 ne:∀ t∈L,t≠[]
 is:∀ t∈L,IsL t ps.length
 le:∀ t∈L,t.length≤w
 heat:∀ t∈L,∀ i∈t,∀ j∈t,hAt ps i=hAt ps j
 nod:L.flatten.Nodup
 all:∀ i:Nat,i<ps.length→(i:Int)∈L.flatten
theorem flat_split {L:List (List Int)} {k:Nat} {t:List Int} (h:L[k]? = some t):L.flatten=(L.take k).flatten++(t++(L.drop (k+1)).flatten):=by
 obtain⟨hk,rfl⟩:=List.getElem?_eq_some_iff.1 h
 have:L=L.take k++(L[k]::L.drop (k+1)):=by rw[List.getElem_cons_drop]; exact(List.take_append_drop k L).symm
 rw[congrArg List.flatten this,List.flatten_append,List.flatten_cons]
theorem flat_step {L:List (List Int)} {k:Nat} {t:List Int} (h:L[k]? = some t):(L.take (k+1)).flatten=(L.take k).flatten++t:=by
 obtain⟨hk,rfl⟩:=List.getElem?_eq_some_iff.1 h
 rw[List.take_succ_eq_append_getElem hk,List.flatten_append]
 simp
theorem nd_at {L:List (List Int)} (hn:L.flatten.Nodup) {k j:Nat} {t:List Int} {x:Int} (h:L[k]? = some t) (hj:t[j]? = some x):x∉(L.take k).flatten++t.take j:=by
 rw[flat_split h]at hn
 obtain⟨hjl,rfl⟩:=List.getElem?_eq_some_iff.1 hj
 have e:t=t.take j++(t[j]::t.drop (j+1)):=by rw[List.getElem_cons_drop]; exact(List.take_append_drop j t).symm
 intro hm
 obtain⟨_,n2,n3⟩:=List.nodup_append.1 hn
 rcases List.mem_append.1 hm with c | c
 ·exact n3 _ c _ (List.mem_append_left _ (List.getElem_mem hjl)) rfl
 ·have n4:=(List.nodup_append.1 n2).1
  rw[e]at n4
  exact(List.nodup_append.1 n4).2.2 _ c _ (List.mem_cons_self ..) rfl
theorem tn_len {ps:List Pp} {w:Nat} {L:List (List Int)} (h:TnOk ps w L):L.flatten.length=ps.length:=by
 have sub1:L.flatten ⊆ (List.range ps.length).map Int.ofNat:=fun x hx=>by
  obtain⟨t,ht,hxt⟩:=List.mem_flatten.1 hx
  have:=(h.is t ht).bd x hxt
  exact List.mem_map.2 ⟨x.toNat,List.mem_range.2 (by omega),Int.toNat_of_nonneg (by omega)⟩
 have sub2:(List.range ps.length).map Int.ofNat ⊆ L.flatten:=fun x hx=>by
  obtain⟨i,hi,rfl⟩:=List.mem_map.1 hx
  exact h.all i (List.mem_range.1 hi)
 have nd:((List.range ps.length).map Int.ofNat).Nodup:=by
  have:((List.range ps.length).map Int.ofNat).Pairwise (· < ·):=by
   rw[List.pairwise_map]
   exact List.pairwise_lt_range.imp fun {a b} h=>by show(a:Int)<(b:Int); omega
  exact this.imp fun {a b} h=>by omega
 have h1:=List.Nodup.length_le_of_subset h.nod sub1
 have h2:=List.Nodup.length_le_of_subset nd sub2
 rw[List.length_map,List.length_range]at h1 h2
 omega
theorem flat_cnt:∀ {L:List (List Int)},(∀ t∈L,t≠[])→L.length≤L.flatten.length
 | [],_=>Nat.le_refl _
 | t::L,h=>by
  have h1:=flat_cnt (L:=L) fun x hx=>h x (List.mem_cons_of_mem _ hx)
  have h2:=List.length_pos_iff.2 (h t (by simp))
  rw[List.flatten_cons,List.length_append,List.length_cons]
  omega
theorem take_flat_len {L:List (List Int)} (k:Nat):(L.take k).flatten.length≤L.flatten.length:=by
 have:=congrArg List.flatten (List.take_append_drop k L)
 rw[List.flatten_append]at this
 rw[←this,List.length_append]; omega
def hadL (n:Nat) (D:List Int):List Int:=(List.range n).map fun i:Nat=>if (i:Int)∈D then 1 else 0
theorem hadL_len (n:Nat) (D:List Int):(hadL n D).length=n:=by simp[hadL]
theorem hadL_nil (n:Nat):hadL n []=List.replicate n 0:=by
 refine List.ext_getElem (by simp[hadL]) fun i h1 h2=>?_
 simp[hadL]
theorem hadL_at {n:Nat} {D:List Int} {i:Nat} (h:i<n):(hadL n D)[i]? = some (if (i:Int)∈D then 1 else 0):=by
 simp[hadL,List.getElem?_range h]
theorem hadL_set {n:Nat} {D:List Int} {i:Nat} (h:i<n):(hadL n D).set i 1=hadL n (D++[(i:Int)]):=by
 refine List.ext_getElem (by simp[hadL]) fun j h1 h2=>?_
 rw[List.getElem_set]
 simp only[hadL,List.getElem_map,List.getElem_range,List.mem_append,List.mem_singleton]
 by_cases c:i=j
 ·subst c; simp
 ·rw[if_neg c]
  have:¬ (j:Int)=(i:Int):=by omega
  simp[this]
structure LieP (w:List Int) (L:List (List Int)) (n k j:Nat) (xs:List Int):Prop where
 len:xs.length=n
 at':∀ k' t j' x,L[k']? = some t→t[j']? = some x→(k'<k∨(k'=k∧j'<j))→xs[x.toNat]? = w[j']?
theorem LieP.step {w:List Int} {L:List (List Int)} {n k j:Nat} {xs:List Int} {t:List Int} {x y:Int} (h:LieP w L n k j xs) (hn:L.flatten.Nodup) (h0:∀ t∈L,∀ x∈t,0≤x∧x<n) (hk:L[k]? = some t) (hj:t[j]? = some x) (hy:w[j]? = some y):LieP w L n k (j+1) (xs.set x.toNat y):=by
 have hxb:=h0 t (List.mem_of_getElem? hk) x (List.mem_of_getElem? hj)
 refine⟨by rw[List.length_set]; exact h.len,fun k' t' j' x' a b c=>?_⟩
 by_cases e:k'=k∧j'=j
 ·obtain⟨rfl,rfl⟩:=e
  rw[hk]at a
  cases a
  rw[hj]at b
  cases b
  rw[List.getElem?_set_self (by rw[h.len]; omega),hy]
 ·have c':k'<k∨(k'=k∧j'<j):=by omega
  have hx'b:=h0 t' (List.mem_of_getElem? a) x' (List.mem_of_getElem? b)
  have hne:x'≠x:=by
   intro he
   subst he
   refine nd_at hn hk hj ?_
   rcases c' with c' | ⟨rfl,c'⟩
   ·refine List.mem_append_left _ (List.mem_flatten.2 ⟨t',?_,List.mem_of_getElem? b⟩)
    exact List.mem_of_getElem? (i:=k') (by rw[List.getElem?_take_of_lt c']; exact a)
   ·rw[hk]at a
    cases a
    refine List.mem_append_right _ (List.mem_of_getElem? (i:=j') ?_)
    rw[List.getElem?_take_of_lt c']; exact b
  rw[List.getElem?_set_ne (by omega)]
  exact h.at' k' t' j' x' a b c'
theorem LieP.next {w:List Int} {L:List (List Int)} {n k j:Nat} {xs:List Int} {t:List Int} (h:LieP w L n k j xs) (hk:L[k]? = some t) (hj:t.length≤j):LieP w L n (k+1) 0 xs:=by
 refine⟨h.len,fun k' t' j' x' a b c=>h.at' k' t' j' x' a b ?_⟩
 rcases c with c | ⟨_,c⟩
 ·rcases Nat.lt_or_ge k' k with d | d
  ·exact .inl d
  ·obtain rfl:k'=k:=by omega
   rw[hk]at a
   cases a
   exact .inr ⟨rfl,Nat.lt_of_lt_of_le (List.getElem?_eq_some_iff.1 b).1 hj⟩
 ·omega
end Go.Ps
end
section
set_option linter.unusedVariables false
namespace Go.Proofs.YtfmmggphdeiajaaGreatDoor.P
open Go.Lw Go.Ps Go.RowKit
open Go.Gl (iv ivs qB)
theorem popen_f (b:Bd) (hb:BdOk b) (a:Option Addr) (c:Nat) (ps:List Pp) (hps:PpOk ps) (V:View) (pv:Value) (hs:SlI V (.slice a b.br.length c) b.br) (hp:Sl V ppe 2 pv ps) :
  Fnc Tryz.prog 50 [bdv b a c,pv] V fun r V'=>∃ b0,r=.tuple #[.pointer (some ⟨b0,0,none⟩),iv 0]∧BnV V' b0 pv (whl b):=by
 refine zS Tryz.func50 rfl Tryz.ntmps50 (Nat.le_of_ble_eq_true rfl) ?_
 intro w0 hw0
 refine At.nrm ?_
 refine At.zh (.n false 0 (.q 1 (.q 2 .done))) ?_
 refine AtT.jS ?_
 intro b2
 refine AtT.zf ?_
 refine AtT.zf ?_
 refine AtT.done ?_
 refine At.nrm ?_
 refine At.zh (.q 0 (.n false 1 (.q 2 .done))) ?_
 first | refine AtT.zB qz ?_ | refine AtT.zM qz ?_ | refine AtT.zA qz ?_
 refine AtT.zJ rfl rfl ok21 (pCheckBed_f b hb a c _ hs) ?_
 rintro _ rfl
 refine AtT.zf ?_
 refine AtT.done ?_
 refine At.nrm ?_
 refine At.zh (.q 0 (.q 1 .done)) ?_
 refine AtT.ze ?_
 refine AtT.jV ?_
 refine AtT.done ?_
 refine At.nrm ?_
 refine At.qf rfl rfl ?_
 refine At.nrm ?_
 refine At.zh (.q 0 (.n false 1 (.q 2 .done))) ?_
 refine AtT.ze ?_
 refine AtT.zJ rfl rfl ok100 (pCheckPanels_f ps hps _ _ hp) ?_
 rintro _ rfl
 refine AtT.zf ?_
 refine AtT.done ?_
 refine At.nrm ?_
 refine At.zh (.q 0 (.q 1 .done)) ?_
 refine AtT.ze ?_
 refine AtT.jV ?_
 refine AtT.done ?_
 refine At.nrm ?_
 refine At.qf rfl rfl ?_
 refine At.nrm ?_
 refine At.zh (.q 0 (.q 1 (.n false 2 (.q 3 (.q 4 .done))))) ?_
 first | refine AtT.zB qz ?_ | refine AtT.zM qz ?_ | refine AtT.zA qz ?_
 refine AtT.ze ?_
 refine AtT.jQ rfl rfl ok22 (newBench_f b hb a c ps hps _ _ hs hp) ?_
 rintro _ V20 hV20 ⟨b0,rfl,hbn⟩
 refine AtT.zf ?_
 refine AtT.zf ?_
 refine AtT.done ?_
 refine At.nrm ?_
 exact At.ret2 rfl (.tmp rfl) (.tmp rfl) ⟨b0,rfl,hbn⟩
theorem hAt_get {ps:List Pp} {i:Int} {p:Pp} (h:ps[i.toNat]? = some p):hAt ps i=some p.h:=by unfold hAt; rw[h]; rfl
theorem run1_f (ps:List Pp) (t:List Int) (hh:∀ i∈t,∀ j∈t,hAt ps i=hAt ps j) (hb:∀ x∈t,0≤x∧x<ps.length) (y:Int) (hy:y∈t) (V:View) (q1 q2:Addr) (pv tv:Value) (h1:Cells V q1 [pv]) (h2:Cells V q2 [tv]) (hp:Sl V ppe 2 pv ps) (ht:SlI V tv t) :
  Fnc Tryz.prog 53 ([]++[iv y]++[.pointer (some q1),.pointer (some q2)]) V fun r _=>r=.bool ((fun _:Int=>false) y):=by
 have hlen:=hp.qI
 have hlen2:=ht.qI
 obtain⟨ap,cp,rfl,k1,k2,_⟩:=id hp
 obtain⟨at',ct,rfl,k3,k4,_⟩:=id ht
 clear k1 k2 k3 k4
 have hyb:=hb y hy
 have ht0:0<t.length:=List.length_pos_iff.2 (List.ne_nil_of_mem hy)
 obtain⟨z,hz⟩:∃ z,t[0]? = some z:=⟨_,List.getElem?_eq_getElem ht0⟩
 have hzb:=hb z (List.mem_of_getElem? hz)
 refine zS Tryz.func53 rfl Tryz.ntmps53 (Nat.le_of_ble_eq_true rfl) ?_
 intro w0 hw0
 refine At.nrm ?_
 refine At.zh (.q 0 .done) ?_
 refine AtT.zf ?_
 refine AtT.done ?_
 refine At.nrm ?_
 refine At.draw (.q 0 (.q 1 (.q 2 (.q 3 (.q 4 (.q 5 (.q 6 (.q 7 (.q 8 (.q 9 (.q 10 (.q 11 (.q 12 (.q 13 .done)))))))))))))) ffm (by kernel_rfl) ?_
 first | refine AtT.zk tk25 ?_ | refine AtT.zo tk25 ?_
 refine AtT.ze ?_
 refine AtT.zU Tryz.underlying25 kN ?_
 intro p7 e7 he7 hc7
 first | refine AtT.zm zH ?_ | with_reducible refine AtT.zn zH ?_ | refine AtT.zq zH ?_
 first | refine AtT.zk tk3 ?_ | refine AtT.zo tk3 ?_
 first | refine AtT.zk tk25 ?_ | refine AtT.zo tk25 ?_
 first | refine AtT.zk zQ ?_ | refine AtT.zo zQ ?_
 refine AtT.zU Tryz.underlying22 tk3 ?_
 intro p12 e12 he12 hc12
 obtain rfl:z=e12:=by have:t[0]? = some e12:=(by simpa using he12); rw[hz]at this; simpa using this
 first | refine AtT.zk tk3 ?_ | refine AtT.zo tk3 ?_
 refine AtT.zU Tryz.underlying25 kN ?_
 intro p14 e14 he14 hc14
 first | refine AtT.zm zH ?_ | with_reducible refine AtT.zn zH ?_ | refine AtT.zq zH ?_
 first | refine AtT.zk tk3 ?_ | refine AtT.zo tk3 ?_
 refine AtT.jV ?_
 refine AtT.zf ?_
 refine AtT.done ?_
 refine At.nrm ?_
 have e:=hh y hy z (List.mem_of_getElem? hz)
 rw[hAt_get he7,hAt_get he14]at e
 have e:e7.h=e14.h:=by simpa using e
 refine At.zT rfl (.tmp rfl) ?_
 rw[decide_eq_false (by simpa using e)]
theorem run2_f (n:Nat) (D:List Int) (y:Int) (hy:0≤y∧y<n) (hD:y∉D) (V:View) (q1:Addr) (hv:Value) (h1:Cells V q1 [hv]) (hs:SlI V hv (hadL n D)) :
  Fnc Tryz.prog 54 ([]++[iv y]++[.pointer (some q1)]) V fun r _=>r=.bool ((fun _:Int=>false) y):=by
 have hlen:=hs.qI
 have hl:=hadL_len n D
 obtain⟨ap,cp,rfl,k1,k2,_⟩:=id hs
 clear k1 k2
 refine zS Tryz.func54 rfl Tryz.ntmps54 (Nat.le_of_ble_eq_true rfl) ?_
 intro w0 hw0
 refine At.nrm ?_
 refine At.zh (.q 0 .done) ?_
 refine AtT.zf ?_
 refine AtT.done ?_
 refine At.nrm ?_
 refine At.zh (.q 0 (.q 1 (.q 2 (.q 3 (.q 4 (.q 5 .done)))))) ?_
 first | refine AtT.zk zQ ?_ | refine AtT.zo zQ ?_
 refine AtT.ze ?_
 refine AtT.zU Tryz.underlying22 tk3 ?_
 intro p6 e6 he6 hc6
 obtain rfl:0=e6:=by rw[hadL_at (by omega),if_neg (by rw[Int.toNat_of_nonneg hy.1]; exact hD)]at he6; simpa using he6
 first | refine AtT.zk tk3 ?_ | refine AtT.zo tk3 ?_
 refine AtT.qx ?_
 refine AtT.zf ?_
 refine AtT.done ?_
 refine At.nrm ?_
 exact At.zT rfl (.tmp rfl) rfl
theorem longer_f (b0:Nat) (pv:Value) (w:List Int) (ps:List Pp) (i k:Int) (hi:0≤i∧i<ps.length) (hk:0≤k∧k<ps.length) (V:View) (hb:BnV V b0 pv w) (hp:Sl V ppe 2 pv ps) :
  Fnc Tryz.prog 56 ([.pointer (some ⟨b0,0,none⟩)]++[iv i,iv k]++[]) V fun r _=>∃ x,r=.bool x:=by
 have hlen:=hp.qI
 obtain⟨ap,cp,rfl,k1,k2,_⟩:=id hp
 clear k1 k2
 obtain⟨aw,cw,h4,h5,hw⟩:=hb
 refine zS Tryz.func56 rfl Tryz.ntmps56 (Nat.le_of_ble_eq_true rfl) ?_
 intro w0 hw0
 refine At.nrm ?_
 refine At.zh (.q 0 .done) ?_
 refine AtT.zf ?_
 refine AtT.done ?_
 refine At.nrm ?_
 refine At.draw (.q 0 (.q 1 (.q 2 (.q 3 (.q 4 (.q 5 (.q 6 (.q 7 (.q 8 (.q 9 (.q 10 (.q 11 (.q 12 (.q 13 (.q 14 (.q 15 (.q 16 (.q 17 .done)))))))))))))))))) ffm (by kernel_rfl) ?_
 refine AtT.ze ?_
 refine AtT.jI ?_
 first | refine AtT.zm fo62_1 ?_ | with_reducible refine AtT.zn fo62_1 ?_ | refine AtT.zq fo62_1 ?_
 first | refine AtT.zk tk25 ?_ | refine AtT.zo tk25 ?_
 refine AtT.ze ?_
 refine AtT.zU Tryz.underlying25 kN ?_
 intro p12 e12 he12 hc12
 first | refine AtT.zm qb ?_ | with_reducible refine AtT.zn qb ?_ | refine AtT.zq qb ?_
 first | refine AtT.zk tk2 ?_ | refine AtT.zo tk2 ?_
 refine AtT.ze ?_
 refine AtT.jI ?_
 first | refine AtT.zm fo62_1 ?_ | with_reducible refine AtT.zn fo62_1 ?_ | refine AtT.zq fo62_1 ?_
 first | refine AtT.zk tk25 ?_ | refine AtT.zo tk25 ?_
 refine AtT.ze ?_
 refine AtT.zU Tryz.underlying25 kN ?_
 intro p20 e20 he20 hc20
 first | refine AtT.zm qb ?_ | with_reducible refine AtT.zn qb ?_ | refine AtT.zq qb ?_
 first | refine AtT.zk tk2 ?_ | refine AtT.zo tk2 ?_
 refine AtT.qx ?_
 refine AtT.zf ?_
 refine AtT.done ?_
 refine At.nrm ?_
 exact At.zT rfl (.tmp rfl) ⟨_,rfl⟩
theorem bestI_f (b0:Nat) (pv:Value) (w:List Int) (ps:List Pp) (x0:Int) (l:List Int) (hl:∀ x∈x0::l,0≤x∧x<ps.length) (V:View) (v:Value) (hb:BnV V b0 pv w) (hp:Sl V ppe 2 pv ps) (hs:SlI V v (x0::l)) :
  Fnc Tryz.prog 55 [v,.func (.func 56) #[.pointer (some ⟨b0,0,none⟩)] #[]] V fun r _=>∃ x∈x0::l,r=iv x:=by
 have hlen:=hs.qI
 simp only[List.length_cons]at hlen
 refine zS Tryz.func55 rfl Tryz.ntmps55 (Nat.le_of_ble_eq_true rfl) ?_
 intro w0 hw0
 refine At.nrm ?_
 refine At.zh (.q 0 .done) ?_
 refine AtT.zf ?_
 refine AtT.done ?_
 refine At.nrm ?_
 refine At.zh (.q 0 (.q 1 (.q 2 (.q 3 .done)))) ?_
 refine AtT.ze ?_
 have hpos:(0:Int)<((x0::l).length:Int):=by simp only[List.length_cons]; omega
 refine AtT.zU Tryz.underlying22 tk3 ?_
 intro p9 e9 he9 hc9
 obtain rfl:x0=e9:=by simpa using he9
 first | refine AtT.zk tk3 ?_ | refine AtT.zo tk3 ?_
 refine AtT.zf ?_
 refine AtT.done ?_
 refine At.nrm ?_
 refine At.zh (.q 0 (.q 1 (.q 2 (.q 3 .done)))) ?_
 refine AtT.ze ?_
 have hpos1:(1:Int)≤((x0::l).length:Int):=by simp only[List.length_cons]; omega
 refine AtT.ktail Tryz.underlying22 tk3 ?_
 intro a12 c12 hs12
 first | refine AtT.zK Tryz.underlying22 ?_ | refine AtT.zL Tryz.underlying22 ?_
 refine AtT.ze ?_
 refine AtT.done ?_
 refine At.nrm ?_
 refine At.lp (ι:=Nat×Int) (KS:=fun g=>[(1,.func (.func 56) #[.pointer (some ⟨b0,0,none⟩)] #[]),(5,iv g.2),(12,.slice a12 l.length c12),(13,iv l.length),(14,iv g.1)])
  (OS:=fun _=>[]) (VS:=fun g V'=>V'=V∧g.1≤l.length∧g.2∈x0::l) (μ:=fun g=>l.length-g.1) (0,x0) ?_ ?_ ?_ ?_
 ·exact⟨rfl,rfl,rfl,rfl,rfl,trivial⟩
 ·exact Pt.zx
 ·exact⟨rfl,Nat.zero_le _,List.mem_cons_self ..⟩
 rintro⟨k,x⟩ V' ks' O' ⟨rfl,hkl,hx⟩ hk hO hll
 dsimp only at hkl hx hk hO
 subst hk hO
 have hs':SlI V' (.slice a12 l.length c12) l:=hs12
 refine At.nrm ?_
 refine At.zh (.q 0 .done) ?_
 refine AtT.qg ?_
 refine AtT.done ?_
 refine At.nrm ?_
 refine At.zZ rfl (fun hc=>?_) (fun hc=>?_)
 ·obtain⟨y,hy⟩:∃ y,l[k]? = some y:=⟨_,List.getElem?_eq_getElem (by omega)⟩
  have hym:y∈x0::l:=List.mem_cons_of_mem _ (List.mem_of_getElem? hy)
  refine At.nrm ?_
  refine At.zh (.q 0 (.q 1 (.q 2 .done))) ?_
  refine AtT.zU Tryz.underlying22 tk3 ?_
  intro p16 e16 he16 hc16
  obtain rfl:y=e16:=by have:l[k]? = some e16:=(by simpa using he16); rw[hy]at this; simpa using this
  first | refine AtT.zk tk3 ?_ | refine AtT.zo tk3 ?_
  refine AtT.zf ?_
  refine AtT.done ?_
  refine At.nrm ?_
  refine At.zh (.q 0 (.q 1 (.q 2 (.n false 3 .done)))) ?_
  refine AtT.ze ?_
  refine AtT.ze ?_
  refine AtT.ze ?_
  refine AtT.kcallV rfl rfl rfl ok56 (longer_f b0 pv w ps y x (hl y hym) (hl x hx) _ hb hp) ?_
  rintro _ ⟨q,rfl⟩
  refine AtT.done ?_
  refine At.nrm ?_
  refine At.cond rfl (fun hq=>?_) (fun hq=>?_)
  ·refine At.nrm ?_
   refine At.zh (.q 0 (.q 1 .done)) ?_
   refine AtT.ze ?_
   refine AtT.zf ?_
   refine AtT.done ?_
   refine At.nrm ?_
   refine At.nrm ?_
   refine At.zh (.q 0 (.q 1 .done)) ?_
   first | refine AtT.qm ?_ | refine AtT.zR ?_
   refine AtT.ze ?_
   refine AtT.done ?_
   refine At.nrm ?_
   refine At.round (k+1,y) ?_ ?_ ?_ ?_
   ·show l.length-(k+1)<l.length-k; omega
   ·exact⟨rfl,by dsimp only; omega,hym⟩
   ·exact⟨rfl,rfl,rfl,rfl,rfl,trivial⟩
   ·exact Pt.zx
  ·refine At.nrm ?_
   refine At.zh (.q 0 (.q 1 .done)) ?_
   first | refine AtT.qm ?_ | refine AtT.zR ?_
   refine AtT.ze ?_
   refine AtT.done ?_
   refine At.nrm ?_
   refine At.round (k+1,x) ?_ ?_ ?_ ?_
   ·show l.length-(k+1)<l.length-k; omega
   ·exact⟨rfl,by dsimp only; omega,hx⟩
   ·exact⟨rfl,rfl,rfl,rfl,rfl,trivial⟩
   ·exact Pt.zx
 ·refine At.nrm ?_
  refine At.zh (.q 0 (.q 1 .done)) ?_
  refine AtT.ze ?_
  refine AtT.zf ?_
  refine AtT.done ?_
  refine At.nrm ?_
  exact At.zT rfl (.tmp rfl) ⟨x,hx,rfl⟩
theorem far_f (x y:Int) (V:View):Fnc Tryz.prog 57 [iv x,iv y] V fun r _=>∃ z,r=iv z:=by
 refine zS Tryz.func57 rfl Tryz.ntmps57 (Nat.le_of_ble_eq_true rfl) ?_
 intro w0 hw0
 refine At.nrm ?_
 refine At.zh (.q 0 .done) ?_
 refine AtT.zf ?_
 refine AtT.done ?_
 refine At.nrm ?_
 refine At.zh (.q 0 (.q 1 (.q 2 (.q 3 (.q 4 (.q 5 (.q 6 (.q 7 .done)))))))) ?_
 refine AtT.ze ?_
 refine AtT.ze ?_
 first | refine AtT.ksubt ?_ | refine AtT.ksubW ?_
 refine AtT.ze ?_
 refine AtT.ze ?_
 first | refine AtT.ksubt ?_ | refine AtT.ksubW ?_
 refine AtT.kmax2 ?_
 refine AtT.zf ?_
 refine AtT.done ?_
 refine At.nrm ?_
 exact At.zT rfl (.tmp rfl) ⟨_,rfl⟩
end Go.Proofs.YtfmmggphdeiajaaGreatDoor.P
end
section
set_option linter.unusedVariables false
namespace Go.Proofs.YtfmmggphdeiajaaGreatDoor.P
open Go.Lw Go.Ps Go.RowKit
open Go.Gl (iv ivs qB)
theorem bestT_f (b0:Nat) (pv:Value) (w:List Int) (ps:List Pp) (t:List Int) (hne:t≠[]) (hl:∀ x∈t,0≤x∧x<ps.length) (V:View) (v:Value) (hb:BnV V b0 pv w) (hp:Sl V ppe 2 pv ps) (hs:SlI V v t) :
  Fnc Tryz.prog 55 [v,.func (.func 56) #[.pointer (some ⟨b0,0,none⟩)] #[]] V fun r _=>∃ x∈t,r=iv x:=by
 cases t with
 | nil=>exact absurd rfl hne
 | cons x0 l=>exact bestI_f b0 pv w ps x0 l hl V v hb hp hs
structure Tn where
 q:Option Addr×Nat×Nat
 h:Int
 w:Int
def tne (t:Tn):List Value:=[.slice t.q.1 t.q.2.1 t.q.2.2,iv t.h,iv t.w]
theorem tne_len (t:Tn):(tne t).length=3:=rfl
theorem had_at0 {n:Nat} {D:List Int} {x:Int} (hx:0≤x∧x<n) (hD:x∉D):(flat ei (hadL n D))[0+x.toNat*1]? = some (iv 0):=by
 rw[jg,List.getElem?_map,Nat.zero_add,Nat.mul_one,hadL_at (by omega),if_neg (by rw[Int.toNat_of_nonneg hx.1]; exact hD)]
 rfl
theorem had_set {n:Nat} {D:List Int} {x:Int} (hx:0≤x∧x<n):SetAt (flat ei (hadL n D)) (0+x.toNat*1) (iv (0+1)) (flat ei (hadL n (D++[x]))):=by
 refine setAt_of (by rw[qa Lw.jd,hadL_len]; omega) ?_
 have:=hadL_set (D:=D) (i:=x.toNat) (n:=n) (by omega)
 rw[Int.toNat_of_nonneg hx.1]at this
 rw[←this,jg,jg,Nat.zero_add,Nat.mul_one,List.map_set]
 rfl
theorem had_sl {V:View} {b n:Nat} {D:List Int} (h:V b=some (LC (flat ei (hadL n D)) 3)) (hn:n≤12):SlI V (.slice (some ⟨b,0,none⟩) n n) (hadL n D):=by
 have:=Sl.of_cells (l:=hadL n D) Lw.jd (qj h) (Nat.le_refl _) (by rw[hadL_len]; unfold maxLen; omega)
 rwa[hadL_len]at this
set_option maxHeartbeats 1600000 in
theorem run_f (b:Bd) (hb:BdOk b) (a:Option Addr) (c:Nat) (ps:List Pp) (hps:PpOk ps) (L:List (List Int)) (hL:TnOk ps (whl b).length L) (V:View) (pv:Value) (at':Option Addr) (ct:Nat) (qs:List (Option Addr×Nat×Nat)) (hs:SlI V (.slice a b.br.length c) b.br) (hp:Sl V ppe 2 pv ps)
  (hq:Sl V sl3 1 (.slice at' qs.length ct) qs) (hql:qs.length=L.length) (hqi:∀ (i:Nat) (q:Option Addr×Nat×Nat) (l:List Int),qs[i]? = some q→L[i]? = some l→SlI V (.slice q.1 q.2.1 q.2.2) l) :
  Fnc Tryz.prog 20 [bdv b a c,pv,.slice at' qs.length ct] V fun r V'=>∃ b0 u ts,r=.tuple #[.pointer (some ⟨b0,0,none⟩),u,iv 0]∧BnV V' b0 pv (whl b)∧Sl V' tne 3 u ts∧ts.map (·.q)=qs:=by
 have hlenp:=hp.qI
 have hlenq:=hq.qI
 have hn:=hps.n
 have hfl:=tn_len hL
 have hwn:=whl_len hb
 have hLn:=flat_cnt hL.ne
 obtain⟨ap,cp,rfl,k1,k2,_⟩:=id hp
 clear k1 k2
 refine zS Tryz.func20 rfl Tryz.ntmps20 (Nat.le_of_ble_eq_true rfl) ?_
 intro w0 hw0
 refine At.nrm ?_
 refine At.zh (.n false 0 (.n false 1 (.q 2 (.q 3 (.q 4 .done))))) ?_
 refine AtT.jS ?_
 intro b3
 refine AtT.jS ?_
 intro b4
 refine AtT.zf ?_
 refine AtT.zf ?_
 refine AtT.zf ?_
 refine AtT.done ?_
 refine At.nrm ?_
 refine At.zh (.q 0 (.q 1 (.n false 2 (.q 3 (.q 4 (.q 5 (.q 6 (.q 7 .done)))))))) ?_
 first | refine AtT.zB qz ?_ | refine AtT.zM qz ?_ | refine AtT.zA qz ?_
 first | refine AtT.zk tk25 ?_ | refine AtT.zo tk25 ?_
 refine AtT.jQ rfl rfl ok50 (popen_f b hb a c ps hps _ _ hs hp) ?_
 rintro _ V23 hV23 ⟨b0,rfl,hbn⟩
 refine AtT.ze ?_
 refine AtT.zI ?_
 refine AtT.zI ?_
 refine AtT.zf ?_
 refine AtT.zf ?_
 refine AtT.done ?_
 refine At.nrm ?_
 refine At.zh (.q 0 (.q 1 .done)) ?_
 refine AtT.ze ?_
 refine AtT.jV ?_
 refine AtT.done ?_
 refine At.nrm ?_
 refine At.qf rfl rfl ?_
 refine At.nrm ?_
 refine At.zh (.q 0 (.q 1 (.n false 2 (.n false 3 (.n true 4 .done))))) ?_
 first | refine AtT.zk tk25 ?_ | refine AtT.zo tk25 ?_
 first | refine AtT.zK Tryz.underlying25 ?_ | refine AtT.zL Tryz.underlying25 ?_
 refine AtT.makeSl rfl trivial ei rfl Tryz.underlying22 rw3 rfl rfl (by decide) rfl rfl (by omega) (by omega) (by decide) (m:=ps.length) (za:=(0:Int)) ?_
 intro b31
 refine AtT.qE z22 ?_
 intro b11
 first | refine AtT.kstore1 zQ ?_ | refine AtT.qc zQ ?_
 refine AtT.done ?_
 refine At.nrm ?_
 refine At.zh (.q 0 .done) ?_
 refine AtT.zf ?_
 refine AtT.done ?_
 refine At.nrm ?_
 refine At.zh (.q 0 (.q 1 (.q 2 (.q 3 .done)))) ?_
 first | refine AtT.zm qp ?_ | with_reducible refine AtT.zn qp ?_ | refine AtT.zq qp ?_
 first | refine AtT.zk tk3 ?_ | refine AtT.zo tk3 ?_
 refine AtT.zf ?_
 refine AtT.zf ?_
 refine AtT.done ?_
 refine At.nrm ?_
 refine At.zh (.q 0 (.q 1 (.q 2 .done))) ?_
 refine AtT.ze ?_
 first | refine AtT.zK Tryz.underlying30 ?_ | refine AtT.zL Tryz.underlying30 ?_
 refine AtT.ze ?_
 refine AtT.done ?_
 refine At.nrm ?_
 refine At.newRow 58 3 ?_
 refine At.lp (ι:=Nat×Option Addr×Nat×List Tn×Int) (KS:=fun g=>[(4,.pointer (some ⟨b4,0,none⟩)),(9,.pointer (some ⟨b0,0,none⟩)),(11,.pointer (some ⟨b11,0,none⟩)),(12,.slice g.2.1 g.2.2.2.1.length g.2.2.1),(13,iv g.2.2.2.2),(14,iv (L.take g.1).flatten.length),(34,.slice at' qs.length ct),(35,iv qs.length),(36,iv g.1)])
  (OS:=fun g=>[.blk b4 (LC [.slice ap ps.length cp] 25),.blk b31 (LC (flat ei (hadL ps.length (L.take g.1).flatten)) 3),.blk b11 (LC [.slice (some ⟨b31,0,none⟩) ps.length ps.length] 22),.row (.slice g.2.1 g.2.2.2.1.length g.2.2.1) 58 3 g.2.2.2.1.length (flat tne g.2.2.2.1)])
  (VS:=fun g V'=>Le V23 V'∧g.1≤qs.length∧g.2.2.2.1.map (·.q)=qs.take g.1) (μ:=fun g=>qs.length-g.1) (0,none,0,[],b.h) ?_ ?_ ?_ ?_
 ·exact⟨rfl,rfl,rfl,rfl,rfl,rfl,rfl,rfl,rfl,trivial⟩
 ·dsimp only
  rw[List.take_zero,List.flatten_nil,hadL_nil]
  ·exact Pt.zx
 ·exact⟨Le.refl _,Nat.zero_le _,rfl⟩
 rintro⟨k,ao,co,ts,ht⟩ V1 ks' O' ⟨hV1,hk1,hts⟩ hk hO hl1
 dsimp only at hk1 hts hk hO
 subst hk hO
 have hV1':=hV23.trans hV1
 have hq1:=hq.le hV1'
 have hp1:=hp.le hV1'
 have hbn1:=hbn.le hV1
 have htl:ts.length=k:=by have:=congrArg List.length hts; simpa [Nat.min_eq_left hk1]using this
 refine At.nrm ?_
 refine At.zh (.q 0 .done) ?_
 refine AtT.qg ?_
 refine AtT.done ?_
 refine At.nrm ?_
 refine At.zZ rfl (fun hc=>?_) (fun hc=>?_)
 rotate_left
 ·obtain rfl:k=qs.length:=by omega
  refine At.nrm ?_
  refine At.zh (.q 0 (.q 1 (.q 2 (.q 3 .done)))) ?_
  refine AtT.ze ?_
  first | refine AtT.zk tk25 ?_ | refine AtT.zo tk25 ?_
  first | refine AtT.zK Tryz.underlying25 ?_ | refine AtT.zL Tryz.underlying25 ?_
  refine AtT.qg ?_
  refine AtT.done ?_
  refine At.nrm ?_
  refine At.qf rfl (decide_eq_false (by rw[hql,List.take_length]; omega)) ?_
  refine At.nrm ?_
  refine At.zh (.q 0 (.q 1 (.q 2 (.q 3 (.q 4 .done))))) ?_
  refine AtT.ze ?_
  refine AtT.ze ?_
  refine AtT.zf ?_
  refine AtT.zf ?_
  refine AtT.zf ?_
  refine AtT.done ?_
  refine At.nrm ?_
  refine At.giveSl (l:=ts) tne_len rfl rfl zN.zx (fun V4 hV4 hs4=>?_)
  exact At.ret3 rfl (.tmp rfl) (.tmp rfl) (.tmp rfl) ⟨b0,_,ts,rfl,hbn1.le hV4,hs4,by rw[hts,List.take_length]⟩
 have hkq:k<qs.length:=by omega
 have hkL:k<L.length:=by omega
 obtain⟨q,hqk⟩:∃ q,qs[k]? = some q:=⟨_,List.getElem?_eq_getElem hkq⟩
 obtain⟨t,htk⟩:∃ t,L[k]? = some t:=⟨_,List.getElem?_eq_getElem hkL⟩
 have htm:=List.mem_of_getElem? htk
 have hst0:=hqi k q t hqk htk
 have hst:=hst0.le hV1'
 have hne:=hL.ne t htm
 have his:=hL.is t htm
 have hle:=hL.le t htm
 have hbd:∀ x∈t,0≤x∧x<(ps.length:Int):=his.bd
 have htpos:0<t.length:=List.length_pos_iff.2 hne
 have hD0:∀ y∈t,y∉(L.take k).flatten:=fun y hy h=>by
  obtain⟨j,hj,rfl⟩:=List.getElem_of_mem hy
  exact nd_at hL.nod htk (List.getElem?_eq_getElem hj) (List.mem_append_left _ h)
 have hfk:=take_flat_len (L:=L) k
 have hfk1:=take_flat_len (L:=L) (k+1)
 rw[flat_step htk,List.length_append]at hfk1
 refine At.nrm ?_
 refine At.zh (.q 0 (.q 1 (.n false 2 (.n true 3 .done)))) ?_
 refine AtT.zU Tryz.underlying30 zQ ?_
 intro p38 e38 he38 hc38
 obtain rfl:q=e38:=by have:qs[k]? = some e38:=(by simpa using he38); rw[hqk]at this; simpa using this
 first | refine AtT.zk zQ ?_ | refine AtT.zo zQ ?_
 refine AtT.qE z22 ?_
 intro b16
 first | refine AtT.kstore1 zQ ?_ | refine AtT.qc zQ ?_
 refine AtT.done ?_
 refine At.nrm ?_
 obtain⟨aw,cw,hw4,hw5,hww⟩:=id hbn1
 obtain⟨aq,lq,cq⟩:=q
 dsimp only at hst0 hst
 obtain⟨at2,ct2,hqe,_,_,_⟩:=id hst
 cases hqe
 refine At.nrm ?_
 refine At.zh (.q 0 (.q 1 (.q 2 (.q 3 (.q 4 (.q 5 (.q 6 (.n false 7 (.q 8 (.q 9 (.q 10 .done))))))))))) ?_
 first | refine AtT.zk zQ ?_ | refine AtT.zo zQ ?_
 first | refine AtT.zK Tryz.underlying22 ?_ | refine AtT.zL Tryz.underlying22 ?_
 refine AtT.jR ?_
 refine AtT.qA (d:=43) rfl ((by omega)) ?_
 refine AtT.ze ?_
 all_goals (first | refine AtT.kL 44 ?_ | refine AtT.zD (d:=44) rfl (fun hg44=>?_) (fun hg44=>?_) | refine AtT.zC (d:=44) rfl (fun hg44=>?_) (fun hg44=>?_))
 all_goals first|refine AtT.zi ?_|refine AtT.zg ?_|(first | refine AtT.zk zQ ?_ | refine AtT.zo zQ ?_)
 all_goals first|refine AtT.zi ?_|refine AtT.zg ?_|(first | refine AtT.zk tk25 ?_ | refine AtT.zo tk25 ?_)
 all_goals first|refine AtT.zi ?_|refine AtT.zg ?_|(first | refine AtT.zK Tryz.underlying25 ?_ | refine AtT.zL Tryz.underlying25 ?_)
 all_goals first|refine AtT.jb ?_|refine AtT.qM ?_|((refine AtT.kcallL rfl rfl ok51 (fun VL hVL hOL=>rising_f t ps.length (by omega) his _ _ (hst.le hVL)) ?_);(rintro _ rfl))
 all_goals first|refine AtT.zi ?_|refine AtT.zg ?_|(refine AtT.knot ?_)
 all_goals (refine AtT.zF ?_)
 all_goals (refine AtT.zf ?_)
 all_goals refine AtT.done ?_
 all_goals (refine At.nrm ?_)
 refine At.qf rfl rfl ?_
 refine At.nrm ?_
 refine At.draw (.q 0 (.q 1 (.q 2 (.q 3 (.q 4 (.q 5 (.q 6 (.q 7 (.q 8 .done))))))))) ffm (by kernel_rfl) ?_
 first | refine AtT.zk zQ ?_ | refine AtT.zo zQ ?_
 first | refine AtT.zK Tryz.underlying22 ?_ | refine AtT.zL Tryz.underlying22 ?_
 refine AtT.ze ?_
 refine AtT.jI ?_
 first | refine AtT.zm jA ?_ | with_reducible refine AtT.zn jA ?_ | refine AtT.zq jA ?_
 first | refine AtT.zk zQ ?_ | refine AtT.zo zQ ?_
 first | refine AtT.zK Tryz.underlying22 ?_ | refine AtT.zL Tryz.underlying22 ?_
 refine AtT.qx ?_
 refine AtT.zf ?_
 refine AtT.done ?_
 refine At.nrm ?_
 refine At.qf rfl (decide_eq_false (by omega)) ?_
 refine At.nrm ?_
 refine At.zh (.q 0 (.q 1 (.n false 2 (.q 3 .done)))) ?_
 first | refine AtT.zk zQ ?_ | refine AtT.zo zQ ?_
 refine AtT.kfn ?_
 refine AtT.kcallL rfl rfl ok52 (fun VL hVL hOL=>pcontains_i 53 [.pointer (some ⟨b4,0,none⟩),.pointer (some ⟨b16,0,none⟩)] (fun _=>false) VL _ t (hst.le hVL) ok53 (fun y hy=>run1_f ps t (hL.heat t htm) hbd y hy VL _ _ _ _ (qj (hOL b4 _ (List.mem_cons_of_mem _ (List.mem_cons_self ..)))) (qj (hOL b16 _ (List.mem_cons_self ..))) (hp1.le hVL) (hst.le hVL))) ?_
 rintro _ rfl
 refine AtT.zf ?_
 refine AtT.done ?_
 refine At.nrm ?_
 have hany:(t.any fun _=>false)=false:=by simp
 refine At.qf rfl hany ?_
 refine At.nrm ?_
 refine At.zh (.q 0 (.q 1 (.n false 2 (.q 3 .done)))) ?_
 first | refine AtT.zk zQ ?_ | refine AtT.zo zQ ?_
 refine AtT.kfn ?_
 refine AtT.kcallL rfl rfl ok52 (fun VL hVL hOL=>pcontains_i 54 [.pointer (some ⟨b11,0,none⟩)] (fun _=>false) VL _ t (hst.le hVL) ok54 (fun y hy=>run2_f ps.length (L.take k).flatten y (hbd y hy) (hD0 y hy) VL _ _ (qj (hOL b11 _ (List.mem_cons_of_mem _ (List.mem_cons_of_mem _ (List.mem_cons_of_mem _ (List.mem_cons_self ..)))))) (had_sl (hOL b31 _ (List.mem_cons_of_mem _ (List.mem_cons_of_mem _ (List.mem_cons_self ..)))) hn))) ?_
 rintro _ rfl
 refine AtT.zf ?_
 refine AtT.done ?_
 refine At.nrm ?_
 refine At.qf rfl hany ?_
 refine At.nrm ?_
 refine At.zh (.q 0 (.q 1 (.q 2 .done))) ?_
 first | refine AtT.zk zQ ?_ | refine AtT.zo zQ ?_
 first | refine AtT.zK Tryz.underlying22 ?_ | refine AtT.zL Tryz.underlying22 ?_
 refine AtT.ze ?_
 refine AtT.done ?_
 refine At.nrm ?_
 refine At.lp (ι:=Nat) (KS:=fun j=>[(4,.pointer (some ⟨b4,0,none⟩)),(9,.pointer (some ⟨b0,0,none⟩)),(11,.pointer (some ⟨b11,0,none⟩)),(12,.slice ao ts.length co),(13,iv ht),(14,iv (L.take k).flatten.length),(16,.pointer (some ⟨b16,0,none⟩)),(34,.slice at' qs.length ct),(35,iv qs.length),(36,iv k),(68,.slice aq t.length cq),(69,iv t.length),(70,iv j)])
  (OS:=fun j=>[.blk b16 (LC [.slice aq t.length cq] 22),.blk b4 (LC [.slice ap ps.length cp] 25),.blk b31 (LC (flat ei (hadL ps.length ((L.take k).flatten++t.take j))) 3),.blk b11 (LC [.slice (some ⟨b31,0,none⟩) ps.length ps.length] 22),.row (.slice ao ts.length co) 58 3 ts.length (flat tne ts)])
  (VS:=fun j V'=>V'=V1∧j≤t.length) (μ:=fun j=>t.length-j) 0 ?_ ?_ ?_ ?_
 ·exact⟨rfl,rfl,rfl,rfl,rfl,rfl,rfl,rfl,rfl,rfl,rfl,rfl,rfl,trivial⟩
 ·rw[List.take_zero,List.append_nil]
  ·exact Pt.zx
 ·exact⟨rfl,Nat.zero_le _⟩
 rintro j V2 ks' O' ⟨rfl,hj1⟩ hk hO hl2
 subst hk hO
 refine At.nrm ?_
 refine At.zh (.q 0 .done) ?_
 refine AtT.qg ?_
 refine AtT.done ?_
 refine At.nrm ?_
 refine At.zZ rfl (fun hc3=>?_) (fun hc3=>?_)
 ·obtain⟨x,hx⟩:∃ x,t[j]? = some x:=⟨_,List.getElem?_eq_getElem (by omega)⟩
  have hxb:=hbd x (List.mem_of_getElem? hx)
  have hxD:=nd_at hL.nod htk hx
  have hset:=had_set (D:=(L.take k).flatten++t.take j) hxb
  rw[List.append_assoc,show t.take j++[x]=t.take (j+1)from by rw[List.take_succ_eq_append_getElem (by omega)]; congr 2; rw[List.getElem?_eq_getElem (by omega)]at hx; simpa using hx.symm]at hset
  refine At.nrm ?_
  refine At.zh (.q 0 (.q 1 (.q 2 .done))) ?_
  refine AtT.zU Tryz.underlying22 tk3 ?_
  intro p72 e72 he72 hc72
  obtain rfl:x=e72:=by have:t[j]? = some e72:=(by simpa using he72); rw[hx]at this; simpa using this
  first | refine AtT.zk tk3 ?_ | refine AtT.zo tk3 ?_
  refine AtT.zf ?_
  refine AtT.done ?_
  refine At.nrm ?_
  refine At.zh (.q 0 (.q 1 (.q 2 (.q 3 (.q 4 (.q 5 (.n true 6 .done))))))) ?_
  first | refine AtT.zk zQ ?_ | refine AtT.zo zQ ?_
  refine AtT.ze ?_
  refine AtT.kidxO Tryz.underlying22 tk3 ?_
  refine AtT.loadO rfl trivial rfl tk3 zN.zx (had_at0 hxb hxD) (by decide) ?_
  first | refine AtT.qm ?_ | refine AtT.zR ?_
  refine AtT.kidxO Tryz.underlying22 tk3 ?_
  refine AtT.store1 rfl trivial rfl rfl tk3 rfl rfl (by repeat first|exact Upd.here|apply Upd.there) hset ?_
  refine AtT.done ?_
  refine At.nrm ?_
  refine At.nrm ?_
  refine At.zh (.q 0 (.q 1 .done)) ?_
  first | refine AtT.qm ?_ | refine AtT.zR ?_
  refine AtT.ze ?_
  refine AtT.done ?_
  refine At.nrm ?_
  refine At.round (j+1) ?_ ?_ ?_ ?_
  ·show t.length-(j+1)<t.length-j; omega
  ·exact⟨rfl,by omega⟩
  ·exact⟨rfl,rfl,rfl,rfl,rfl,rfl,rfl,rfl,rfl,rfl,rfl,rfl,rfl,trivial⟩
  ·exact Pt.zx
 obtain rfl:j=t.length:=by omega
 rw[List.take_length,←flat_step htk]
 obtain⟨z,hz⟩:∃ z,t[0]? = some z:=⟨_,List.getElem?_eq_getElem htpos⟩
 have hzb:=hbd z (List.mem_of_getElem? hz)
 have hmany:some (iv (((L.take k).flatten.length:Nat)+(t.length:Nat):Int))=some (iv ((L.take (k+1)).flatten.length:Nat)):=ivs (by rw[flat_step htk,List.length_append]; omega)
 refine At.nrm ?_
 refine At.zh (.q 0 (.q 1 (.q 2 (.q 3 (.q 4 .done))))) ?_
 refine AtT.ze ?_
 first | refine AtT.zk zQ ?_ | refine AtT.zo zQ ?_
 first | refine AtT.zK Tryz.underlying22 ?_ | refine AtT.zL Tryz.underlying22 ?_
 first | refine AtT.qm ?_ | refine AtT.zR ?_
 refine AtT.zf ?_
 refine AtT.done ?_
 refine At.nrm ?_
 refine At.draw (.q 0 (.q 1 (.q 2 (.q 3 (.q 4 (.q 5 (.q 6 (.q 7 .done)))))))) ffm (by kernel_rfl) ?_
 first | refine AtT.zk tk25 ?_ | refine AtT.zo tk25 ?_
 first | refine AtT.zk zQ ?_ | refine AtT.zo zQ ?_
 refine AtT.zU Tryz.underlying22 tk3 ?_
 intro p87 e87 he87 hc87
 obtain rfl:z=e87:=by have:t[0]? = some e87:=(by simpa using he87); rw[hz]at this; simpa using this
 first | refine AtT.zk tk3 ?_ | refine AtT.zo tk3 ?_
 refine AtT.zU Tryz.underlying25 kN ?_
 intro p89 e89 he89 hc89
 first | refine AtT.zm zH ?_ | with_reducible refine AtT.zn zH ?_ | refine AtT.zq zH ?_
 first | refine AtT.zk tk3 ?_ | refine AtT.zo tk3 ?_
 refine AtT.zf ?_
 refine AtT.done ?_
 refine At.nrmB ?_
 refine At.cutG (ι:=Option Addr×Nat×Int×Int) (fun g=>[(4,.pointer (some ⟨b4,0,none⟩)),(9,.pointer (some ⟨b0,0,none⟩)),(11,.pointer (some ⟨b11,0,none⟩)),(12,.slice g.1 (ts.length+1) g.2.1),(14,iv (L.take (k+1)).flatten.length),(19,iv e89.h),(34,.slice at' qs.length ct),(35,iv qs.length),(36,iv k)])
  (fun g=>[.blk b4 (LC [.slice ap ps.length cp] 25),.blk b31 (LC (flat ei (hadL ps.length (L.take (k+1)).flatten)) 3),.blk b11 (LC [.slice (some ⟨b31,0,none⟩) ps.length ps.length] 22),.row (.slice g.1 (ts.length+1) g.2.1) 58 3 (ts.length+1) (flat tne (ts++[⟨(aq,t.length,cq),g.2.2.1,g.2.2.2⟩]))]) (fun g V'=>Le V2 V') ?_ ?_
 ·refine At.draw (.q 0 (.q 1 (.q 2 (.q 3 (.q 4 (.q 5 (.q 10 (.q 11 (.n false 6 (.q 7 (.q 8 (.q 9 (.n false 12 (.q 13 (.n false 14 (.n true 15 (.q 16 .done))))))))))))))))) ffm (by kernel_rfl) ?_
  refine AtT.ze ?_
  first | refine AtT.zk zQ ?_ | refine AtT.zo zQ ?_
  first | refine AtT.zk tk25 ?_ | refine AtT.zo tk25 ?_
  first | refine AtT.zk zQ ?_ | refine AtT.zo zQ ?_
  refine AtT.ze ?_
  refine AtT.kfn ?_
  refine AtT.ze ?_
  refine AtT.ze ?_
  refine AtT.zJ rfl rfl ok55 (bestT_f b0 _ (whl b) ps t hne hbd _ _ hbn1 hp1 hst) ?_
  rintro _ ⟨x,hx,rfl⟩; have hxb:=hbd x hx
  refine AtT.zU Tryz.underlying25 kN ?_
  intro p99 e99 he99 hc99
  first | refine AtT.zm qb ?_ | with_reducible refine AtT.zn qb ?_ | refine AtT.zq qb ?_
  first | refine AtT.zk tk2 ?_ | refine AtT.zo tk2 ?_
  refine AtT.zJ rfl rfl ok57 (far_f _ _ _) ?_
  rintro _ ⟨y,rfl⟩
  refine AtT.jk (bd58_0_1_2 _ _ _ _ _) ?_
  refine AtT.qi (bs54_1_0 _ _ _ _ _) ?_
  intro q106 V106 hV106 hq106
  have g106:Le V V106:=by first | exact hV106 | exact Le.trans (by assumption) hV106
  first | refine AtT.kX Tryz.underlying54 rw58 ?_
  intro a107 c107
  refine AtT.zf ?_
  refine AtT.done ?_
  refine At.nrm ?_
  all_goals (refine At.kH (a107,c107,e99.t,y) (by first | assumption | exact Le.refl _) ⟨rfl,rfl,rfl,rfl,hmany,rfl,rfl,rfl,rfl,trivial⟩ ?_)
  all_goals (dsimp only; rw[qB]; exact Pt.zx)
 rintro⟨a5,c5,h5,w5⟩ V3 ks' O' hV3 hk hO hl3
 dsimp only at hk hO
 subst hk hO
 refine At.nrm ?_
 refine At.zh (.q 0 (.q 1 .done)) ?_
 refine AtT.ze ?_
 refine AtT.zf ?_
 refine AtT.done ?_
 refine At.nrm ?_
 refine At.nrm ?_
 refine At.zh (.q 0 (.q 1 .done)) ?_
 first | refine AtT.qm ?_ | refine AtT.zR ?_
 refine AtT.ze ?_
 refine AtT.done ?_
 refine At.nrm ?_
 refine At.round (k+1,a5,c5,ts++[⟨(aq,t.length,cq),h5,w5⟩],e89.h) ?_ ?_ ?_ ?_
 ·show qs.length-(k+1)<qs.length-k; omega
 ·refine⟨hV1.trans hV3,by dsimp only; omega,?_⟩
  dsimp only
  rw[List.map_append,hts,List.take_succ_eq_append_getElem hkq]
  congr 1
  rw[List.getElem?_eq_getElem hkq]at hqk
  simpa using hqk.symm
 ·dsimp only; rw[List.length_append]; exact⟨rfl,rfl,rfl,rfl,rfl,rfl,rfl,rfl,rfl,trivial⟩
 ·dsimp only; rw[List.length_append]; exact Pt.zx
end Go.Proofs.YtfmmggphdeiajaaGreatDoor.P
end
section
set_option linter.unusedVariables false
namespace Go.Proofs.YtfmmggphdeiajaaGreatDoor.P
open Go.Lw Go.Ps Go.RowKit
open Go.Gl (iv ivs qB)
theorem lie_set {n:Nat} {xs:List Int} {x y:Int} (hl:xs.length=n) (hx:0≤x∧x<n):SetAt (flat ei xs) (0+x.toNat*1) (iv y) (flat ei (xs.set x.toNat y)):=by
 refine setAt_of (by rw[qa Lw.jd]; omega) ?_
 rw[jg,jg,Nat.zero_add,Nat.mul_one,List.map_set]
set_option maxHeartbeats 1600000 in
theorem lie_f (b:Bd) (hb:BdOk b) (a:Option Addr) (c:Nat) (ps:List Pp) (hps:PpOk ps) (L:List (List Int)) (hL:TnOk ps (whl b).length L) (V:View) (pv tv:Value) (hs:SlI V (.slice a b.br.length c) b.br) (hp:Sl V ppe 2 pv ps) (hq:SLL V tv L) :
  Fnc Tryz.prog 7 [bdv b a c,pv,tv] V fun r V'=>∃ u xs,r=.tuple #[u,iv 0]∧SlI V' u xs∧LieP (whl b) L ps.length L.length 0 xs:=by
 have hlenp:=hp.qI
 have hn:=hps.n
 have hwn:=whl_len hb
 have hLn:=flat_cnt hL.ne
 have hfl:=tn_len hL
 obtain⟨qs,hq,hql,hqi⟩:=hq
 have hlenq:=hq.qI
 obtain⟨at',ct,rfl,k3,k4,_⟩:=id hq
 clear k3 k4
 obtain⟨ap,cp,rfl,k1,k2,_⟩:=id hp
 clear k1 k2
 refine zS Tryz.func7 rfl Tryz.ntmps7 (Nat.le_of_ble_eq_true rfl) ?_
 intro w0 hw0
 refine At.nrm ?_
 refine At.zh (.n false 0 (.q 1 (.q 2 .done))) ?_
 refine AtT.jS ?_
 intro b3
 refine AtT.zf ?_
 refine AtT.zf ?_
 refine AtT.done ?_
 refine At.nrm ?_
 refine At.zh (.q 0 (.q 1 (.q 2 (.n false 3 (.q 4 (.q 5 (.q 6 (.q 7 (.q 8 (.q 9 (.q 10 .done))))))))))) ?_
 first | refine AtT.zB qz ?_ | refine AtT.zM qz ?_ | refine AtT.zA qz ?_
 refine AtT.ze ?_
 refine AtT.ze ?_
 refine AtT.jQ rfl rfl ok20 (run_f b hb a c ps hps L hL _ _ at' ct qs hs hp hq hql hqi) ?_
 rintro _ V20 hV20 ⟨b0,u,ts,rfl,hbn,hts,htq⟩
 refine AtT.ze ?_
 refine AtT.zI ?_
 refine AtT.zI ?_
 refine AtT.zI ?_
 refine AtT.zf ?_
 refine AtT.zf ?_
 refine AtT.zf ?_
 refine AtT.done ?_
 refine At.nrm ?_
 have htl:ts.length=L.length:=by have:=congrArg List.length htq; rw[List.length_map]at this; omega
 obtain⟨au,cu,rfl,k5,k6,_⟩:=id hts
 clear k5 k6
 have hlent:=hts.qI
 refine At.zh (.q 0 (.q 1 .done)) ?_
 refine AtT.ze ?_
 refine AtT.jV ?_
 refine AtT.done ?_
 refine At.nrm ?_
 refine At.qf rfl rfl ?_
 refine At.nrm ?_
 refine At.zh (.q 0 (.q 1 (.n false 2 (.q 3 .done)))) ?_
 refine AtT.ze ?_
 first | refine AtT.zK Tryz.underlying25 ?_ | refine AtT.zL Tryz.underlying25 ?_
 refine AtT.makeSl rfl trivial ei rfl Tryz.underlying22 rw3 rfl rfl (by decide) rfl rfl (by omega) (by omega) (by decide) (m:=ps.length) (za:=(0:Int)) ?_
 intro b29
 refine AtT.zf ?_
 refine AtT.done ?_
 refine At.nrm ?_
 refine At.zh (.q 0 (.q 1 (.q 2 .done))) ?_
 refine AtT.ze ?_
 first | refine AtT.zK Tryz.underlying54 ?_ | refine AtT.zL Tryz.underlying54 ?_
 refine AtT.ze ?_
 refine AtT.done ?_
 refine At.nrm ?_
 refine At.lp (ι:=Nat×List Int) (KS:=fun g=>[(8,.pointer (some ⟨b0,0,none⟩)),(11,.slice (some ⟨b29,0,none⟩) ps.length ps.length),(30,.slice au ts.length cu),(31,iv ts.length),(32,iv g.1)])
  (OS:=fun g=>[.blk b29 (LC (flat ei g.2) 3)]) (VS:=fun g V'=>V'=V20∧g.1≤ts.length∧LieP (whl b) L ps.length g.1 0 g.2) (μ:=fun g=>ts.length-g.1) (0,List.replicate ps.length 0) ?_ ?_ ?_ ?_
 ·exact⟨rfl,rfl,rfl,rfl,rfl,trivial⟩
 ·exact Pt.zx
 ·exact⟨rfl,Nat.zero_le _,⟨List.length_replicate,fun k' t' j' x a b c=>by omega⟩⟩
 rintro⟨k,xs⟩ V1 ks' O' ⟨rfl,hk1,hx0⟩ hk hO hl1
 dsimp only at hk1 hx0 hk hO
 subst hk hO
 refine At.nrm ?_
 refine At.zh (.q 0 .done) ?_
 refine AtT.qg ?_
 refine AtT.done ?_
 refine At.nrm ?_
 refine At.zZ rfl (fun hc=>?_) (fun hc=>?_)
 rotate_left
 ·obtain rfl:k=ts.length:=by omega
  refine At.nrm ?_
  refine At.giveB (b:=b29) zN.zx (fun V6 hV6 hb6=>?_)
  refine At.zh (.q 0 (.q 1 (.q 2 .done))) ?_
  refine AtT.ze ?_
  refine AtT.zf ?_
  refine AtT.zf ?_
  refine AtT.done ?_
  refine At.nrm ?_
  refine At.ret2 rfl (.tmp rfl) (.tmp rfl) ⟨_,xs,rfl,?_,by rw[←htl]; exact hx0⟩
  have:=Sl.of_cells (l:=xs) Lw.jd (qj hb6) (Nat.le_refl _) (by rw[hx0.len]; unfold maxLen; omega)
  rwa[hx0.len]at this
 obtain⟨tn,htn⟩:∃ tn,ts[k]? = some tn:=⟨_,List.getElem?_eq_getElem (by omega)⟩
 obtain⟨t,htk⟩:∃ t,L[k]? = some t:=⟨_,List.getElem?_eq_getElem (by omega)⟩
 have hqk:qs[k]? = some tn.q:=by rw[←htq,List.getElem?_map,htn]; rfl
 have hst:=(hqi k tn.q t hqk htk).le hV20
 have htm:=List.mem_of_getElem? htk
 have his:=hL.is t htm
 have hle:=hL.le t htm
 obtain⟨⟨aq,lq,cq⟩,hh,ww⟩:=tn
 dsimp only at hst
 obtain⟨at2,ct2,hqe,_,_,_⟩:=id hst
 cases hqe
 refine At.nrm ?_
 refine At.zh (.q 0 (.q 1 (.n false 2 (.n true 3 .done)))) ?_
 refine AtT.zU Tryz.underlying54 tk58 ?_
 intro p34 e34 he34 hc34
 obtain rfl:(⟨(aq,t.length,cq),hh,ww⟩:Tn)=e34:=by have:ts[k]? = some e34:=(by simpa using he34); rw[htn]at this; simpa using this
 first | refine AtT.zB tk58 ?_ | refine AtT.zM tk58 ?_ | refine AtT.zA tk58 ?_
 refine AtT.qE z58 ?_
 intro b13
 refine AtT.qc tk58 ?_
 refine AtT.done ?_
 refine At.nrm ?_
 refine At.zh (.q 0 (.q 1 (.q 2 (.q 3 .done)))) ?_
 first | refine AtT.zm fo58_0 ?_ | with_reducible refine AtT.zn fo58_0 ?_ | refine AtT.zq fo58_0 ?_
 first | refine AtT.zk zQ ?_ | refine AtT.zo zQ ?_
 first | refine AtT.zK Tryz.underlying22 ?_ | refine AtT.zL Tryz.underlying22 ?_
 refine AtT.ze ?_
 refine AtT.done ?_
 refine At.nrm ?_
 refine At.lp (ι:=Nat×List Int) (KS:=fun g=>[(8,.pointer (some ⟨b0,0,none⟩)),(11,.slice (some ⟨b29,0,none⟩) ps.length ps.length),(30,.slice au ts.length cu),(31,iv ts.length),(32,iv k),(37,.slice aq t.length cq),(38,iv t.length),(39,iv g.1)])
  (OS:=fun g=>[.blk b29 (LC (flat ei g.2) 3)]) (VS:=fun g V'=>V'=V1∧g.1≤t.length∧LieP (whl b) L ps.length k g.1 g.2) (μ:=fun g=>t.length-g.1) (0,xs) ?_ ?_ ?_ ?_
 ·exact⟨rfl,rfl,rfl,rfl,rfl,rfl,rfl,rfl,trivial⟩
 ·exact Pt.zx
 ·exact⟨rfl,Nat.zero_le _,hx0⟩
 rintro⟨j,ys⟩ V2 ks' O' ⟨rfl,hj1,hy0⟩ hk hO hl2
 dsimp only at hj1 hy0 hk hO
 subst hk hO
 refine At.nrm ?_
 refine At.zh (.q 0 .done) ?_
 refine AtT.qg ?_
 refine AtT.done ?_
 refine At.nrm ?_
 refine At.zZ rfl (fun hc2=>?_) (fun hc2=>?_)
 ·obtain⟨x,hx⟩:∃ x,t[j]? = some x:=⟨_,List.getElem?_eq_getElem (by omega)⟩
  have hxb:=his.bd x (List.mem_of_getElem? hx)
  obtain⟨y,hy⟩:∃ y,(whl b)[j]? = some y:=⟨_,List.getElem?_eq_getElem (by omega)⟩
  have hset:=lie_set (y:=y) hy0.len hxb
  obtain⟨aw,cw,hw4,hw5,hww⟩:=id hbn
  have hlenw:=hww.qI
  refine At.nrm ?_
  refine At.zh (.q 0 (.q 1 (.q 2 (.q 3 (.q 4 .done))))) ?_
  refine AtT.ze ?_
  refine AtT.zU Tryz.underlying22 tk3 ?_
  intro p42 e42 he42 hc42
  obtain rfl:x=e42:=by have:t[j]? = some e42:=(by simpa using he42); rw[hx]at this; simpa using this
  first | refine AtT.zk tk3 ?_ | refine AtT.zo tk3 ?_
  refine AtT.zf ?_
  refine AtT.zf ?_
  refine AtT.done ?_
  refine At.nrm ?_
  refine At.zh (.q 0 (.q 1 (.q 2 (.q 3 (.q 4 (.q 5 (.q 6 (.q 7 (.q 8 (.q 9 (.n true 10 .done))))))))))) ?_
  refine AtT.ze ?_
  refine AtT.ze ?_
  refine AtT.ze ?_
  refine AtT.jI ?_
  first | refine AtT.zm jA ?_ | with_reducible refine AtT.zn jA ?_ | refine AtT.zq jA ?_
  first | refine AtT.zk zQ ?_ | refine AtT.zo zQ ?_
  refine AtT.ze ?_
  refine AtT.zU Tryz.underlying22 tk3 ?_
  intro p51 e51 he51 hc51
  obtain rfl:y=e51:=by have:(whl b)[j]? = some e51:=(by simpa using he51); rw[hy]at this; simpa using this
  first | refine AtT.zk tk3 ?_ | refine AtT.zo tk3 ?_
  refine AtT.kidxO Tryz.underlying22 tk3 ?_
  refine AtT.store1 rfl trivial rfl rfl tk3 rfl rfl (by repeat first|exact Upd.here|apply Upd.there) hset ?_
  refine AtT.done ?_
  refine At.nrm ?_
  refine At.nrm ?_
  refine At.zh (.q 0 (.q 1 .done)) ?_
  first | refine AtT.qm ?_ | refine AtT.zR ?_
  refine AtT.ze ?_
  refine AtT.done ?_
  refine At.nrm ?_
  refine At.round (j+1,ys.set x.toNat y) ?_ ?_ ?_ ?_
  ·show t.length-(j+1)<t.length-j; omega
  ·exact⟨rfl,by dsimp only; omega,hy0.step hL.nod (fun t' ht' x' hx'=>(hL.is t' ht').bd x' hx') htk hx hy⟩
  ·exact⟨rfl,rfl,rfl,rfl,rfl,rfl,rfl,rfl,trivial⟩
  ·exact Pt.zx
 refine At.nrm ?_
 refine At.zh (.q 0 (.q 1 .done)) ?_
 first | refine AtT.qm ?_ | refine AtT.zR ?_
 refine AtT.ze ?_
 refine AtT.done ?_
 refine At.nrm ?_
 refine At.round (k+1,ys) ?_ ?_ ?_ ?_
 ·show ts.length-(k+1)<ts.length-k; omega
 ·exact⟨rfl,by dsimp only; omega,hy0.next htk (by omega)⟩
 ·exact⟨rfl,rfl,rfl,rfl,rfl,trivial⟩
 ·exact Pt.zx
theorem whole_f (b:Bd) (hb:BdOk b) (a:Option Addr) (c:Nat) (V:View) (hs:SlI V (.slice a b.br.length c) b.br) :
  Fnc Tryz.prog 8 [bdv b a c] V fun r V'=>∃ u,r=.tuple #[u,iv 0]∧SlI V' u (whl b):=by
 have hwn:=whl_len hb
 have hps:PpOk []:=⟨by decide,fun p hp=>by cases hp⟩
 refine zS Tryz.func8 rfl Tryz.ntmps8 (Nat.le_of_ble_eq_true rfl) ?_
 intro w0 hw0
 refine At.nrm ?_
 refine At.zh (.n false 0 (.q 1 (.q 2 .done))) ?_
 refine AtT.jS ?_
 intro b1
 refine AtT.zf ?_
 refine AtT.zf ?_
 refine AtT.done ?_
 refine At.nrm ?_
 refine At.zh (.q 0 (.n false 1 (.q 2 .done))) ?_
 first | refine AtT.zB qz ?_ | refine AtT.zM qz ?_ | refine AtT.zA qz ?_
 refine AtT.zJ rfl rfl ok21 (pCheckBed_f b hb a c _ hs) ?_
 rintro _ rfl
 refine AtT.zf ?_
 refine AtT.done ?_
 refine At.nrm ?_
 refine At.zh (.q 0 (.q 1 .done)) ?_
 refine AtT.ze ?_
 refine AtT.jV ?_
 refine AtT.done ?_
 refine At.nrm ?_
 refine At.qf rfl rfl ?_
 refine At.nrm ?_
 refine At.zh (.q 0 (.n false 1 (.q 2 (.q 3 (.q 4 (.q 5 .done)))))) ?_
 first | refine AtT.zB qz ?_ | refine AtT.zM qz ?_ | refine AtT.zA qz ?_
 refine AtT.jQ rfl rfl ok22 (newBench_f b hb a c [] hps _ _ hs (Sl.nil _ _ _)) ?_
 rintro _ V13 hV13 ⟨b0,rfl,hbn⟩; obtain⟨aw,cw,hw4,hw5,hww⟩:=id hbn
 refine AtT.jI ?_
 first | refine AtT.zm jA ?_ | with_reducible refine AtT.zn jA ?_ | refine AtT.zq jA ?_
 first | refine AtT.zk zQ ?_ | refine AtT.zo zQ ?_
 refine AtT.zf ?_
 refine AtT.done ?_
 refine At.nrm ?_
 refine At.zh (.q 0 (.q 1 (.n false 2 (.q 3 .done)))) ?_
 refine AtT.ze ?_
 first | refine AtT.zK Tryz.underlying22 ?_ | refine AtT.zL Tryz.underlying22 ?_
 refine AtT.makeSl rfl trivial ei rfl Tryz.underlying22 rw3 rfl rfl (by decide) rfl rfl (by omega) (by omega) (by decide) (m:=(whl b).length) (za:=(0:Int)) ?_
 intro b19
 refine AtT.zf ?_
 refine AtT.done ?_
 refine At.nrm ?_
 have hlen0:(flat ei (List.replicate (whl b).length (0:Int))).length=(whl b).length*1:=by rw[qa Lw.jd,List.length_replicate]
 refine At.zh (.q 0 (.q 1 (.n true 2 .done))) ?_
 refine AtT.ze ?_
 refine AtT.ze ?_
 refine AtT.copyO rfl trivial Tryz.underlying22 tk3 rfl rfl hww Lw.jd (fun _=>rfl) hlen0 (by repeat first|exact Upd.here|apply Upd.there) (by decide) ?_
 refine AtT.done ?_
 refine At.nrm ?_
 refine At.giveB (b:=b19) zN.zx (fun V6 hV6 hb6=>?_)
 refine At.zh (.q 0 (.q 1 (.q 2 .done))) ?_
 refine AtT.ze ?_
 refine AtT.zf ?_
 refine AtT.zf ?_
 refine AtT.done ?_
 refine At.nrm ?_
 exact At.ret2 rfl (.tmp rfl) (.tmp rfl) ⟨_,rfl,Sl.of_cells (l:=whl b) Lw.jd (qj hb6) (Nat.le_refl _) (by unfold maxLen; omega)⟩
end Go.Proofs.YtfmmggphdeiajaaGreatDoor.P
end
section
set_option linter.unusedVariables false
namespace Go.Ps
open Go.Lw
structure TnP (ps:List Pp) (w m:Nat) (L:List (List Int)):Prop where
 ne:∀ t∈L,t≠[]
 is:∀ t∈L,IsL t m
 le:∀ t∈L,t.length≤w
 heat:∀ t∈L,∀ i∈t,∀ j∈t,hAt ps i=hAt ps j
 nod:L.flatten.Nodup
 all:∀ i:Nat,i<m→(i:Int)∈L.flatten
theorem TnP.ok {ps:List Pp} {w:Nat} {L:List (List Int)} (h:TnP ps w ps.length L):TnOk ps w L:=⟨h.ne,h.is,h.le,h.heat,h.nod,h.all⟩
theorem TnP.nil (ps:List Pp) (w:Nat):TnP ps w 0 []:=⟨fun t h=>by(cases h),fun t h=>by(cases h),fun t h=>by(cases h),fun t h=>by(cases h),List.nodup_nil,fun i h=>by omega⟩
theorem TnP.bd {ps:List Pp} {w m:Nat} {L:List (List Int)} (h:TnP ps w m L) {x:Int} (hx:x∈L.flatten):0≤x∧x<m:=by
 obtain⟨t,ht,hxt⟩:=List.mem_flatten.1 hx
 exact(h.is t ht).bd x hxt
theorem TnP.cnt {ps:List Pp} {w m:Nat} {L:List (List Int)} (h:TnP ps w m L):L.length≤m:=by
 have h1:=flat_cnt h.ne
 have sub1:L.flatten ⊆ (List.range m).map Int.ofNat:=fun x hx=>by
  have:=h.bd hx
  exact List.mem_map.2 ⟨x.toNat,List.mem_range.2 (by omega),Int.toNat_of_nonneg (by omega)⟩
 have h2:=List.Nodup.length_le_of_subset h.nod sub1
 rw[List.length_map,List.length_range]at h2
 omega
theorem IsL.more {l:List Int} {m:Nat} (h:IsL l m):IsL (l++[(m:Int)]) (m+1:Nat):=by
 refine⟨fun x hx=>?_,List.pairwise_append.2 ⟨h.up,List.pairwise_singleton _ _,fun a ha b hb=>?_⟩⟩
 ·rcases List.mem_append.1 hx with c | c
  ·have:=h.bd x c; omega
  ·obtain rfl:x=(m:Int):=by simpa using c
   omega
 ·obtain rfl:b=(m:Int):=by simpa using hb
  exact(h.bd a ha).2
theorem IsL.wide {l:List Int} {m:Nat} (h:IsL l m):IsL l (m+1:Nat):=⟨fun x hx=>by have:=h.bd x hx; omega,h.up⟩
theorem TnP.add {ps:List Pp} {w m k:Nat} {L:List (List Int)} {t:List Int} {z:Int} (h:TnP ps w m L) (hk:L[k]? = some t) (hz:t[0]? = some z) (hh:hAt ps z=hAt ps (m:Int)) (hw:t.length<w):TnP ps w (m+1) (L.set k (t++[(m:Int)])):=by
 obtain⟨hkl,rfl⟩:=List.getElem?_eq_some_iff.1 hk
 have htm:L[k]∈L:=List.getElem_mem hkl
 have hzm:z∈L[k]:=List.mem_of_getElem? hz
 have hset:∀ t∈L.set k (L[k]++[(m:Int)]),t∈L∨t=L[k]++[(m:Int)]:=fun t ht=>(List.mem_or_eq_of_mem_set ht)
 have hm:(m:Int)∉L.flatten:=fun hm=>by have:=h.bd hm; omega
 have hperm:(L.set k (L[k]++[(m:Int)])).flatten.Perm ((m:Int)::L.flatten):=by
  have e1:(L.set k (L[k]++[(m:Int)])).flatten=(L.take k).flatten++((L[k]++[(m:Int)])++(L.drop (k+1)).flatten):=by
   rw[List.set_eq_take_append_cons_drop,if_pos hkl,List.flatten_append,List.flatten_cons]
  rw[e1,flat_split (List.getElem?_eq_getElem hkl),List.append_assoc]
  have e2:(L.take k).flatten++(L[k]++([(m:Int)]++(L.drop (k+1)).flatten))=((L.take k).flatten++L[k])++((m:Int)::(L.drop (k+1)).flatten):=by simp
  rw[e2,←List.append_assoc]
  exact List.perm_middle
 refine⟨fun t ht=>?_,fun t ht=>?_,fun t ht=>?_,fun t ht=>?_,?_,fun i hi=>?_⟩
 ·rcases hset t ht with c | rfl
  ·exact h.ne t c
  ·simp
 ·rcases hset t ht with c | rfl
  ·exact(h.is t c).wide
  ·exact(h.is _ htm).more
 ·rcases hset t ht with c | rfl
  ·exact h.le t c
  ·rw[List.length_append]; simp only[List.length_cons,List.length_nil]; omega
 ·rcases hset t ht with c | rfl
  ·exact h.heat t c
  ·have key:∀ i∈L[k]++[(m:Int)],hAt ps i=hAt ps (m:Int):=fun i hi=>by
    rcases List.mem_append.1 hi with c | c
    ·rw[←hh]; exact h.heat _ htm i c z hzm
    ·rw[show i=(m:Int)from by simpa using c]
   intro i hi j hj
   rw[key i hi,key j hj]
 ·exact hperm.nodup_iff.2 (List.nodup_cons.2 ⟨hm,h.nod⟩)
 ·rw[hperm.mem_iff,List.mem_cons]
  rcases Nat.lt_or_ge i m with c | c
  ·exact .inr (h.all i c)
  ·exact .inl (by omega)
theorem TnP.new {ps:List Pp} {w m:Nat} {L:List (List Int)} (h:TnP ps w m L) (hw:1≤w):TnP ps w (m+1) (L++[[(m:Int)]]):=by
 have hm:(m:Int)∉L.flatten:=fun hm=>by have:=h.bd hm; omega
 have hf:(L++[[(m:Int)]]).flatten=L.flatten++[(m:Int)]:=by rw[List.flatten_append]; simp
 have hset:∀ t∈L++[[(m:Int)]],t∈L∨t=[(m:Int)]:=fun t ht=>by
  rcases List.mem_append.1 ht with c | c
  ·exact .inl c
  ·exact .inr (by simpa using c)
 refine⟨fun t ht=>?_,fun t ht=>?_,fun t ht=>?_,fun t ht=>?_,?_,fun i hi=>?_⟩
 ·rcases hset t ht with c | rfl
  ·exact h.ne t c
  ·simp
 ·rcases hset t ht with c | rfl
  ·exact(h.is t c).wide
  ·have:IsL ([]:List Int) m:=⟨fun x hx=>by(cases hx),List.Pairwise.nil⟩
   exact this.more
 ·rcases hset t ht with c | rfl
  ·exact h.le t c
  ·exact hw
 ·rcases hset t ht with c | rfl
  ·exact h.heat t c
  ·intro i hi j hj
   rw[show i=(m:Int)from by simpa using hi,show j=(m:Int)from by simpa using hj]
 ·rw[hf]
  exact List.nodup_append.2 ⟨h.nod,by simp,fun a ha b hb=>by rw[show b=(m:Int)from by simpa using hb]; rintro rfl; exact hm ha⟩
 ·rw[hf,List.mem_append]
  rcases Nat.lt_or_ge i m with c | c
  ·exact .inl (h.all i c)
  ·exact .inr (by rw[show i=m by omega]; simp)
end Go.Ps
end
section
set_option linter.unusedVariables false
namespace Go.Lw
open Go.RowKit
def rowsO {α:Type} (E:TypeId) (s:Nat) (enc:α→List Value) (RS:List (Option Addr×Nat×List α)):List Own:=RS.map fun r=>.row (.slice r.1 r.2.2.length r.2.1) E s r.2.2.length (flat enc r.2.2)
def LentL {α:Type} (E:TypeId) (s:Nat) (enc:α→List Value):View→View→List (Option Addr×Nat×List α)→Prop
 | V,V2,[]=>Le V V2
 | V,V2,r::RS=>∃ Va,Le V Va∧Lent V Va r.1 r.2.1 E s r.2.2.length (flat enc r.2.2)∧LentL E s enc Va V2 RS
section
variable {α:Type} {E:TypeId} {s:Nat} {enc:α→List Value}
theorem LentL.le:∀ {RS:List (Option Addr×Nat×List α)} {V V2:View},LentL E s enc V V2 RS→Le V V2
 | [],_,_,h=>h
 | _::_,_,_,⟨_,h1,_,h3⟩=>h1.trans h3.le
theorem LentL.sl (he:∀ x,(enc x).length=s):∀ {RS:List (Option Addr×Nat×List α)} {V V2:View},LentL E s enc V V2 RS→∀ r∈RS,Sl V2 enc s (.slice r.1 r.2.2.length r.2.1) r.2.2
 | [],_,_,_,r,hr=>by cases hr
 | x::RS,_,_,⟨_,h1,h2,h3⟩,r,hr=>by
  rcases List.mem_cons.1 hr with rfl | hr
  ·exact(h2.sl he).le h3.le
  ·exact h3.sl he r hr
variable {cx:Cx} {n:Nat} {ks:List (Nat×Value)} {O R:List Own} {V:View} {w:World} {K:Act→World→Prop}
theorem At.lendL:∀ {RS:List (Option Addr×Nat×List α)} {V:View},(∀ V2,LentL E s enc V V2 RS→At cx n ks R V2 K)→At cx n ks (rowsO E s enc RS++R) V K
 | [],V,h=>h V (Le.refl V)
 | r::RS,V,h=>At.lend (O:=rowsO E s enc (r::RS)++R) zN.here fun Va h1 h2=>At.lendL (RS:=RS) fun V2 h3=>h V2 ⟨Va,h1,h2,h3⟩
theorem At.regainL:∀ {RS:List (Option Addr×Nat×List α)} {V1 V2 V3:View},LentL E s enc V1 V2 RS→Le V2 V3→Le cx.V0 V1→(∀ V4,Le V1 V4→At cx n ks (rowsO E s enc RS++O) V4 K)→At cx n ks O V3 K
 | [],V1,V2,V3,hL,h23,_,h=>h V3 (Le.trans hL h23)
 | r::RS,V1,V2,V3,⟨Va,h1,h2,h3⟩,h23,h0,h=>At.regainL (RS:=RS) h3 h23 (h0.trans h1) fun V4 h4=>At.regain (O:=rowsO E s enc RS++O) h2 h1 h4 h0 fun V5 h5=>h V5 h5
theorem erase_perm {γ:Type} : ∀ {l:List γ} {k:Nat} (h:k<l.length),l.Perm (l[k]::l.eraseIdx k)
 | x::l,0,_=>.refl _
 | x::l,k+1,h=>by
  rw[List.getElem_cons_succ,List.eraseIdx_cons_succ]
  exact((erase_perm (l:=l) (k:=k) (by simpa using h)).cons x).trans (.swap _ _ _)
theorem rowsO_at {RS:List (Option Addr×Nat×List α)} {k:Nat} (h:k<RS.length):(rowsO E s enc RS).Perm (.row (.slice RS[k].1 RS[k].2.2.length RS[k].2.1) E s RS[k].2.2.length (flat enc RS[k].2.2)::rowsO E s enc (RS.eraseIdx k)):=by
 have:=(erase_perm h).map fun r:Option Addr×Nat×List α=>Own.row (.slice r.1 r.2.2.length r.2.1) E s r.2.2.length (flat enc r.2.2)
 exact this
theorem rowsO_set {RS:List (Option Addr×Nat×List α)} {k:Nat} (h:k<RS.length) (y:Option Addr×Nat×List α):(rowsO E s enc (RS.set k y)).Perm (.row (.slice y.1 y.2.2.length y.2.1) E s y.2.2.length (flat enc y.2.2)::rowsO E s enc (RS.eraseIdx k)):=by
 have:=rowsO_at (E:=E) (s:=s) (enc:=enc) (RS:=RS.set k y) (k:=k) (by rw[List.length_set]; exact h)
 rw[List.getElem_set_self,List.eraseIdx_set_eq]at this
 exact this
theorem rowsO_snoc (RS:List (Option Addr×Nat×List α)) (y:Option Addr×Nat×List α):rowsO E s enc (RS++[y])=rowsO E s enc RS++[.row (.slice y.1 y.2.2.length y.2.1) E s y.2.2.length (flat enc y.2.2)]:=by
 unfold rowsO; rw[List.map_append]; rfl
end
end Go.Lw
end
section
namespace Go.Gl
def prevN (l:List Int):Nat→Int
 | 0=>0
 | k+1=>l.getD k 0+1
def okAt (l:List Int) (below:Int) (k:Nat):Bool:=decide (0≤l.getD k 0∧prevN l k≤l.getD k 0∧l.getD k 0<below)
def lstB (l:List Int) (below:Int):Bool:=(List.range l.length).all (okAt l below)
theorem lstB_true {l:List Int} {below:Int} (h:∀ j,j<l.length→okAt l below j=true):lstB l below=true:=by
 unfold lstB; rw[List.all_eq_true]; intro j hj; exact h j (List.mem_range.1 hj)
theorem lstB_at {l:List Int} {below:Int} (h:lstB l below=true) {j:Nat} (hj:j<l.length):okAt l below j=true:=by
 unfold lstB at h; rw[List.all_eq_true]at h; exact h j (List.mem_range.2 hj)
theorem lstB_false {l:List Int} {below:Int} {k:Nat} (hk:k<l.length) (h:okAt l below k=false):lstB l below=false:=by
 cases hb:lstB l below with
 | false=>rfl
 | true=>rw[lstB_at hb hk]at h; cases h
theorem prevN_pos {l:List Int} {below:Int} : ∀ {k:Nat},(∀ j,j<k→okAt l below j=true)→0≤prevN l k
 | 0,_=>Int.le_refl 0
 | k+1,h=>by
  have:=h k (by omega)
  simp only[okAt,decide_eq_true_eq]at this
  simp only[prevN]; omega
theorem lstB_in {l:List Int} {below:Int} (h:lstB l below=true):∀ i∈l,0≤i∧i<below:=fun i hi=>by
 obtain⟨k,hk⟩:=List.getElem?_of_mem hi
 have hlt:=(List.getElem?_eq_some_iff.1 hk).1
 have:=lstB_at h hlt
 have e:l.getD k 0=i:=by simp[List.getD,hk]
 simp only[okAt,decide_eq_true_eq,e]at this
 omega
end Go.Gl
end
section
namespace Go.Gl
def batN (l:List Int):Int:=l.foldl (fun n x=>max n (x+1)) 0
def ofK (l:List Int) (b:Int):Nat→List Int
 | 0=>[]
 | k+1=>if l.getD k 0=b then ofK l b k++[(k:Int)]else ofK l b k
def ofL (l:List Int) (b:Int):List Int:=ofK l b l.length
end Go.Gl
end
section
namespace Go.Gl
def leastAt (l:List Int) (row:Bool) (k:Nat):Int:=if row=true∧0<k then l.getD (k-1) 0 else 0
def plAt (l:List Int) (row:Bool) (k:Nat):Bool:=decide (leastAt l row k≤l.getD k 0∧l.getD k 0≤batN (l.take k))
def planB (l:List Int) (row:Bool):Bool:=(List.range l.length).all (plAt l row)
end Go.Gl
end
section
namespace Go.Gl
def fromTo (a b:Int):List Int:=(List.range (b+1-a).toNat).map fun(i:Nat)=>a+(i:Int)
def ql (A:Nat):Nat→List Int
 | 0=>[]
 | k+1=>if A.testBit k=true then ql A k++[(k:Int)]else ql A k
def sm (B:Bn) (p:Nat→Bool):Nat→Sm
 | 0=>sm0
 | k+1=>if p k=true then (sm B p k).and (eachP B (k:Int))else sm B p k
def rowF (B:Bn):Nat→Nat×Nat
 | 0=>(0,0)
 | k+1=>if fitE B (sumL B (fromTo ((rowF B k).1:Int) (k:Int)))≠0 then (k,(rowF B k).2+1)else rowF B k
structure RowSt (B:Bn) (k:Nat):Prop where
 lt:(rowF B k).1<k
 same:∀ j,(rowF B k).1≤j→j<k→(rowF B (j+1)).2=(rowF B k).2
 less:∀ j,j<(rowF B k).1→(rowF B (j+1)).2<(rowF B k).2
 fits:fitE B (sm B (fun i=>decide ((rowF B k).1≤i)) k)=0
def Good (B:Bn) (l:List Int):Prop:=∀ k:Int,fitE B (sm B (fun i=>decide (l.getD i 0=k)) l.length)=0
end Go.Gl
end
section
namespace Go.Gl
def mxS (B:Bn) (l:List Int):Nat→Sm
 | 0=>sm0
 | k+1=>⟨max (mxS B l k).t (sumL B (ofL l (k:Int))).t,max (mxS B l k).g (sumL B (ofL l (k:Int))).g⟩
end Go.Gl
end
section
namespace Go.Gl
def befB:List Int→List Int→Bool
 | [],[]=>false
 | [],_::_=>true
 | _::_,[]=>false
 | x::a,y::b=>if x=y then befB a b else decide (x<y)
def earB:List Int→List Int→Bool
 | x::a,y::b=>if x=y then earB a b else decide (x<y)
 | _,_=>false
def apAt (B:Bn) (l:List Int) (i k:Nat):Bool:=decide (fitE B (sumL B [l.getD k 0,l.getD i 0])≠0)
def apRow (B:Bn) (l:List Int) (i:Nat):Bool:=(List.range i).all (apAt B l i)
def apB (B:Bn) (l:List Int):Bool:=(List.range l.length).all (apRow B l)
def apK (B:Bn):Nat→List Int
 | 0=>[]
 | k+1=>if apB B (ql k B.each.length)=true∧((apK B k).length<(ql k B.each.length).length∨(ql k B.each.length).length=(apK B k).length∧befB (ql k B.each.length) (apK B k)=true)then ql k B.each.length else apK B k
end Go.Gl
end
section
namespace Go.Gl
def goL (B:Bn):Nat→List Int→Int→Option (List Int)
 | 0,begun,_=>some begun
 | t+1,begun,most=>(List.range (min (batN begun+1) most).toNat).findSome? fun(k:Nat)=>if fitE B (sumL B (ofL (begun++[(k:Int)]) (k:Int)))≠0 then none else goL B t (begun++[(k:Int)]) most
def Gd (B:Bn) (n:Nat) (f:Nat→Nat) (m:Nat):Prop:=(∀ i,i<n→f i<m)∧∀ k,fitE B (sm B (fun i=>decide (f i=k)) n)=0
end Go.Gl
end
section
namespace Go.Gl
structure Best (B:Bn) (l:List Int):Prop where
 len:l.length=B.each.length
 plan:planB l false=true
 good:Good B l
 go:goL B B.each.length [] (batN l)=some l
 least:∀ (f:Nat→Nat) (m:Nat),Gd B B.each.length f m→batN l≤(m:Int)
 first:∀ l',l'.length=B.each.length→planB l' false=true→Good B l'→batN l'≤batN l→earB l' l=false
end Go.Gl
end
section
namespace Go.Gl
open Go.Lw
def GdS (B:Bn) (S:Nat) (f:Nat→Nat) (m:Nat):Prop:=(∀ i,i<B.each.length→S.testBit i=true→f i<m)∧∀ k,fitE B (sm B (fun i=>S.testBit i && decide (f i=k)) B.each.length)=0
structure Lst (B:Bn) (S:Nat) (v:Int):Prop where
 nn:0≤v
 can:∃ f,GdS B S f v.toNat
 least:∀ f m,GdS B S f m→v≤(m:Int)
def mkM (q:Nat→Bool):Nat→Nat
 | 0=>0
 | k+1=>if q k=true then mkM q k ||| 2 ^ k else mkM q k
theorem mkM_bit (q:Nat→Bool):∀ n i,(mkM q n).testBit i=(decide (i<n) && q i)
 | 0,i=>by simp[mkM]
 | n+1,i=>by
  have ih:=mkM_bit q n i
  simp only[mkM]
  by_cases c:q n=true
  ·rw[if_pos c,Nat.testBit_or,ih,Nat.testBit_two_pow]
   by_cases d:n=i
   ·subst d; simp[c]
   ·have:decide (i<n+1)=decide (i<n):=by rw[decide_eq_decide]; omega
    simp[d,this]
  ·rw[if_neg c,ih]
   by_cases d:n=i
   ·subst d; simp[c]
   ·have:decide (i<n+1)=decide (i<n):=by rw[decide_eq_decide]; omega
    rw[this]
end Go.Gl
end
section
namespace Go.Gl
open Go.Lw
def Ap2 (B:Bn) (a b:Int):Prop:=fitE B (sumL B [a,b])≠0
def Ap (B:Bn) (l:List Int):Prop:=l.Pairwise (fun a b=>a<b∧Ap2 B a b)∧∀ x∈l,0≤x∧x<(B.each.length:Int)
theorem jY {A:Nat} : ∀ {n:Nat} {x:Int},x∈ql A n↔∃ i:Nat,i<n∧x=(i:Int)∧A.testBit i=true
 | 0,x=>by simp[ql]
 | n+1,x=>by
  have ih:=jY (A:=A) (n:=n) (x:=x)
  simp only[ql]
  by_cases c:A.testBit n=true
  ·rw[if_pos c,List.mem_append,ih,List.mem_singleton]
   constructor
   ·rintro(⟨i,h1,h2,h3⟩ | h)
    ·exact⟨i,by omega,h2,h3⟩
    ·exact⟨n,by omega,h,c⟩
   ·rintro⟨i,h1,h2,h3⟩
    by_cases d:i=n
    ·subst d; exact .inr h2
    ·exact .inl ⟨i,by omega,h2,h3⟩
  ·rw[if_neg c,ih]
   constructor
   ·rintro⟨i,h1,h2,h3⟩; exact⟨i,by omega,h2,h3⟩
   ·rintro⟨i,h1,h2,h3⟩
    have:i≠n:=fun h=>c (by rw[←h]; exact h3)
    exact⟨i,by omega,h2,h3⟩
theorem bitL_lt (A:Nat):∀ n,(ql A n).Pairwise (· < ·)
 | 0=>List.Pairwise.nil
 | n+1=>by
  have ih:=bitL_lt A n
  simp only[ql]
  split
  ·refine List.pairwise_append.2 ⟨ih,List.pairwise_singleton _ _,fun a ha b hb=>?_⟩
   rw[List.mem_singleton]at hb
   obtain⟨i,h1,h2,_⟩:=jY.1 ha
   omega
  ·exact ih
end Go.Gl
end
section
set_option linter.unusedVariables false
namespace Go.Bl
open Go.Gl Go.Lw
structure Pq where
 m:Int
 o:Int
 h:Int
 deriving DecidableEq
structure Tq where
 p:Pq
 f:Bool
abbrev pqv (p:Pq):Value:=.agg #[iv p.m,iv p.o,iv p.h]
abbrev tqe (t:Tq):List Value:=[iv t.p.m,iv t.p.o,iv t.p.h,.bool t.f]
abbrev tqv (t:Tq):Value:=.agg #[iv t.p.m,iv t.p.o,iv t.p.h,.bool t.f]
abbrev ste (s:Nat):List Value:=[iv (s:Int)]
abbrev stv (s:Nat):Value:=.agg #[iv (s:Int)]
theorem tqe_len (p:Tq):(tqe p).length=4:=rfl
theorem ste_len (s:Nat):(ste s).length=1:=rfl
def sndB (p:Pq):Bool:=decide (0≤p.m∧p.m≤4∧0≤p.o∧p.o≤4∧0≤p.h∧p.h≤4)
theorem wi_pq (p:Pq):wi 0 4 [p.m,p.o,p.h]=sndB p:=by
 unfold wi sndB outB
 rw[Bool.eq_iff_iff]
 simp only[List.any_cons,List.any_nil,Bool.or_false,Bool.not_eq_true',Bool.or_eq_false_iff,decide_eq_false_iff_not,decide_eq_true_eq]
 omega
def badT (t:Tq):Bool:=!sndB t.p
def trE (ts:List Tq):Int:=if 16<ts.length then 6 else if ts.any badT then 3 else 0
theorem trE_ok {ts:List Tq} (h:trE ts=0):ts.length≤16∧∀ t∈ts,sndB t.p=true:=by
 unfold trE at h
 split at h
 ·cases h
 ·split at h
  ·cases h
  ·rename_i h1 h2
   refine⟨by omega,fun t ht=>?_⟩
   cases c:sndB t.p with
   | true=>rfl
   | false=>exact absurd (List.any_eq_true.2 ⟨t,ht,by simp[badT,c]⟩) h2
def caL (p:Pq):List Int:=[p.m,5+p.o,10+p.h]
def btL (l:List Int):Nat:=l.foldl (fun n i=>n ||| 2 ^ i.toNat) 0
theorem btL_snoc (l:List Int) (i:Int):btL (l++[i])=btL l ||| 2 ^ i.toNat:=by simp[btL,List.foldl_append]
theorem btF_bit {i:Nat} : ∀ (l:List Int) (n:Nat),(∀ x∈l,0≤x)→((l.foldl (fun n i=>n ||| 2 ^ i.toNat) n).testBit i=true↔n.testBit i=true∨(i:Int)∈l)
 | [],n,_=>by simp
 | x::l,n,h=>by
  have h0:=h x List.mem_cons_self
  rw[List.foldl_cons,btF_bit l _ fun y hy=>h y (List.mem_cons_of_mem _ hy),Nat.testBit_or,Bool.or_eq_true,Nat.testBit_two_pow,decide_eq_true_eq,List.mem_cons]
  constructor
  ·rintro((h1 | h1) | h1)
   ·exact .inl h1
   ·exact .inr (.inl (by omega))
   ·exact .inr (.inr h1)
  ·rintro(h1 | h1 | h1)
   ·exact .inl (.inl h1)
   ·exact .inl (.inr (by omega))
   ·exact .inr h1
theorem btL_bit {l:List Int} {i:Nat} (h:∀ x∈l,0≤x):(btL l).testBit i=true↔(i:Int)∈l:=by
 unfold btL; rw[btF_bit l 0 h]; simp
theorem btL_lt {l:List Int} {n:Nat} (h:∀ x∈l,0≤x∧x<(n:Int)):btL l<2 ^ n:=by
 refine Nat.lt_pow_two_of_testBit _ fun i hi=>?_
 cases c:(btL l).testBit i with
 | false=>rfl
 | true=>
  have:=(btL_bit fun x hx=>(h x hx).1).1 c
  have:=h _ this; omega
def cbN (p:Pq):Nat:=btL (caL p)
theorem caL_in {p:Pq} (h:sndB p=true):∀ x∈caL p,0≤x∧x<15:=by
 unfold sndB at h
 rw[decide_eq_true_eq]at h
 intro x hx
 simp only[caL,List.mem_cons,List.not_mem_nil,or_false]at hx
 omega
theorem cbN_lt {p:Pq} (h:sndB p=true):cbN p<32768:=btL_lt (n:=15) fun x hx=>by have:=caL_in h x hx; omega
def clN:List Tq→Nat→Nat
 | _,0=>0
 | ts,k+1=>match ts[k]? with
  | some t=>if t.f=false then clN ts k ||| cbN t.p else clN ts k
  | none=>clN ts k
def clA (ts:List Tq):Nat:=clN ts ts.length
theorem clN_at {ts:List Tq} {k:Nat} {t:Tq} (h:ts[k]? = some t):clN ts (k+1)=if t.f=false then clN ts k ||| cbN t.p else clN ts k:=by
 simp only[clN,h]
theorem or_lt {a b n:Nat} (ha:a<2 ^ n) (hb:b<2 ^ n):a ||| b<2 ^ n:=Nat.or_lt_two_pow ha hb
theorem clN_lt {ts:List Tq} (h:∀ t∈ts,sndB t.p=true):∀ k,clN ts k<32768
 | 0=>by simp[clN]
 | k+1=>by
  have ih:=clN_lt h k
  cases c:ts[k]? with
  | none=>simp only[clN,c]; exact ih
  | some t=>
   rw[clN_at c]
   split
   ·exact or_lt (n:=15) ih (cbN_lt (h t (List.mem_of_getElem? c)))
   ·exact ih
end Go.Bl
end
section
set_option linter.unusedVariables false
namespace Go.Bl
open Go.Gl Go.Lw
theorem btL_take {l:List Int} {k:Nat} {x:Int} (h:l[k]? = some x):btL (l.take (k+1))=btL (l.take k) ||| 2 ^ x.toNat:=by rw[take_snoc' h,btL_snoc]
theorem btT_lt {l:List Int} (h:∀ x∈l,0≤x∧x<15) (k:Nat):btL (l.take k)<32768:=btL_lt (n:=15) fun x hx=>by have:=h x (List.mem_of_mem_take hx); omega
theorem pow_lt15 {x:Int} (h:0≤x∧x<15):2 ^ x.toNat<32768:=by
 have:=Nat.pow_le_pow_right (n:=2) (by decide) (show x.toNat≤14 by omega)
 omega
def mtB (A B:Nat):Bool:=decide (A &&& B≠0)
theorem mt_pos (A B:Nat):decide ((0:Int)<((A &&& B:Nat):Int))=mtB A B:=by
 unfold mtB; rw[decide_eq_decide]; omega
def lfI (no:Nat) (t:Tq):Int:=if t.f=true then ((clrB (cbN t.p) no:Nat):Int)else -1
def lfL (ts:List Tq):List Int:=ts.map (lfI (clA ts))
def exI (A:Nat) (x:Int):Bool:=!decide (0≤x∧x.toNat &&& A=0)
def exB (left:List Int) (A:Nat):Bool:=left.all (exI A)
def ccR (ts:List Tq) (l:List Int):Int:=
 if trE ts≠0 then trE ts else if lstB l 15=false then 2 else if btL l &&& clA ts≠0 then 16 else if exB (lfL ts) (btL l)=false then 26 else 0
theorem ccR_tr {ts:List Tq} {l:List Int} (h:trE ts≠0):ccR ts l=trE ts:=by rw[ccR,if_pos h]
theorem ccR_arg {ts:List Tq} {l:List Int} (h:trE ts=0) (h1:lstB l 15=false):ccR ts l=2:=by rw[ccR,if_neg (by simp[h]),if_pos h1]
theorem ccR_rule {ts:List Tq} {l:List Int} (h:trE ts=0) (h1:lstB l 15=true) (h2:btL l &&& clA ts≠0):ccR ts l=16:=by rw[ccR,if_neg (by simp[h]),if_neg (by simp[h1]),if_pos h2]
theorem ccR_boil {ts:List Tq} {l:List Int} (h:trE ts=0) (h1:lstB l 15=true) (h2:btL l &&& clA ts=0) (h3:exB (lfL ts) (btL l)=false):ccR ts l=26:=by rw[ccR,if_neg (by simp[h]),if_neg (by simp[h1]),if_neg (by simp[h2]),if_pos h3]
theorem ccR_ok {ts:List Tq} {l:List Int} (h:trE ts=0) (h1:lstB l 15=true) (h2:btL l &&& clA ts=0) (h3:exB (lfL ts) (btL l)=true):ccR ts l=0:=by rw[ccR,if_neg (by simp[h]),if_neg (by simp[h1]),if_neg (by simp[h2]),if_neg (by simp[h3])]
theorem btL_bitL {A n:Nat} (h:A<2 ^ n):btL (ql A n)=A:=by
 refine Nat.eq_of_testBit_eq fun i=>?_
 have:=btL_bit (l:=ql A n) (i:=i) fun x hx=>by obtain⟨j,_,rfl,_⟩:=jY.1 hx; omega
 rw[jY]at this
 cases c:A.testBit i with
 | true=>
  rw[this]
  refine⟨i,?_,rfl,c⟩
  apply Classical.byContradiction
  intro hc
  rw[Nat.testBit_lt_two_pow (Nat.lt_of_lt_of_le h (Nat.pow_le_pow_right (by decide) (by omega)))]at c; cases c
 | false=>
  cases d:(btL (ql A n)).testBit i with
  | false=>rfl
  | true=>obtain⟨j,_,hj,hb⟩:=this.1 d; rw[show j=i by omega]at hb; rw[hb]at c; cases c
end Go.Bl
end
section
set_option linter.unusedVariables false
namespace Go.Bl
open Go.Gl Go.Lw
def flK (ts:List Tq):Nat→List Int
 | 0=>[]
 | k+1=>match ts[k]? with
  | some t=>if t.f=true then flK ts k++[(k:Int)]else flK ts k
  | none=>flK ts k
def lsK (no:Nat) (ts:List Tq):Nat→List Nat
 | 0=>[]
 | k+1=>match ts[k]? with
  | some t=>if t.f=true then lsK no ts k++[clrB (cbN t.p) no]else lsK no ts k
  | none=>lsK no ts k
def flL (ts:List Tq):List Int:=flK ts ts.length
def lsL (ts:List Tq):List Nat:=lsK (clA ts) ts ts.length
theorem flK_t {ts:List Tq} {k:Nat} {t:Tq} (h:ts[k]? = some t) (hf:t.f=true):flK ts (k+1)=flK ts k++[(k:Int)]:=by simp only[flK,h,hf,if_true]
theorem flK_f {ts:List Tq} {k:Nat} {t:Tq} (h:ts[k]? = some t) (hf:t.f=false):flK ts (k+1)=flK ts k:=by simp[flK,h,hf]
theorem lsK_t {no:Nat} {ts:List Tq} {k:Nat} {t:Tq} (h:ts[k]? = some t) (hf:t.f=true):lsK no ts (k+1)=lsK no ts k++[clrB (cbN t.p) no]:=by simp only[lsK,h,hf,if_true]
theorem lsK_f {no:Nat} {ts:List Tq} {k:Nat} {t:Tq} (h:ts[k]? = some t) (hf:t.f=false):lsK no ts (k+1)=lsK no ts k:=by simp[lsK,h,hf]
theorem fl_ls (no:Nat) (ts:List Tq):∀ k,(flK ts k).length=(lsK no ts k).length∧(flK ts k).length≤k
 | 0=>⟨rfl,Nat.le_refl _⟩
 | k+1=>by
  have ih:=fl_ls no ts k
  cases c:ts[k]? with
  | none=>simp only[flK,lsK,c]; omega
  | some t=>
   cases d:t.f with
   | true=>rw[flK_t c d,lsK_t c d]; simp; omega
   | false=>rw[flK_f c d,lsK_f c d]; omega
theorem ls_lt {ts:List Tq} {no:Nat} (h:∀ t∈ts,sndB t.p=true):∀ k,∀ s∈lsK no ts k,s<32768
 | 0,s,hs=>by cases hs
 | k+1,s,hs=>by
  cases c:ts[k]? with
  | none=>simp only[lsK,c]at hs; exact ls_lt h k s hs
  | some t=>
   cases d:t.f with
   | true=>
    rw[lsK_t c d]at hs
    rcases List.mem_append.1 hs with hs | hs
    ·exact ls_lt h k s hs
    ·rw[List.mem_singleton]at hs
     have:=clrB_le (cbN t.p) no
     have:=cbN_lt (h t (List.mem_of_getElem? c))
     omega
   | false=>rw[lsK_f c d]at hs; exact ls_lt h k s hs
theorem ls_map (no:Nat) (ts:List Tq):∀ k,k≤ts.length→lsK no ts k=((ts.take k).filter (·.f)).map fun t=>clrB (cbN t.p) no
 | 0,_=>by simp[lsK]
 | k+1,hk=>by
  have ih:=ls_map no ts k (by omega)
  have c:ts[k]? = some ts[k]:=List.getElem?_eq_getElem (by omega)
  rw[take_snoc' c,List.filter_append,List.map_append,←ih]
  cases d:(ts[k]).f with
  | true=>rw[lsK_t c d]; simp[d]
  | false=>rw[lsK_f c d]; simp[d]
theorem lsL_map (ts:List Tq):lsL ts=(ts.filter (·.f)).map fun t=>clrB (cbN t.p) (clA ts):=by
 unfold lsL; rw[ls_map _ _ _ (Nat.le_refl _),List.take_length]
theorem ex_ls (ts:List Tq) (A:Nat):exB (lfL ts) A=(lsL ts).all fun s=>mtB A s:=by
 rw[lsL_map]
 unfold exB lfL
 rw[List.all_map,List.all_map,List.all_filter]
 refine List.all_congr rfl fun t=>?_
 simp only[Function.comp,lfI,exI,mtB]
 by_cases c:t.f=true
 ·simp[c,Nat.and_comm]
 ·simp[c]
def alE (ts:List Tq):Int:=if trE ts≠0 then trE ts else if (lsL ts).any (· == 0)then 26 else 0
theorem alE_tr {ts:List Tq} (h:trE ts≠0):alE ts=trE ts:=by rw[alE,if_pos h]
theorem alE_z {ts:List Tq} (h:trE ts=0) (h1:(lsL ts).any (· == 0)=true):alE ts=26:=by rw[alE,if_neg (by simp[h]),if_pos h1]
theorem alE_ok {ts:List Tq} (h:trE ts=0) (h1:(lsL ts).any (· == 0)=false):alE ts=0:=by rw[alE,if_neg (by simp[h]),if_neg (by simp[h1])]
end Go.Bl
end
section
set_option linter.unusedVariables false
namespace Go.Bl
open Go.Gl Go.Lw
def ixS (l:List Nat) (s:Nat):Option Nat:=l.findIdx? (· == s)
def ixI (o:Option Nat):Int:=match o with
 | some k=>(k:Int)
 | none=>-1
theorem fi_hit {α:Type} {p:α→Bool} {l:List α} {k:Nat} {x:α} (hx:l[k]? = some x) (hp:p x=true) (h:∀ (j:Nat) (y:α),j<k→l[j]? = some y→p y=false):l.findIdx? p=some k:=by
 rw[List.findIdx?_eq_some_iff_getElem]
 obtain⟨hk,rfl⟩:=List.getElem?_eq_some_iff.1 hx
 exact⟨hk,hp,fun j hj=>by rw[h j _ hj (List.getElem?_eq_getElem (by omega))]; simp⟩
theorem fi_none {α:Type} {p:α→Bool} {l:List α} (h:∀ (j:Nat) (y:α),j<l.length→l[j]? = some y→p y=false):l.findIdx? p=none:=by
 rw[List.findIdx?_eq_none_iff]
 intro x hx
 obtain⟨j,hj,rfl⟩:=List.getElem_of_mem hx
 exact h j _ hj (List.getElem?_eq_getElem hj)
theorem ix_any (l:List Nat):decide (0≤ixI (ixS l 0))=l.any (· == 0):=by
 unfold ixS ixI
 cases c:l.findIdx? (· == 0)with
 | none=>
  rw[List.findIdx?_eq_none_iff]at c
  rw[Bool.eq_iff_iff]
  simp only[List.any_eq_true]
  constructor
  ·intro h; simp at h
  ·rintro⟨x,hx,h⟩; rw[c x hx]at h; cases h
 | some k=>
  rw[List.findIdx?_eq_some_iff_getElem]at c
  obtain⟨hk,hp,_⟩:=c
  rw[List.any_eq_true.2 ⟨_,List.getElem_mem hk,hp⟩]; simp
end Go.Bl
end
section
set_option linter.unusedVariables false
namespace Go.Bl
open Go.Gl Go.Lw
def cntK (A:Nat) (n:Nat):Nat:=(ql A n).length
def cnt (A:Nat):Nat:=cntK A 15
theorem cntK_succ (A n:Nat):cntK A (n+1)=cntK A n+(if A.testBit n=true then 1 else 0):=by
 unfold cntK; simp only[ql]; split<;>simp
theorem cntK_or {A i:Nat} (hi:A.testBit i=false):∀ n,cntK (A ||| 2 ^ i) n=cntK A n+(if i<n then 1 else 0)
 | 0=>by simp[cntK,ql]
 | n+1=>by
  rw[cntK_succ,cntK_succ,cntK_or hi n,Nat.testBit_or,Nat.testBit_two_pow]
  by_cases c:i=n
  ·subst c; simp[hi]
  ·by_cases d:i<n
   ·have:¬ i=n:=c
    simp[d,this,show i<n+1 by omega]
    split<;>omega
   ·have:¬ i<n+1:=by omega
    simp[d,c,this]
theorem cnt_or {A i:Nat} (hi:A.testBit i=false) (h:i<15):cnt (A ||| 2 ^ i)=cnt A+1:=by
 unfold cnt; rw[cntK_or hi,if_pos h]
theorem cntK_le (A:Nat):∀ n,cntK A n≤n
 | 0=>by simp[cntK,ql]
 | n+1=>by rw[cntK_succ]; have:=cntK_le A n; split<;>omega
theorem cnt_zero:cnt 0=0:=by decide
theorem qH (A B:Nat):mtB A B=true↔∃ i,A.testBit i=true∧B.testBit i=true:=by
 unfold mtB
 rw[decide_eq_true_eq]
 constructor
 ·intro h
  obtain⟨i,hi⟩:=Nat.exists_testBit_of_ne_zero h
  rw[Nat.testBit_and,Bool.and_eq_true]at hi
  exact⟨i,hi⟩
 ·rintro⟨i,h1,h2⟩ h
  have:(A &&& B).testBit i=true:=by rw[Nat.testBit_and,h1,h2]; rfl
  rw[h]at this; simp at this
theorem mtB_no {A B i:Nat} (h:mtB A B=false) (hi:A.testBit i=true):B.testBit i=false:=by
 cases c:B.testBit i with
 | false=>rfl
 | true=>rw[(qH A B).2 ⟨i,hi,c⟩]at h; cases h
def Stp (t s x:Nat):Prop:=(mtB t s=true∧x=s)∨(mtB t s=false∧∃ i,i<15∧t.testBit i=true∧x=s ||| 2 ^ i)
def GsK (ls:List Nat):Nat→Nat→Prop
 | 0,x=>x=0
 | k+1,x=>∃ s,GsK ls k s∧Stp (ls.getD k 0) s x
structure MI (M:MM Nat Int) (c:Nat):Prop where
 born:∀ e∈M,e.2.2<c
 nodB:(M.map (·.2.2)).Nodup
 nodK:(M.map (·.1)).Nodup
 val:∀ e∈M,e.2.1=(cnt e.1:Int)
 lt:∀ e∈M,e.1<32768
theorem mi_nil:MI [] 0:=⟨fun e h=>(by cases h),List.nodup_nil,List.nodup_nil,fun e h=>(by cases h),fun e h=>(by cases h)⟩
theorem mi_ins {M:MM Nat Int} {c a:Nat} (h:MI M c) (ha:a<32768):MI (mIns a (cnt a:Int) M c).1 (mIns a (cnt a:Int) M c).2:=by
 unfold mIns
 split
 ·exact h
 ·rename_i hn
  have hno:∀ e∈M,e.1≠a:=fun e he e1=>hn ((jq a M).2 ⟨e,he,e1⟩)
  refine⟨fun e he=>?_,?_,?_,fun e he=>?_,fun e he=>?_⟩
  ·rcases List.mem_append.1 he with he | he
   ·have:=h.born e he; omega
   ·rw[List.mem_singleton]at he; subst he; simp
  ·rw[List.map_append]
   refine List.nodup_append.2 ⟨h.nodB,by simp,fun x hx y hy=>?_⟩
   obtain⟨e,he,rfl⟩:=List.mem_map.1 hx
   simp at hy; subst hy
   have:=h.born e he; omega
  ·rw[List.map_append]
   refine List.nodup_append.2 ⟨h.nodK,by simp,fun x hx y hy=>?_⟩
   obtain⟨e,he,rfl⟩:=List.mem_map.1 hx
   simp at hy; subst hy
   exact hno e he
  ·rcases List.mem_append.1 he with he | he
   ·exact h.val e he
   ·rw[List.mem_singleton]at he; subst he; rfl
  ·rcases List.mem_append.1 he with he | he
   ·exact h.lt e he
   ·rw[List.mem_singleton]at he; subst he; exact ha
theorem mi_has {M:MM Nat Int} {c a x:Nat} {v:Int} : kW x (mIns a v M c).1=true↔kW x M=true∨x=a:=by
 unfold mIns
 split
 ·rename_i h
  constructor
  ·exact .inl
  ·rintro(h1 | rfl)
   ·exact h1
   ·exact h
 ·rw[jq,jq]
  constructor
  ·rintro⟨e,he,rfl⟩
   rcases List.mem_append.1 he with he | he
   ·exact .inl ⟨e,he,rfl⟩
   ·rw[List.mem_singleton]at he; subst he; exact .inr rfl
  ·rintro(⟨e,he,rfl⟩ | rfl)
   ·exact⟨e,List.mem_append_left _ he,rfl⟩
   ·exact⟨(x,v,c),by simp,rfl⟩
structure SmS (ls:List Nat) (srt:List Nat→Prop) (l:List Nat):Prop where
 nod:l.Nodup
 srt:srt l
 mem:∀ x,x∈l↔GsK ls ls.length x∧∀ y,GsK ls ls.length y→cnt x≤cnt y
theorem or_lt15 {s i:Nat} (hs:s<32768) (hi:i<15):s ||| 2 ^ i<32768:=Nat.or_lt_two_pow (n:=15) hs (Nat.pow_lt_pow_right (by decide) hi)
theorem gsK_lt {ls:List Nat} : ∀ {k x:Nat},GsK ls k x→x<32768
 | 0,x,h=>by rw[h]; decide
 | k+1,x,⟨s,h1,h2⟩=>by
  have:=gsK_lt h1
  rcases h2 with ⟨_,rfl⟩ | ⟨_,i,hi,_,rfl⟩
  ·exact this
  ·exact or_lt15 this hi
theorem gsK_ex {ls:List Nat} (h:∀ s∈ls,s≠0∧s<32768):∀ k,k≤ls.length→∃ x,GsK ls k x
 | 0,_=>⟨0,rfl⟩
 | k+1,hk=>by
  obtain⟨s,hs⟩:=gsK_ex h k (by omega)
  have ht:=h (ls.getD k 0) (by simp only[List.getD,List.getElem?_eq_getElem (show k<ls.length by omega)]; exact List.getElem_mem _)
  cases c:mtB (ls.getD k 0) s with
  | true=>exact⟨s,s,hs,.inl ⟨c,rfl⟩⟩
  | false=>
   obtain⟨i,hi⟩:=Nat.exists_testBit_of_ne_zero ht.1
   have hi15:i<15:=by
    apply Classical.byContradiction
    intro hc
    rw[Nat.testBit_lt_two_pow (Nat.lt_of_lt_of_le (show ls.getD k 0<2 ^ 15 by omega) (Nat.pow_le_pow_right (by decide) (by omega)))]at hi; cases hi
   exact⟨s ||| 2 ^ i,s,hs,.inr ⟨c,i,hi15,hi,rfl⟩⟩
end Go.Bl
namespace Go.Bl
open Go.Gl Go.Lw
theorem pigeonN:∀ {n:Nat} {l:List Nat},l.Nodup→(∀ x∈l,x<n)→l.length≤n
 | 0,l,_,h=>by
  cases l with
  | nil=>simp
  | cons x l=>have:=h x List.mem_cons_self; omega
 | n+1,l,hd,h=>by
  have h1:=pigeonN (n:=n) (l:=l.erase n) (hd.sublist List.erase_sublist) (fun x hx=>by
   have:=h x (List.mem_of_mem_erase hx)
   have:x≠n:=fun e=>by subst e; exact(List.Nodup.not_mem_erase hd) hx
   omega)
  by_cases c:n∈l
  ·have:=List.length_erase_of_mem c; omega
  ·rw[List.erase_of_not_mem c]at h1; omega
theorem mi_len {M:MM Nat Int} {c:Nat} (h:MI M c):M.length≤32768:=by
 have:=pigeonN (n:=32768) h.nodK fun x hx=>by obtain⟨e,he,rfl⟩:=List.mem_map.1 hx; exact h.lt e he
 rw[List.length_map]at this; exact this
theorem seen_push {M:MM Nat Int} {seen:Array Nat} {e:Nat×Int×Nat} (hn:(M.map (·.2.2)).Nodup) (he:e∈M) {e':Nat×Int×Nat} (he':e'∈M):e'.2.2∈seen.push e.2.2↔e'.2.2∈seen∨e'=e:=by
 rw[Array.mem_push]
 constructor
 ·rintro(h | h)
  ·exact .inl h
  ·exact .inr (inj_of (fun e:Nat×Int×Nat=>e.2.2) hn he' he h)
 ·rintro(h | rfl)
  ·exact .inl h
  ·exact .inr rfl
end Go.Bl
end
section
set_option linter.unusedVariables false
namespace Go.Bl
open Go.Gl Go.Lw
def LexB (A B:Nat):Prop:=∃ i,A.testBit i=true∧B.testBit i=false∧∀ j,j<i→A.testBit j=B.testBit j
theorem lex_irr (A:Nat):¬ LexB A A:=fun⟨i,h1,h2,_⟩=>by rw[h1]at h2; cases h2
theorem lex_asym {A B:Nat} (h:LexB A B):¬ LexB B A:=fun⟨k,k1,k2,k3⟩=>by
 obtain⟨i,h1,h2,h3⟩:=h
 rcases Nat.lt_trichotomy i k with c | rfl | c
 ·rw[k3 i c]at h2; rw[h1]at h2; cases h2
 ·rw[h1]at k2; cases k2
 ·rw[h3 k c]at k2; rw[k1]at k2; cases k2
theorem lex_tot {A B:Nat} (h:A≠B):LexB A B∨LexB B A:=by
 have hex:∃ i,A.testBit i≠B.testBit i:=by
  apply Classical.byContradiction
  intro hc
  refine h (Nat.eq_of_testBit_eq fun i=>?_)
  apply Classical.byContradiction
  intro hd; exact hc ⟨i,hd⟩
 have hl:∃ i,A.testBit i≠B.testBit i∧∀ j,j<i→A.testBit j=B.testBit j:=by
  obtain⟨i,hi⟩:=hex
  have key:∀ n i,i≤n→A.testBit i≠B.testBit i→∃ i,A.testBit i≠B.testBit i∧∀ j,j<i→A.testBit j=B.testBit j:=by
   intro n
   induction n with
   | zero=>intro i h1 h2; exact⟨i,h2,fun j hj=>by omega⟩
   | succ n ih=>
    intro i h1 h2
    by_cases c:∃ j,j<i∧A.testBit j≠B.testBit j
    ·obtain⟨j,h3,h4⟩:=c; exact ih j (by omega) h4
    ·exact⟨i,h2,fun j hj=>by
      apply Classical.byContradiction
      intro hd; exact c ⟨j,hj,hd⟩⟩
  exact key i i (Nat.le_refl _) hi
 obtain⟨i,h1,h2⟩:=hl
 cases a:A.testBit i with
 | true=>
  cases b:B.testBit i with
  | true=>rw[a,b]at h1; exact absurd rfl h1
  | false=>exact .inl ⟨i,a,b,h2⟩
 | false=>
  cases b:B.testBit i with
  | true=>exact .inr ⟨i,b,a,fun j hj=>(h2 j hj).symm⟩
  | false=>rw[a,b]at h1; exact absurd rfl h1
theorem lt15_bit {A i:Nat} (h:A<32768) (hi:A.testBit i=true):i<15:=by
 apply Classical.byContradiction
 intro hc
 rw[Nat.testBit_lt_two_pow (Nat.lt_of_lt_of_le (show A<2 ^ 15 by omega) (Nat.pow_le_pow_right (by decide) (by omega)))]at hi; cases hi
theorem lex_ext:∀ {a b:List Nat},a.Pairwise LexB→b.Pairwise LexB→(∀ x,x∈a↔x∈b)→a=b
 | [],[],_,_,_=>rfl
 | [],y::b,_,_,h=>by have:=(h y).2 List.mem_cons_self; cases this
 | x::a,[],_,_,h=>by have:=(h x).1 List.mem_cons_self; cases this
 | x::a,y::b,ha,hb,h=>by
  rw[List.pairwise_cons]at ha hb
  have e:x=y:=by
   rcases List.mem_cons.1 ((h x).1 List.mem_cons_self)with h1 | h1
   ·exact h1
   ·rcases List.mem_cons.1 ((h y).2 List.mem_cons_self)with h2 | h2
    ·exact h2.symm
    ·exact absurd (ha.1 y h2) (lex_asym (hb.1 x h1))
  subst e
  rw[lex_ext ha.2 hb.2 fun z=>?_]
  have:=h z
  rw[List.mem_cons,List.mem_cons]at this
  constructor
  ·intro hz
   rcases this.1 (.inr hz)with rfl | h1
   ·exact absurd (ha.1 _ hz) (lex_irr _)
   ·exact h1
  ·intro hz
   rcases this.2 (.inr hz)with rfl | h1
   ·exact absurd (hb.1 _ hz) (lex_irr _)
   ·exact h1
def Sub (A B:Nat):Prop:=∀ i,A.testBit i=true→B.testBit i=true
theorem sub_cntK {A B:Nat} (h:Sub A B):∀ n,cntK A n≤cntK B n∧(cntK A n=cntK B n→∀ i,i<n→A.testBit i=B.testBit i)
 | 0=>⟨by simp[cntK,ql],fun _ i hi=>by omega⟩
 | n+1=>by
  obtain⟨h1,h2⟩:=sub_cntK h n
  rw[cntK_succ,cntK_succ]
  have hn:=h n
  cases a:A.testBit n with
  | true=>
   rw[hn a]
   refine⟨by simp; omega,fun he i hi=>?_⟩
   simp at he
   by_cases c:i=n
   ·subst c; rw[a,hn a]
   ·exact h2 he i (by omega)
  | false=>
   cases b:B.testBit n with
   | true=>exact⟨by simp; omega,fun he=>by simp at he; omega⟩
   | false=>
    refine⟨by simp; omega,fun he i hi=>?_⟩
    simp at he
    by_cases c:i=n
    ·subst c; rw[a,b]
    ·exact h2 he i (by omega)
theorem sub_eq {A B:Nat} (h:Sub A B) (hA:A<32768) (hB:B<32768) (hc:cnt B≤cnt A):A=B:=by
 obtain⟨h1,h2⟩:=sub_cntK h 15
 unfold cnt at hc
 refine Nat.eq_of_testBit_eq fun i=>?_
 by_cases hi:i<15
 ·exact h2 (by omega) i hi
 ·have p:(2:Nat) ^ 15≤2 ^ i:=Nat.pow_le_pow_right (by decide) (by omega)
  rw[Nat.testBit_lt_two_pow (by omega),Nat.testBit_lt_two_pow (by omega)]
def Ex (no:Nat) (ls:List Nat) (A:Nat):Prop:=A<32768∧mtB A no=false∧∀ s∈ls,mtB A s=true
theorem stp_sub {t s x:Nat} (h:Stp t s x):Sub s x:=fun i hi=>by
 rcases h with ⟨_,rfl⟩ | ⟨_,k,_,_,rfl⟩
 ·exact hi
 ·rw[Nat.testBit_or,hi]; rfl
theorem stp_hit {t s x:Nat} (h:Stp t s x):mtB x t=true:=by
 rcases h with ⟨h1,rfl⟩ | ⟨_,k,_,hk,rfl⟩
 ·obtain⟨i,a,b⟩:=(qH t x).1 h1
  exact(qH x t).2 ⟨i,b,a⟩
 ·refine(qH _ t).2 ⟨k,?_,hk⟩
  rw[Nat.testBit_or,Nat.testBit_two_pow]; simp
theorem gsK_ex1 {no:Nat} {ls:List Nat} (hl:∀ s∈ls,mtB s no=false):∀ {k x:Nat},k≤ls.length→GsK ls k x→mtB x no=false∧∀ j,j<k→mtB x (ls.getD j 0)=true
 | 0,x,_,h=>by
  refine⟨?_,fun j hj=>by omega⟩
  rw[show x=0 from h]
  unfold mtB; simp
 | k+1,x,hk,⟨s,h1,h2⟩=>by
  obtain⟨a,b⟩:=gsK_ex1 hl (by omega) h1
  refine⟨?_,fun j hj=>?_⟩
  ·cases c:mtB x no with
   | false=>rfl
   | true=>
    obtain⟨i,hi,hn⟩:=(qH x no).1 c
    rcases h2 with ⟨_,rfl⟩ | ⟨_,q,_,hq,rfl⟩
    ·rw[a]at c; cases c
    ·rw[Nat.testBit_or,Bool.or_eq_true]at hi
     rcases hi with hi | hi
     ·rw[(qH s no).2 ⟨i,hi,hn⟩]at a; cases a
     ·rw[Nat.testBit_two_pow,decide_eq_true_eq]at hi
      subst hi
      have:=hl (ls.getD k 0) (by simp only[List.getD,List.getElem?_eq_getElem (show k<ls.length by omega)]; exact List.getElem_mem _)
      rw[(qH _ no).2 ⟨q,hq,hn⟩]at this; cases this
  ·by_cases c:j=k
   ·subst c; exact stp_hit h2
   ·obtain⟨i,h3,h4⟩:=(qH s _).1 (b j (by omega))
    exact(qH x _).2 ⟨i,stp_sub h2 i h3,h4⟩
theorem gs_ex {no:Nat} {ls:List Nat} (hl:∀ s∈ls,mtB s no=false) {x:Nat} (h:GsK ls ls.length x):Ex no ls x:=by
 obtain⟨a,b⟩:=gsK_ex1 hl (Nat.le_refl _) h
 refine⟨gsK_lt h,a,fun s hs=>?_⟩
 obtain⟨j,hj,rfl⟩:=List.getElem_of_mem hs
 have:=b j hj
 rwa[List.getD,List.getElem?_eq_getElem hj]at this
theorem ex_gsK {no:Nat} {ls:List Nat} {y:Nat} (h:Ex no ls y):∀ k,k≤ls.length→∃ x,GsK ls k x∧Sub x y
 | 0,_=>⟨0,rfl,fun i hi=>by simp at hi⟩
 | k+1,hk=>by
  obtain⟨s,h1,h2⟩:=ex_gsK h k (by omega)
  have hm:=h.2.2 (ls.getD k 0) (by simp only[List.getD,List.getElem?_eq_getElem (show k<ls.length by omega)]; exact List.getElem_mem _)
  cases c:mtB (ls.getD k 0) s with
  | true=>exact⟨s,⟨s,h1,.inl ⟨c,rfl⟩⟩,h2⟩
  | false=>
   obtain⟨i,hi,ht⟩:=(qH y _).1 hm
   refine⟨s ||| 2 ^ i,⟨s,h1,.inr ⟨c,i,lt15_bit h.1 hi,ht,rfl⟩⟩,fun j hj=>?_⟩
   rw[Nat.testBit_or,Bool.or_eq_true]at hj
   rcases hj with hj | hj
   ·exact h2 j hj
   ·rw[Nat.testBit_two_pow,decide_eq_true_eq]at hj; subst hj; exact hi
theorem gs_min {no:Nat} {ls:List Nat} (hl:∀ s∈ls,mtB s no=false) (x:Nat):(GsK ls ls.length x∧∀ y,GsK ls ls.length y→cnt x≤cnt y)↔(Ex no ls x∧∀ y,Ex no ls y→cnt x≤cnt y):=by
 constructor
 ·rintro⟨h1,h2⟩
  refine⟨gs_ex hl h1,fun y hy=>?_⟩
  obtain⟨z,h3,h4⟩:=ex_gsK hy _ (Nat.le_refl _)
  have:=h2 z h3
  have:=(sub_cntK h4 15).1
  unfold cnt at *; omega
 ·rintro⟨h1,h2⟩
  obtain⟨z,h3,h4⟩:=ex_gsK h1 _ (Nat.le_refl _)
  have hz:=gs_ex hl h3
  have:=sub_eq h4 hz.1 h1.1 (h2 z hz)
  subst this
  exact⟨h3,fun y hy=>h2 y (gs_ex hl hy)⟩
end Go.Bl
end
section
set_option linter.unusedVariables false
namespace Go.Bl
open Go.Gl Go.Lw
structure AlI (no:Nat) (left:List Int) (k few:Nat) (out:List Nat):Prop where
 f15:few≤15
 nod:out.Nodup
 mem:∀ x,x∈out↔x<k∧(mtB x no=false∧exB left x=true)∧cnt x=few
 low:∀ x,x<k→(mtB x no=false∧exB left x=true)→few≤cnt x
 ne:few=15∨∃ x,x∈out
structure InsI (L:List Nat) (i k:Nat):Prop where
 ord:∀ a b x y,a<b→b≤i→a≠k→b≠k→L[a]? = some x→L[b]? = some y→LexB x y
 les:∀ b x y,k<b→b≤i→L[k]? = some x→L[b]? = some y→LexB x y
end Go.Bl
end
section
namespace Go.Bl
open Go.Gl Go.Lw
def tN (L:List Nat) (i:Nat):Nat:=(L.filter fun x=>x.testBit i).length
def tlL (L:List Nat):List Int:=(List.range 15).map fun i=>(tN L i:Int)
theorem tlL_len (L:List Nat):(tlL L).length=15:=by simp[tlL]
theorem tlL_at {L:List Nat} {i:Nat} (h:i<15):(tlL L)[i]? = some (tN L i:Int):=by simp[tlL,h]
theorem tN_le (L:List Nat) (i:Nat):tN L i≤L.length:=List.length_filter_le _ _
theorem tN_take {L:List Nat} {k x:Nat} (h:L[k]? = some x) (i:Nat):tN (L.take (k+1)) i=tN (L.take k) i+(if x.testBit i=true then 1 else 0):=by
 unfold tN
 rw[take_snoc' h,List.filter_append,List.length_append]
 cases c:x.testBit i<;>simp[c]
theorem tN_zero {L:List Nat} {i:Nat} : tN L i=0↔∀ x∈L,x.testBit i=false:=by
 unfold tN
 rw[List.length_eq_zero_iff,List.filter_eq_nil_iff]
 simp
theorem tN_all {L:List Nat} {i:Nat} : tN L i=L.length↔∀ x∈L,x.testBit i=true:=by
 unfold tN; rw[List.length_filter_eq_length_iff]
def flN (L:List Nat) (p:Pq):Nat:=(L.filter fun x=>mtB (cbN p) x).length
theorem flN_le (L:List Nat) (p:Pq):flN L p≤L.length:=List.length_filter_le _ _
theorem flN_take {L:List Nat} {p:Pq} {k x:Nat} (h:L[k]? = some x):flN (L.take (k+1)) p=flN (L.take k) p+(if mtB (cbN p) x=true then 1 else 0):=by
 unfold flN
 rw[take_snoc' h,List.filter_append,List.length_append]
 cases c:mtB (cbN p) x<;>simp[c]
theorem fl_none {L:List Nat} {p:Pq} (hp:sndB p=true) (h:tlL L=List.replicate 15 0):flN L p=0:=by
 unfold flN
 rw[List.length_eq_zero_iff,List.filter_eq_nil_iff]
 intro x hx hm
 obtain⟨i,h1,h2⟩:=(qH _ _).1 hm
 have hi:=lt15_bit (cbN_lt hp) h1
 have e:=tlL_at (L:=L) hi
 rw[h,List.getElem?_replicate,if_pos hi]at e
 have e0:tN L i=0:=by simp only[Option.some.injEq]at e; omega
 rw[tN_zero.1 e0 x hx]at h2; cases h2
structure TlI (L:List Nat) (k x j:Nat) (g:List Int):Prop where
 len:g.length=15
 at_:∀ i:Nat,i<15→g[i]? = some ((tN (L.take k) i:Int)+(if (i:Int)∈(ql x 15).take j then 1 else 0))
theorem tlI_start {L:List Nat} {k x:Nat} : TlI L k x 0 (tlL (L.take k)):=⟨tlL_len _,fun i hi=>by rw[tlL_at hi]; simp⟩
theorem tlI_end {L:List Nat} {k x:Nat} {g:List Int} (hx:L[k]? = some x) (h:TlI L k x (ql x 15).length g):g=tlL (L.take (k+1)):=by
 apply List.ext_getElem?
 intro i
 by_cases hi:i<15
 ·rw[h.at_ i hi,tlL_at hi,tN_take hx,List.take_length]
  have hb:(i:Int)∈ql x 15↔x.testBit i=true:=by
   rw[jY]; constructor
   ·rintro⟨m,h1,h2,h3⟩; obtain rfl:i=m:=by omega
    exact h3
   ·intro h; exact⟨i,hi,rfl,h⟩
  by_cases c:x.testBit i=true
  ·rw[if_pos (hb.2 c),if_pos c]; push_cast; rfl
  ·rw[if_neg (fun h=>c (hb.1 h)),if_neg c]; simp
 ·rw[List.getElem?_eq_none (by rw[h.len]; omega),List.getElem?_eq_none (by rw[tlL_len]; omega)]
theorem tlI_step {L:List Nat} {k x j i:Nat} {g:List Int} {y:Int} (h:TlI L k x j g) (hj:(ql x 15)[j]? = some (i:Int)) (hi:i<15) (hy:g[i]? = some y):TlI L k x (j+1) (g.set i (y+1)):=by
 refine⟨by rw[List.length_set,h.len],fun m hm=>?_⟩
 have hni:(i:Int)∉(ql x 15).take j:=fun hc=>by
  obtain⟨n,hn⟩:=List.mem_iff_getElem?.1 hc
  have hnj:n<j:=by have:=(List.getElem?_eq_some_iff.1 hn).1; rw[List.length_take]at this; omega
  rw[List.getElem?_take,if_pos hnj]at hn
  have hp:=bitL_lt x 15
  rw[List.pairwise_iff_getElem]at hp
  obtain⟨p1,e1⟩:=List.getElem?_eq_some_iff.1 hn
  obtain⟨p2,e2⟩:=List.getElem?_eq_some_iff.1 hj
  have:=hp n j p1 p2 hnj
  omega
 rw[take_snoc' hj,List.getElem?_set]
 by_cases e:i=m
 ·subst e
  rw[if_pos rfl,if_pos (by rw[h.len]; exact hi)]
  have:=h.at_ i hi
  rw[hy,if_neg hni]at this
  simp only[Option.some.injEq]at this
  rw[if_pos (by simp),this]; simp
 ·rw[if_neg e,h.at_ m hm]
  have:((m:Int)∈(ql x 15).take j++[(i:Int)])↔(m:Int)∈(ql x 15).take j:=by
   rw[List.mem_append,List.mem_singleton]
   constructor
   ·rintro(h | h)
    ·exact h
    ·omega
   ·exact .inl
  simp only[this]
theorem tlI_bd {L:List Nat} {k x j:Nat} {g:List Int} (h:TlI L k x j g) {i:Nat} {y:Int} (hy:g[i]? = some y):0≤y∧y≤(L.length:Int)+1:=by
 have hi:i<15:=by have:=(List.getElem?_eq_some_iff.1 hy).1; rw[h.len]at this; exact this
 have:=h.at_ i hi
 rw[hy]at this
 simp only[Option.some.injEq]at this
 have hle:=tN_le (L.take k) i
 rw[List.length_take]at hle
 rw[this]; split<;>omega
end Go.Bl
end
section
namespace Go.Bl
open Go.Gl Go.Lw
def bst {α:Type} (lt:α→α→Bool):α→List α→α
 | out,[]=>out
 | out,x::l=>bst lt (if lt x out then x else out) l
end Go.Bl
end
section
namespace Go.Lw
structure U8 where
 n:Int
 h:0≤n∧n≤255
abbrev e8 (x:U8):List Value:=[.int .u8 x.n]
end Go.Lw
namespace Go.Bl
open Go.Gl Go.Lw
theorem mt_no {A B:Nat} (h:∀ i,A.testBit i=true→B.testBit i=false):mtB A B=false:=by
 cases c:mtB A B with
 | false=>rfl
 | true=>
  obtain⟨i,h1,h2⟩:=(qH _ _).1 c
  rw[h i h1]at h2; cases h2
structure GvI (no:Nat) (left:List Int) (k out:Nat):Prop where
 lt:out<32768
 no_:mtB out no=false
 hit:∀ (j s:Nat),j<k→left[j]? = some (s:Int)→s≠0→mtB out s=true
end Go.Bl
end
section
set_option linter.unusedVariables false
namespace Go.Proofs.YtfmmggphdeiajaaGreatDoor.P
open Go.Lw Go.Ps Go.RowKit
open Go.Gl (iv ivs qB)
abbrev tri (r:Option Addr×Nat×List Int):Option Addr×Nat×Nat:=(r.1,r.2.2.length,r.2.1)
abbrev rws (RS:List (Option Addr×Nat×List Int)):List Own:=rowsO 3 1 ei RS
theorem tri_at {RS:List (Option Addr×Nat×List Int)} {k:Nat} {rest:List Value} (h:k<RS.length):(flat sl3 (RS.map tri)++rest)[0+k*1]? = some (.slice RS[k].1 RS[k].2.2.length RS[k].2.1):=by
 have hl:(flat sl3 (RS.map tri)).length=RS.length*1:=by rw[qa sl3_len,List.length_map]
 rw[Nat.zero_add,List.getElem?_append_left (by omega)]
 have:=flat_at sl3_len (RS.map tri) k (tri RS[k]) (by rw[List.getElem?_map,List.getElem?_eq_getElem h]; rfl) 0 (.slice RS[k].1 RS[k].2.2.length RS[k].2.1) rfl
 exact this
theorem tri_set {RS:List (Option Addr×Nat×List Int)} {k:Nat} {rest:List Value} (h:k<RS.length) (y:Option Addr×Nat×List Int) {n:Nat} (hn:n=y.2.2.length):SetAt (flat sl3 (RS.map tri)++rest) (0+k*1) (.slice y.1 n y.2.1) (flat sl3 ((RS.set k y).map tri)++rest):=by
 subst hn
 have hl:(flat sl3 (RS.map tri)).length=RS.length*1:=by rw[qa sl3_len,List.length_map]
 refine setAt_of (by rw[List.length_append]; omega) ?_
 rw[Nat.zero_add,Nat.mul_one,List.set_append_left _ _ (by omega)]
 congr 1
 have e:=flat_set1 sl3_len (RS.map tri) k 0 (tri RS[k]) (tri y) (.slice y.1 y.2.2.length y.2.1) (by rw[List.getElem?_map,List.getElem?_eq_getElem h]; rfl) (by decide) rfl
 rw[Nat.mul_one,Nat.add_zero]at e
 rw[e,List.map_set]
theorem hAt_some {ps:List Pp} {i:Int} {p:Pp} (h:ps[i.toNat]? = some p):hAt ps i=some p.h:=by unfold hAt; rw[h]; rfl
set_option maxHeartbeats 3200000 in
theorem given_f (b:Bd) (hb:BdOk b) (a:Option Addr) (c:Nat) (ps:List Pp) (hps:PpOk ps) (by':List U8) (V:View) (pv vb:Value) (hs:SlI V (.slice a b.br.length c) b.br) (hp:Sl V ppe 2 pv ps) (hy:Sl V e8 1 vb by') (hy1:by'.length≤1000) :
  Fnc Tryz.prog 6 [bdv b a c,pv,vb] V fun r V'=>∃ L,SLL V' r L∧TnOk ps (whl b).length L:=by
 have hn:=hps.n
 have hwn:=whl_len hb
 have hw1:1≤(whl b).length:=List.length_pos_iff.2 (whl_ne hb)
 have ho:=hb.o
 obtain⟨ap,cp,rfl,k1,k2,_⟩:=id hp
 obtain⟨ab,cb,rfl,k3,k4,_⟩:=id hy
 clear k1 k2 k3 k4
 refine zS Tryz.func6 rfl Tryz.ntmps6 (Nat.le_of_ble_eq_true rfl) ?_
 intro w0 hw0
 refine At.nrm ?_
 refine At.zh (.n false 0 (.q 1 .done)) ?_
 refine AtT.jS ?_
 intro b3
 refine AtT.zf ?_
 refine AtT.done ?_
 refine At.nrm ?_
 refine At.giveB (b:=b3) zN.zx (fun V0 hV0 hb3=>?_)
 have hcb:=qj hb3
 refine At.zh (.q 0 .done) ?_
 refine AtT.zf ?_
 refine AtT.done ?_
 refine At.nrm ?_
 refine At.zh (.q 0 .done) ?_
 refine AtT.zf ?_
 refine AtT.done ?_
 refine At.nrm ?_
 refine At.newRow 22 1 ?_
 refine At.lp (ι:=Nat×Option Addr×Nat×List (Option Addr×Nat×List Int)) (KS:=fun g=>[(1,.slice ap ps.length cp),(2,.slice ab by'.length cb),(3,.pointer (some ⟨b3,0,none⟩)),(7,.slice g.2.1 g.2.2.2.length g.2.2.1),(8,iv g.1)])
  (OS:=fun g=>.row (.slice g.2.1 g.2.2.2.length g.2.2.1) 22 1 g.2.2.2.length (flat sl3 (g.2.2.2.map tri))::rws g.2.2.2)
  (VS:=fun g V'=>Le V0 V'∧g.1≤ps.length∧TnP ps (whl b).length g.1 (g.2.2.2.map (·.2.2))) (μ:=fun g=>ps.length-g.1) (0,none,0,[]) ?_ ?_ ?_ ?_
 ·exact⟨rfl,rfl,rfl,rfl,rfl,trivial⟩
 ·exact Pt.zx
 ·exact⟨Le.refl _,Nat.zero_le _,TnP.nil _ _⟩
 rintro⟨i,ao,co,RS⟩ V1 ks' O' ⟨hV1,hi1,htp⟩ hk hO hl1
 dsimp only at hi1 htp hk hO
 subst hk hO
 have hV01:=hV0.trans hV1
 have hcnt:=htp.cnt
 rw[List.length_map]at hcnt
 refine At.nrm ?_
 refine At.zh (.q 0 (.q 1 (.q 2 (.q 3 .done)))) ?_
 refine AtT.ze ?_
 refine AtT.ze ?_
 first | refine AtT.zK Tryz.underlying25 ?_ | refine AtT.zL Tryz.underlying25 ?_
 refine AtT.qg ?_
 refine AtT.done ?_
 refine At.nrm ?_
 refine At.zZ rfl (fun hc=>?_) (fun hc=>?_)
 rotate_left
 ·obtain rfl:i=ps.length:=by omega
  refine At.nrm ?_
  refine At.perm (O':=rws RS++[.row (.slice ao RS.length co) 22 1 RS.length (flat sl3 (RS.map tri))]) (List.perm_append_comm (l₁:=[_])) ?_
  refine At.lendL (RS:=RS) fun V2 hL2=>?_
  refine At.giveSl (l:=RS.map tri) sl3_len rfl (by rw[List.length_map]) zN.zx (fun V4 hV4 hs4=>?_)
  refine At.zh (.q 0 (.q 1 .done)) ?_
  refine AtT.ze ?_
  refine AtT.zf ?_
  refine AtT.done ?_
  refine At.nrm ?_
  refine At.zT rfl (.tmp rfl) ⟨RS.map (·.2.2),⟨RS.map tri,hs4,by simp,fun i q l h1 h2=>?_⟩,htp.ok⟩
  rw[List.getElem?_map]at h1 h2
  cases hr:RS[i]? with
  | none=>rw[hr]at h1; cases h1
  | some r=>
   rw[hr]at h1 h2
   cases h1; cases h2
   exact(hL2.sl Lw.jd r (List.mem_of_getElem? hr)).le hV4
 have hil:i<ps.length:=by omega
 obtain⟨p0,hp0⟩:∃ p,ps[i]? = some p:=⟨_,List.getElem?_eq_getElem hil⟩
 refine At.lend (O:=.row (.slice ao RS.length co) 22 1 RS.length (flat sl3 (RS.map tri))::rws RS) zN.here ?_
 intro Va hVa hLa
 rw[show rws RS=rowsO 3 1 ei RS++[] by rw[List.append_nil]]
 refine At.lendL (RS:=RS) fun V2 hL2=>?_
 have hVa2:=hL2.le
 have hso:Sl V2 sl3 1 (.slice ao RS.length co) (RS.map tri):=by
  have:=(Lent.sl (l:=RS.map tri) sl3_len (by rw[List.length_map]; exact hLa)).le hVa2
  rwa[List.length_map]at this
 have hV12:=hVa.trans hVa2
 have hp2:=(hp.le hV01).le hV12
 have hs2:=(hs.le hV01).le hV12
 have hy2:=(hy.le hV01).le hV12
 have hcb2:=(hcb.le hV1).le hV12
 have hsr:=hL2.sl Lw.jd
 have hmt:(RS.map tri).length=RS.length:=by rw[List.length_map]
 refine At.nrm ?_
 refine At.zh (.q 0 (.q 1 (.q 2 (.q 3 .done)))) ?_
 refine AtT.ze ?_
 first | refine AtT.zK Tryz.underlying30 ?_ | refine AtT.zL Tryz.underlying30 ?_
 rw[hmt]
 refine AtT.zf ?_
 refine AtT.zf ?_
 refine AtT.done ?_
 refine At.nrm ?_
 refine At.zh (.q 0 (.q 1 (.q 2 .done))) ?_
 refine AtT.ze ?_
 first | refine AtT.zK Tryz.underlying26 ?_ | refine AtT.zL Tryz.underlying26 ?_
 refine AtT.qx ?_
 refine AtT.done ?_
 refine At.nrmB ?_
 refine At.cutG (ι:=Int) (fun f=>[(1,.slice ap ps.length cp),(2,.slice ab by'.length cb),(3,.pointer (some ⟨b3,0,none⟩)),(7,.slice ao RS.length co),(8,iv i),(9,iv RS.length),(10,iv f)]) (fun _=>[])
  (fun f V''=>Le V2 V''∧0≤f∧f≤255) ?_ ?_
 ·refine At.zZ rfl (fun hc=>?_) (fun hc=>?_)
  ·have t0:=Int.tmod_nonneg (by'.length:Int) (show 0≤(i:Int) by omega)
   have t1:=Int.tmod_lt_of_pos (i:Int) (b:=(by'.length:Int)) (by omega)
   refine At.nrm ?_
   refine At.zh (.q 0 (.q 1 (.q 2 (.q 3 (.q 4 (.q 5 (.q 6 (.q 7 (.q 8 .done))))))))) ?_
   refine AtT.ze ?_
   refine AtT.ze ?_
   refine AtT.ze ?_
   first | refine AtT.zK Tryz.underlying26 ?_ | refine AtT.zL Tryz.underlying26 ?_
   refine AtT.krem ?_
   refine AtT.zU Tryz.underlying26 tk5 ?_
   intro p30 e30 he30 hc30
   first | refine AtT.zk tk5 ?_ | refine AtT.zo tk5 ?_
   refine AtT.kconv un5 Tryz.underlying3 ?_
   have hu:=e30.h
   rw[wrap_fit (Fit.of (by omega) (by omega))]
   refine AtT.zf ?_
   refine AtT.done ?_
   refine At.nrm ?_
   exact At.kH e30.n ⟨Le.refl _,e30.h.1,e30.h.2⟩ ⟨rfl,rfl,rfl,rfl,rfl,rfl,rfl,trivial⟩ Pt.zx
  ·refine At.nrm ?_
   exact At.kH 0 ⟨Le.refl _,Int.le_refl _,by decide⟩ ⟨rfl,rfl,rfl,rfl,rfl,rfl,rfl,trivial⟩ Pt.zx
 rintro f V3 ks' O' ⟨hV3,hf0,hf1⟩ hk hO hl3
 subst hk hO
 refine At.nrm ?_
 refine At.zh (.q 0 (.q 1 .done)) ?_
 refine AtT.ze ?_
 refine AtT.zf ?_
 refine AtT.done ?_
 refine At.nrm ?_
 refine At.zh (.q 0 .done) ?_
 refine AtT.zf ?_
 refine AtT.done ?_
 refine At.nrm ?_
 refine At.lp (ι:=Nat×Nat) (KS:=fun g=>[(1,.slice ap ps.length cp),(2,.slice ab by'.length cb),(3,.pointer (some ⟨b3,0,none⟩)),(7,.slice ao RS.length co),(8,iv i),(9,iv RS.length),(10,iv f),(11,iv g.2),(12,iv g.1)]) (OS:=fun _=>[])
  (VS:=fun g V'=>Le V2 V'∧g.1≤RS.length∧(g.2=RS.length∨∃ r z,RS[g.2]? = some r∧r.2.2[0]? = some z∧hAt ps z=hAt ps (i:Int)∧r.2.2.length<(whl b).length)) (μ:=fun g=>RS.length-g.1) (0,RS.length) ?_ ?_ ?_ ?_
 ·exact⟨rfl,rfl,rfl,rfl,rfl,rfl,rfl,rfl,rfl,trivial⟩
 ·exact Pt.zx
 ·exact⟨hV3,Nat.zero_le _,.inl rfl⟩
 rintro⟨k,tn⟩ V4 ks' O' ⟨hV4,hkl,htn⟩ hk hO hl4
 dsimp only at hkl htn hk hO
 subst hk hO
 have hp4:=hp2.le hV4
 have hs4:=hs2.le hV4
 have hso4:=hso.le hV4
 have hcb4:=hcb2.le hV4
 refine At.nrm ?_
 refine At.zh (.q 0 (.q 1 (.q 2 .done))) ?_
 refine AtT.ze ?_
 refine AtT.ze ?_
 refine AtT.qg ?_
 refine AtT.done ?_
 refine At.nrm ?_
 refine At.zZ rfl (fun hc2=>?_) (fun hc2=>?_)
 ·have hkl2:k<RS.length:=by omega
  have q0:=Int.tmod_nonneg (RS.length:Int) hf0
  have q1:=Int.tmod_lt_of_pos f (b:=(RS.length:Int)) (by omega)
  have q2:=Int.tmod_nonneg (RS.length:Int) (show 0≤f.tmod (RS.length:Int)+(k:Int) by omega)
  have q3:=Int.tmod_lt_of_pos (f.tmod (RS.length:Int)+(k:Int)) (b:=(RS.length:Int)) (by omega)
  obtain⟨o,hoe⟩:∃ o:Nat,(f.tmod (RS.length:Int)+(k:Int)).tmod (RS.length:Int)=(o:Int):=⟨_,(Int.toNat_of_nonneg q2).symm⟩
  have hol:o<RS.length:=by omega
  obtain⟨⟨ra,rc,rl⟩,hr⟩:∃ r,RS[o]? = some r:=⟨_,List.getElem?_eq_getElem hol⟩
  have hrm:=List.mem_of_getElem? hr
  have hlm:rl∈RS.map (·.2.2):=List.mem_map_of_mem (f:=fun r:Option Addr×Nat×List Int=>r.2.2) hrm
  have hne:=htp.ne _ hlm
  have his:=htp.is _ hlm
  have hpos:0<rl.length:=List.length_pos_iff.2 hne
  obtain⟨z,hz⟩:∃ z,rl[0]? = some z:=⟨_,List.getElem?_eq_getElem hpos⟩
  have hzb:=his.bd z (List.mem_of_getElem? hz)
  have hsr4:SlI V4 (.slice ra rl.length rc) rl:=(hsr _ hrm).le hV4
  obtain⟨pz,hpz⟩:∃ p,ps[z.toNat]? = some p:=⟨_,List.getElem?_eq_getElem (by omega)⟩
  have hot:(RS.map tri)[o]? = some (ra,rl.length,rc):=by rw[List.getElem?_map,hr]; rfl
  refine At.nrm ?_
  refine At.zh (.q 0 (.q 1 (.q 2 (.q 3 (.q 4 (.q 5 (.q 6 (.q 7 .done)))))))) ?_
  refine AtT.ze ?_
  refine AtT.ze ?_
  refine AtT.krem ?_
  refine AtT.ze ?_
  first | refine AtT.qm ?_ | refine AtT.zR ?_
  refine AtT.ze ?_
  refine AtT.krem ?_
  rw[hoe]
  refine AtT.zf ?_
  refine AtT.done ?_
  refine At.nrm ?_
  by_cases c1:tn=RS.length
  rotate_left
  ·refine At.draw (.q 0 (.q 1 (.q 2 (.q 3 (.q 4 (.q 5 (.q 6 (.q 7 (.q 8 (.q 9 (.q 10 (.q 11 (.q 12 (.q 13 (.q 14 (.q 15 (.q 16 (.q 17 (.q 18 (.q 19 (.q 20 (.q 21 (.q 22 (.q 23 (.q 24 (.q 25 (.q 26 (.q 27 (.q 28 (.q 29 (.q 30 (.q 31 (.q 32 (.n false 33 (.q 34 (.q 35 (.q 36 .done))))))))))))))))))))))))))))))))))))) ffm (by kernel_rfl) ?_
   refine AtT.ze ?_
   refine AtT.ze ?_
   refine AtT.jR ?_
   refine AtT.qA (d:=48) rfl ((by omega)) ?_
   refine AtT.ze ?_
   all_goals (first | refine AtT.kL 49 ?_ | refine AtT.zD (d:=49) rfl (fun hg49=>?_) (fun hg49=>?_) | refine AtT.zC (d:=49) rfl (fun hg49=>?_) (fun hg49=>?_))
   all_goals first|refine AtT.zi ?_|refine AtT.zg ?_|(refine AtT.ze ?_)
   all_goals first|refine AtT.zi ?_|refine AtT.zg ?_|(refine AtT.krem ?_)
   all_goals first|refine AtT.zi ?_|refine AtT.zg ?_|(refine AtT.qx ?_)
   all_goals (refine AtT.zF ?_)
   all_goals (refine AtT.ze ?_)
   all_goals (first | refine AtT.kL 54 ?_ | refine AtT.zD (d:=54) rfl (fun hg54=>?_) (fun hg54=>?_) | refine AtT.zC (d:=54) rfl (fun hg54=>?_) (fun hg54=>?_))
   all_goals first|refine AtT.zi ?_|refine AtT.zg ?_|(refine AtT.ze ?_)
   all_goals first|refine AtT.zi ?_|refine AtT.zg ?_|(refine AtT.ze ?_)
   all_goals first|refine AtT.zi ?_|refine AtT.zg ?_|(refine AtT.ze ?_)
   all_goals first|refine AtT.zi ?_|refine AtT.zg ?_|(refine AtT.zU Tryz.underlying30 zQ ?_);(intro p58 e58 he58 hc58)
   all_goals first|refine AtT.zi ?_|refine AtT.zg ?_|(first | refine AtT.zk zQ ?_ | refine AtT.zo zQ ?_)
   all_goals first|refine AtT.zi ?_|refine AtT.zg ?_|(refine AtT.zU Tryz.underlying22 tk3 ?_);(intro p60 e60 he60 hc60)
   all_goals first|refine AtT.zi ?_|refine AtT.zg ?_|(first | refine AtT.zk tk3 ?_ | refine AtT.zo tk3 ?_)
   all_goals first|refine AtT.zi ?_|refine AtT.zg ?_|(refine AtT.zU Tryz.underlying25 kN ?_);(intro p62 e62 he62 hc62)
   all_goals first|refine AtT.zi ?_|refine AtT.zg ?_|(first | refine AtT.zm zH ?_ | with_reducible refine AtT.zn zH ?_ | refine AtT.zq zH ?_)
   all_goals first|refine AtT.zi ?_|refine AtT.zg ?_|(first | refine AtT.zk tk3 ?_ | refine AtT.zo tk3 ?_)
   all_goals first|refine AtT.zi ?_|refine AtT.zg ?_|(refine AtT.ze ?_)
   all_goals first|refine AtT.zi ?_|refine AtT.zg ?_|(refine AtT.ze ?_)
   all_goals first|refine AtT.zi ?_|refine AtT.zg ?_|(refine AtT.zU Tryz.underlying25 kN ?_);(intro p67 e67 he67 hc67)
   all_goals first|refine AtT.zi ?_|refine AtT.zg ?_|(first | refine AtT.zm zH ?_ | with_reducible refine AtT.zn zH ?_ | refine AtT.zq zH ?_)
   all_goals first|refine AtT.zi ?_|refine AtT.zg ?_|(first | refine AtT.zk tk3 ?_ | refine AtT.zo tk3 ?_)
   all_goals first|refine AtT.zi ?_|refine AtT.zg ?_|(refine AtT.jR ?_)
   all_goals (refine AtT.zF ?_)
   all_goals (refine AtT.ze ?_)
   all_goals (first | refine AtT.kL 72 ?_ | refine AtT.zD (d:=72) rfl (fun hg72=>?_) (fun hg72=>?_) | refine AtT.zC (d:=72) rfl (fun hg72=>?_) (fun hg72=>?_))
   all_goals first|refine AtT.zi ?_|refine AtT.zg ?_|(refine AtT.ze ?_)
   all_goals first|refine AtT.zi ?_|refine AtT.zg ?_|(refine AtT.ze ?_)
   all_goals first|refine AtT.zi ?_|refine AtT.zg ?_|(refine AtT.zU Tryz.underlying30 zQ ?_);(intro p75 e75 he75 hc75)
   all_goals first|refine AtT.zi ?_|refine AtT.zg ?_|(first | refine AtT.zk zQ ?_ | refine AtT.zo zQ ?_)
   all_goals first|refine AtT.zi ?_|refine AtT.zg ?_|(first | refine AtT.zK Tryz.underlying22 ?_ | refine AtT.zL Tryz.underlying22 ?_)
   all_goals first|refine AtT.zi ?_|refine AtT.zg ?_|(first | refine AtT.zB qz ?_ | refine AtT.zM qz ?_ | refine AtT.zA qz ?_)
   all_goals first|refine AtT.jb ?_|refine AtT.qM ?_|((fail))
   all_goals first|refine AtT.zi ?_|refine AtT.zg ?_|(first | refine AtT.zK Tryz.underlying22 ?_ | refine AtT.zL Tryz.underlying22 ?_)
   all_goals first|refine AtT.zi ?_|refine AtT.zg ?_|(refine AtT.qg ?_)
   all_goals (refine AtT.zF ?_)
   all_goals refine AtT.done ?_
   all_goals (refine At.nrm ?_)
   refine At.qf rfl rfl ?_
   refine At.nrm ?_
   refine At.zh (.q 0 (.q 1 (.q 2 .done))) ?_
   refine AtT.ze ?_
   first | refine AtT.qm ?_ | refine AtT.zR ?_
   refine AtT.zf ?_
   refine AtT.done ?_
   refine At.nrm ?_
   refine At.round (k+1,tn) ?_ ?_ ?_ ?_
   ·show RS.length-(k+1)<RS.length-k; omega
   ·exact⟨hV4,by dsimp only; omega,htn⟩
   ·exact⟨rfl,rfl,rfl,rfl,rfl,rfl,rfl,rfl,rfl,trivial⟩
   ·exact Pt.zx
  by_cases c2:0<f.tmod 7
  rotate_left
  ·refine At.draw (.q 0 (.q 1 (.q 2 (.q 3 (.q 4 (.q 5 (.q 6 (.q 7 (.q 8 (.q 9 (.q 10 (.q 11 (.q 12 (.q 13 (.q 14 (.q 15 (.q 16 (.q 17 (.q 18 (.q 19 (.q 20 (.q 21 (.q 22 (.q 23 (.q 24 (.q 25 (.q 26 (.q 27 (.q 28 (.q 29 (.q 30 (.q 31 (.q 32 (.n false 33 (.q 34 (.q 35 (.q 36 .done))))))))))))))))))))))))))))))))))))) ffm (by kernel_rfl) ?_
   refine AtT.ze ?_
   refine AtT.ze ?_
   refine AtT.jR ?_
   refine AtT.jv (d:=48) rfl ((by omega)) ?_
   refine AtT.ze ?_
   all_goals (first | refine AtT.kL 49 ?_ | refine AtT.zD (d:=49) rfl (fun hg49=>?_) (fun hg49=>?_) | refine AtT.zC (d:=49) rfl (fun hg49=>?_) (fun hg49=>?_))
   all_goals first|refine AtT.zi ?_|refine AtT.zg ?_|(refine AtT.ze ?_)
   all_goals first|refine AtT.zi ?_|refine AtT.zg ?_|(refine AtT.krem ?_)
   all_goals first|refine AtT.zi ?_|refine AtT.zg ?_|(refine AtT.qx ?_)
   all_goals (refine AtT.qA (d:=52) rfl (c2) ?_)
   all_goals (refine AtT.zF ?_)
   all_goals (refine AtT.ze ?_)
   all_goals (first | refine AtT.kL 54 ?_ | refine AtT.zD (d:=54) rfl (fun hg54=>?_) (fun hg54=>?_) | refine AtT.zC (d:=54) rfl (fun hg54=>?_) (fun hg54=>?_))
   all_goals first|refine AtT.zi ?_|refine AtT.zg ?_|(refine AtT.ze ?_)
   all_goals first|refine AtT.zi ?_|refine AtT.zg ?_|(refine AtT.ze ?_)
   all_goals first|refine AtT.zi ?_|refine AtT.zg ?_|(refine AtT.ze ?_)
   all_goals first|refine AtT.zi ?_|refine AtT.zg ?_|(refine AtT.zU Tryz.underlying30 zQ ?_);(intro p58 e58 he58 hc58)
   all_goals first|refine AtT.zi ?_|refine AtT.zg ?_|(first | refine AtT.zk zQ ?_ | refine AtT.zo zQ ?_)
   all_goals first|refine AtT.zi ?_|refine AtT.zg ?_|(refine AtT.zU Tryz.underlying22 tk3 ?_);(intro p60 e60 he60 hc60)
   all_goals first|refine AtT.zi ?_|refine AtT.zg ?_|(first | refine AtT.zk tk3 ?_ | refine AtT.zo tk3 ?_)
   all_goals first|refine AtT.zi ?_|refine AtT.zg ?_|(refine AtT.zU Tryz.underlying25 kN ?_);(intro p62 e62 he62 hc62)
   all_goals first|refine AtT.zi ?_|refine AtT.zg ?_|(first | refine AtT.zm zH ?_ | with_reducible refine AtT.zn zH ?_ | refine AtT.zq zH ?_)
   all_goals first|refine AtT.zi ?_|refine AtT.zg ?_|(first | refine AtT.zk tk3 ?_ | refine AtT.zo tk3 ?_)
   all_goals first|refine AtT.zi ?_|refine AtT.zg ?_|(refine AtT.ze ?_)
   all_goals first|refine AtT.zi ?_|refine AtT.zg ?_|(refine AtT.ze ?_)
   all_goals first|refine AtT.zi ?_|refine AtT.zg ?_|(refine AtT.zU Tryz.underlying25 kN ?_);(intro p67 e67 he67 hc67)
   all_goals first|refine AtT.zi ?_|refine AtT.zg ?_|(first | refine AtT.zm zH ?_ | with_reducible refine AtT.zn zH ?_ | refine AtT.zq zH ?_)
   all_goals first|refine AtT.zi ?_|refine AtT.zg ?_|(first | refine AtT.zk tk3 ?_ | refine AtT.zo tk3 ?_)
   all_goals first|refine AtT.zi ?_|refine AtT.zg ?_|(refine AtT.jR ?_)
   all_goals (refine AtT.zF ?_)
   all_goals (refine AtT.ze ?_)
   all_goals (first | refine AtT.kL 72 ?_ | refine AtT.zD (d:=72) rfl (fun hg72=>?_) (fun hg72=>?_) | refine AtT.zC (d:=72) rfl (fun hg72=>?_) (fun hg72=>?_))
   all_goals first|refine AtT.zi ?_|refine AtT.zg ?_|(refine AtT.ze ?_)
   all_goals first|refine AtT.zi ?_|refine AtT.zg ?_|(refine AtT.ze ?_)
   all_goals first|refine AtT.zi ?_|refine AtT.zg ?_|(refine AtT.zU Tryz.underlying30 zQ ?_);(intro p75 e75 he75 hc75)
   all_goals first|refine AtT.zi ?_|refine AtT.zg ?_|(first | refine AtT.zk zQ ?_ | refine AtT.zo zQ ?_)
   all_goals first|refine AtT.zi ?_|refine AtT.zg ?_|(first | refine AtT.zK Tryz.underlying22 ?_ | refine AtT.zL Tryz.underlying22 ?_)
   all_goals first|refine AtT.zi ?_|refine AtT.zg ?_|(first | refine AtT.zB qz ?_ | refine AtT.zM qz ?_ | refine AtT.zA qz ?_)
   all_goals first|refine AtT.jb ?_|refine AtT.qM ?_|((fail))
   all_goals first|refine AtT.zi ?_|refine AtT.zg ?_|(first | refine AtT.zK Tryz.underlying22 ?_ | refine AtT.zL Tryz.underlying22 ?_)
   all_goals first|refine AtT.zi ?_|refine AtT.zg ?_|(refine AtT.qg ?_)
   all_goals (refine AtT.zF ?_)
   all_goals refine AtT.done ?_
   all_goals (refine At.nrm ?_)
   refine At.qf rfl rfl ?_
   refine At.nrm ?_
   refine At.zh (.q 0 (.q 1 (.q 2 .done))) ?_
   refine AtT.ze ?_
   first | refine AtT.qm ?_ | refine AtT.zR ?_
   refine AtT.zf ?_
   refine AtT.done ?_
   refine At.nrm ?_
   refine At.round (k+1,tn) ?_ ?_ ?_ ?_
   ·show RS.length-(k+1)<RS.length-k; omega
   ·exact⟨hV4,by dsimp only; omega,htn⟩
   ·exact⟨rfl,rfl,rfl,rfl,rfl,rfl,rfl,rfl,rfl,trivial⟩
   ·exact Pt.zx
  by_cases c3:pz.h=p0.h
  rotate_left
  ·refine At.draw (.q 0 (.q 1 (.q 2 (.q 3 (.q 4 (.q 5 (.q 6 (.q 7 (.q 8 (.q 9 (.q 10 (.q 11 (.q 12 (.q 13 (.q 14 (.q 15 (.q 16 (.q 17 (.q 18 (.q 19 (.q 20 (.q 21 (.q 22 (.q 23 (.q 24 (.q 25 (.q 26 (.q 27 (.q 28 (.q 29 (.q 30 (.q 31 (.q 32 (.n false 33 (.q 34 (.q 35 (.q 36 .done))))))))))))))))))))))))))))))))))))) ffm (by kernel_rfl) ?_
   refine AtT.ze ?_
   refine AtT.ze ?_
   refine AtT.jR ?_
   refine AtT.jv (d:=48) rfl ((by omega)) ?_
   refine AtT.ze ?_
   all_goals (first | refine AtT.kL 49 ?_ | refine AtT.zD (d:=49) rfl (fun hg49=>?_) (fun hg49=>?_) | refine AtT.zC (d:=49) rfl (fun hg49=>?_) (fun hg49=>?_))
   all_goals first|refine AtT.zi ?_|refine AtT.zg ?_|(refine AtT.ze ?_)
   all_goals first|refine AtT.zi ?_|refine AtT.zg ?_|(refine AtT.krem ?_)
   all_goals first|refine AtT.zi ?_|refine AtT.zg ?_|(refine AtT.qx ?_)
   all_goals (refine AtT.jv (d:=52) rfl (c2) ?_)
   all_goals (refine AtT.zF ?_)
   all_goals (refine AtT.ze ?_)
   all_goals (first | refine AtT.kL 54 ?_ | refine AtT.zD (d:=54) rfl (fun hg54=>?_) (fun hg54=>?_) | refine AtT.zC (d:=54) rfl (fun hg54=>?_) (fun hg54=>?_))
   all_goals first|refine AtT.zi ?_|refine AtT.zg ?_|(refine AtT.ze ?_)
   all_goals first|refine AtT.zi ?_|refine AtT.zg ?_|(refine AtT.ze ?_)
   all_goals first|refine AtT.zi ?_|refine AtT.zg ?_|(refine AtT.ze ?_)
   all_goals first|refine AtT.zi ?_|refine AtT.zg ?_|(refine AtT.zU Tryz.underlying30 zQ ?_);(intro p58 e58 he58 hc58)
   all_goals (obtain rfl:(ra,rl.length,rc)=e58:=by have:(RS.map tri)[o]? = some e58:=(by simpa using he58); rw[hot]at this; simpa using this)
   all_goals first|refine AtT.zi ?_|refine AtT.zg ?_|(first | refine AtT.zk zQ ?_ | refine AtT.zo zQ ?_)
   all_goals first|refine AtT.zi ?_|refine AtT.zg ?_|(refine AtT.zU Tryz.underlying22 tk3 ?_);(intro p60 e60 he60 hc60)
   all_goals (obtain rfl:z=e60:=by have:rl[0]? = some e60:=(by simpa using he60); rw[hz]at this; simpa using this)
   all_goals first|refine AtT.zi ?_|refine AtT.zg ?_|(first | refine AtT.zk tk3 ?_ | refine AtT.zo tk3 ?_)
   all_goals first|refine AtT.zi ?_|refine AtT.zg ?_|(refine AtT.zU Tryz.underlying25 kN ?_);(intro p62 e62 he62 hc62)
   all_goals (obtain rfl:pz=e62:=by rw[hpz]at he62; simpa using he62)
   all_goals first|refine AtT.zi ?_|refine AtT.zg ?_|(first | refine AtT.zm zH ?_ | with_reducible refine AtT.zn zH ?_ | refine AtT.zq zH ?_)
   all_goals first|refine AtT.zi ?_|refine AtT.zg ?_|(first | refine AtT.zk tk3 ?_ | refine AtT.zo tk3 ?_)
   all_goals first|refine AtT.zi ?_|refine AtT.zg ?_|(refine AtT.ze ?_)
   all_goals first|refine AtT.zi ?_|refine AtT.zg ?_|(refine AtT.ze ?_)
   all_goals first|refine AtT.zi ?_|refine AtT.zg ?_|(refine AtT.zU Tryz.underlying25 kN ?_);(intro p67 e67 he67 hc67)
   all_goals (obtain rfl:p0=e67:=by have:ps[i]? = some e67:=(by simpa using he67); rw[hp0]at this; simpa using this)
   all_goals first|refine AtT.zi ?_|refine AtT.zg ?_|(first | refine AtT.zm zH ?_ | with_reducible refine AtT.zn zH ?_ | refine AtT.zq zH ?_)
   all_goals first|refine AtT.zi ?_|refine AtT.zg ?_|(first | refine AtT.zk tk3 ?_ | refine AtT.zo tk3 ?_)
   all_goals first|refine AtT.zi ?_|refine AtT.zg ?_|(refine AtT.jR ?_)
   all_goals (refine AtT.qA (d:=70) rfl (c3) ?_)
   all_goals (refine AtT.zF ?_)
   all_goals (refine AtT.ze ?_)
   all_goals (first | refine AtT.kL 72 ?_ | refine AtT.zD (d:=72) rfl (fun hg72=>?_) (fun hg72=>?_) | refine AtT.zC (d:=72) rfl (fun hg72=>?_) (fun hg72=>?_))
   all_goals first|refine AtT.zi ?_|refine AtT.zg ?_|(refine AtT.ze ?_)
   all_goals first|refine AtT.zi ?_|refine AtT.zg ?_|(refine AtT.ze ?_)
   all_goals first|refine AtT.zi ?_|refine AtT.zg ?_|(refine AtT.zU Tryz.underlying30 zQ ?_);(intro p75 e75 he75 hc75)
   all_goals first|refine AtT.zi ?_|refine AtT.zg ?_|(first | refine AtT.zk zQ ?_ | refine AtT.zo zQ ?_)
   all_goals first|refine AtT.zi ?_|refine AtT.zg ?_|(first | refine AtT.zK Tryz.underlying22 ?_ | refine AtT.zL Tryz.underlying22 ?_)
   all_goals first|refine AtT.zi ?_|refine AtT.zg ?_|(first | refine AtT.zB qz ?_ | refine AtT.zM qz ?_ | refine AtT.zA qz ?_)
   all_goals first|refine AtT.jb ?_|refine AtT.qM ?_|((fail))
   all_goals first|refine AtT.zi ?_|refine AtT.zg ?_|(first | refine AtT.zK Tryz.underlying22 ?_ | refine AtT.zL Tryz.underlying22 ?_)
   all_goals first|refine AtT.zi ?_|refine AtT.zg ?_|(refine AtT.qg ?_)
   all_goals (refine AtT.zF ?_)
   all_goals refine AtT.done ?_
   all_goals (refine At.nrm ?_)
   refine At.qf rfl rfl ?_
   refine At.nrm ?_
   refine At.zh (.q 0 (.q 1 (.q 2 .done))) ?_
   refine AtT.ze ?_
   first | refine AtT.qm ?_ | refine AtT.zR ?_
   refine AtT.zf ?_
   refine AtT.done ?_
   refine At.nrm ?_
   refine At.round (k+1,tn) ?_ ?_ ?_ ?_
   ·show RS.length-(k+1)<RS.length-k; omega
   ·exact⟨hV4,by dsimp only; omega,htn⟩
   ·exact⟨rfl,rfl,rfl,rfl,rfl,rfl,rfl,rfl,rfl,trivial⟩
   ·exact Pt.zx
  by_cases c4:rl.length<(whl b).length
  rotate_left
  ·refine At.draw (.q 0 (.q 1 (.q 2 (.q 3 (.q 4 (.q 5 (.q 6 (.q 7 (.q 8 (.q 9 (.q 10 (.q 11 (.q 12 (.q 13 (.q 14 (.q 15 (.q 16 (.q 17 (.q 18 (.q 19 (.q 20 (.q 21 (.q 22 (.q 23 (.q 24 (.q 25 (.q 26 (.q 27 (.q 28 (.q 29 (.q 30 (.q 31 (.q 32 (.n false 33 (.q 34 (.q 35 (.q 36 .done))))))))))))))))))))))))))))))))))))) ffm (by kernel_rfl) ?_
   refine AtT.ze ?_
   refine AtT.ze ?_
   refine AtT.jR ?_
   refine AtT.jv (d:=48) rfl ((by omega)) ?_
   refine AtT.ze ?_
   all_goals (first | refine AtT.kL 49 ?_ | refine AtT.zD (d:=49) rfl (fun hg49=>?_) (fun hg49=>?_) | refine AtT.zC (d:=49) rfl (fun hg49=>?_) (fun hg49=>?_))
   all_goals first|refine AtT.zi ?_|refine AtT.zg ?_|(refine AtT.ze ?_)
   all_goals first|refine AtT.zi ?_|refine AtT.zg ?_|(refine AtT.krem ?_)
   all_goals first|refine AtT.zi ?_|refine AtT.zg ?_|(refine AtT.qx ?_)
   all_goals (refine AtT.jv (d:=52) rfl (c2) ?_)
   all_goals (refine AtT.zF ?_)
   all_goals (refine AtT.ze ?_)
   all_goals (first | refine AtT.kL 54 ?_ | refine AtT.zD (d:=54) rfl (fun hg54=>?_) (fun hg54=>?_) | refine AtT.zC (d:=54) rfl (fun hg54=>?_) (fun hg54=>?_))
   all_goals first|refine AtT.zi ?_|refine AtT.zg ?_|(refine AtT.ze ?_)
   all_goals first|refine AtT.zi ?_|refine AtT.zg ?_|(refine AtT.ze ?_)
   all_goals first|refine AtT.zi ?_|refine AtT.zg ?_|(refine AtT.ze ?_)
   all_goals first|refine AtT.zi ?_|refine AtT.zg ?_|(refine AtT.zU Tryz.underlying30 zQ ?_);(intro p58 e58 he58 hc58)
   all_goals (obtain rfl:(ra,rl.length,rc)=e58:=by have:(RS.map tri)[o]? = some e58:=(by simpa using he58); rw[hot]at this; simpa using this)
   all_goals first|refine AtT.zi ?_|refine AtT.zg ?_|(first | refine AtT.zk zQ ?_ | refine AtT.zo zQ ?_)
   all_goals first|refine AtT.zi ?_|refine AtT.zg ?_|(refine AtT.zU Tryz.underlying22 tk3 ?_);(intro p60 e60 he60 hc60)
   all_goals (obtain rfl:z=e60:=by have:rl[0]? = some e60:=(by simpa using he60); rw[hz]at this; simpa using this)
   all_goals first|refine AtT.zi ?_|refine AtT.zg ?_|(first | refine AtT.zk tk3 ?_ | refine AtT.zo tk3 ?_)
   all_goals first|refine AtT.zi ?_|refine AtT.zg ?_|(refine AtT.zU Tryz.underlying25 kN ?_);(intro p62 e62 he62 hc62)
   all_goals (obtain rfl:pz=e62:=by rw[hpz]at he62; simpa using he62)
   all_goals first|refine AtT.zi ?_|refine AtT.zg ?_|(first | refine AtT.zm zH ?_ | with_reducible refine AtT.zn zH ?_ | refine AtT.zq zH ?_)
   all_goals first|refine AtT.zi ?_|refine AtT.zg ?_|(first | refine AtT.zk tk3 ?_ | refine AtT.zo tk3 ?_)
   all_goals first|refine AtT.zi ?_|refine AtT.zg ?_|(refine AtT.ze ?_)
   all_goals first|refine AtT.zi ?_|refine AtT.zg ?_|(refine AtT.ze ?_)
   all_goals first|refine AtT.zi ?_|refine AtT.zg ?_|(refine AtT.zU Tryz.underlying25 kN ?_);(intro p67 e67 he67 hc67)
   all_goals (obtain rfl:p0=e67:=by have:ps[i]? = some e67:=(by simpa using he67); rw[hp0]at this; simpa using this)
   all_goals first|refine AtT.zi ?_|refine AtT.zg ?_|(first | refine AtT.zm zH ?_ | with_reducible refine AtT.zn zH ?_ | refine AtT.zq zH ?_)
   all_goals first|refine AtT.zi ?_|refine AtT.zg ?_|(first | refine AtT.zk tk3 ?_ | refine AtT.zo tk3 ?_)
   all_goals first|refine AtT.zi ?_|refine AtT.zg ?_|(refine AtT.jR ?_)
   all_goals (refine AtT.jv (d:=70) rfl (c3) ?_)
   all_goals (refine AtT.zF ?_)
   all_goals (refine AtT.ze ?_)
   all_goals (first | refine AtT.kL 72 ?_ | refine AtT.zD (d:=72) rfl (fun hg72=>?_) (fun hg72=>?_) | refine AtT.zC (d:=72) rfl (fun hg72=>?_) (fun hg72=>?_))
   all_goals first|refine AtT.zi ?_|refine AtT.zg ?_|(refine AtT.ze ?_)
   all_goals first|refine AtT.zi ?_|refine AtT.zg ?_|(refine AtT.ze ?_)
   all_goals first|refine AtT.zi ?_|refine AtT.zg ?_|(refine AtT.zU Tryz.underlying30 zQ ?_);(intro p75 e75 he75 hc75)
   all_goals (obtain rfl:(ra,rl.length,rc)=e75:=by have:(RS.map tri)[o]? = some e75:=(by simpa using he75); rw[hot]at this; simpa using this)
   all_goals first|refine AtT.zi ?_|refine AtT.zg ?_|(first | refine AtT.zk zQ ?_ | refine AtT.zo zQ ?_)
   all_goals first|refine AtT.zi ?_|refine AtT.zg ?_|(first | refine AtT.zK Tryz.underlying22 ?_ | refine AtT.zL Tryz.underlying22 ?_)
   all_goals first|refine AtT.zi ?_|refine AtT.zg ?_|(first | refine AtT.zB qz ?_ | refine AtT.zM qz ?_ | refine AtT.zA qz ?_)
   all_goals first|refine AtT.jb ?_|refine AtT.qM ?_|((refine AtT.jQ rfl rfl ok10 (wholeOf_f b ho a c _ hs4) ?_);(rintro v79 V79 hV79 hw79; obtain⟨aw,cw,rfl,_,_,_⟩:=id hw79))
   all_goals first|refine AtT.zi ?_|refine AtT.zg ?_|(first | refine AtT.zK Tryz.underlying22 ?_ | refine AtT.zL Tryz.underlying22 ?_)
   all_goals first|refine AtT.zi ?_|refine AtT.zg ?_|(refine AtT.qg ?_)
   all_goals (refine AtT.qA (d:=81) rfl ((by omega)) ?_)
   all_goals (refine AtT.zF ?_)
   all_goals refine AtT.done ?_
   all_goals (refine At.nrm ?_)
   refine At.qf rfl rfl ?_
   refine At.nrm ?_
   refine At.zh (.q 0 (.q 1 (.q 2 .done))) ?_
   refine AtT.ze ?_
   first | refine AtT.qm ?_ | refine AtT.zR ?_
   refine AtT.zf ?_
   refine AtT.done ?_
   refine At.nrm ?_
   refine At.round (k+1,tn) ?_ ?_ ?_ ?_
   ·show RS.length-(k+1)<RS.length-k; omega
   ·exact⟨hV4.trans hV79,by dsimp only; omega,htn⟩
   ·exact⟨rfl,rfl,rfl,rfl,rfl,rfl,rfl,rfl,rfl,trivial⟩
   ·exact Pt.zx
  ·refine At.draw (.q 0 (.q 1 (.q 2 (.q 3 (.q 4 (.q 5 (.q 6 (.q 7 (.q 8 (.q 9 (.q 10 (.q 11 (.q 12 (.q 13 (.q 14 (.q 15 (.q 16 (.q 17 (.q 18 (.q 19 (.q 20 (.q 21 (.q 22 (.q 23 (.q 24 (.q 25 (.q 26 (.q 27 (.q 28 (.q 29 (.q 30 (.q 31 (.q 32 (.n false 33 (.q 34 (.q 35 (.q 36 .done))))))))))))))))))))))))))))))))))))) ffm (by kernel_rfl) ?_
   refine AtT.ze ?_
   refine AtT.ze ?_
   refine AtT.jR ?_
   refine AtT.jv (d:=48) rfl ((by omega)) ?_
   refine AtT.ze ?_
   all_goals (first | refine AtT.kL 49 ?_ | refine AtT.zD (d:=49) rfl (fun hg49=>?_) (fun hg49=>?_) | refine AtT.zC (d:=49) rfl (fun hg49=>?_) (fun hg49=>?_))
   all_goals first|refine AtT.zi ?_|refine AtT.zg ?_|(refine AtT.ze ?_)
   all_goals first|refine AtT.zi ?_|refine AtT.zg ?_|(refine AtT.krem ?_)
   all_goals first|refine AtT.zi ?_|refine AtT.zg ?_|(refine AtT.qx ?_)
   all_goals (refine AtT.jv (d:=52) rfl (c2) ?_)
   all_goals (refine AtT.zF ?_)
   all_goals (refine AtT.ze ?_)
   all_goals (first | refine AtT.kL 54 ?_ | refine AtT.zD (d:=54) rfl (fun hg54=>?_) (fun hg54=>?_) | refine AtT.zC (d:=54) rfl (fun hg54=>?_) (fun hg54=>?_))
   all_goals first|refine AtT.zi ?_|refine AtT.zg ?_|(refine AtT.ze ?_)
   all_goals first|refine AtT.zi ?_|refine AtT.zg ?_|(refine AtT.ze ?_)
   all_goals first|refine AtT.zi ?_|refine AtT.zg ?_|(refine AtT.ze ?_)
   all_goals first|refine AtT.zi ?_|refine AtT.zg ?_|(refine AtT.zU Tryz.underlying30 zQ ?_);(intro p58 e58 he58 hc58)
   all_goals (obtain rfl:(ra,rl.length,rc)=e58:=by have:(RS.map tri)[o]? = some e58:=(by simpa using he58); rw[hot]at this; simpa using this)
   all_goals first|refine AtT.zi ?_|refine AtT.zg ?_|(first | refine AtT.zk zQ ?_ | refine AtT.zo zQ ?_)
   all_goals first|refine AtT.zi ?_|refine AtT.zg ?_|(refine AtT.zU Tryz.underlying22 tk3 ?_);(intro p60 e60 he60 hc60)
   all_goals (obtain rfl:z=e60:=by have:rl[0]? = some e60:=(by simpa using he60); rw[hz]at this; simpa using this)
   all_goals first|refine AtT.zi ?_|refine AtT.zg ?_|(first | refine AtT.zk tk3 ?_ | refine AtT.zo tk3 ?_)
   all_goals first|refine AtT.zi ?_|refine AtT.zg ?_|(refine AtT.zU Tryz.underlying25 kN ?_);(intro p62 e62 he62 hc62)
   all_goals (obtain rfl:pz=e62:=by rw[hpz]at he62; simpa using he62)
   all_goals first|refine AtT.zi ?_|refine AtT.zg ?_|(first | refine AtT.zm zH ?_ | with_reducible refine AtT.zn zH ?_ | refine AtT.zq zH ?_)
   all_goals first|refine AtT.zi ?_|refine AtT.zg ?_|(first | refine AtT.zk tk3 ?_ | refine AtT.zo tk3 ?_)
   all_goals first|refine AtT.zi ?_|refine AtT.zg ?_|(refine AtT.ze ?_)
   all_goals first|refine AtT.zi ?_|refine AtT.zg ?_|(refine AtT.ze ?_)
   all_goals first|refine AtT.zi ?_|refine AtT.zg ?_|(refine AtT.zU Tryz.underlying25 kN ?_);(intro p67 e67 he67 hc67)
   all_goals (obtain rfl:p0=e67:=by have:ps[i]? = some e67:=(by simpa using he67); rw[hp0]at this; simpa using this)
   all_goals first|refine AtT.zi ?_|refine AtT.zg ?_|(first | refine AtT.zm zH ?_ | with_reducible refine AtT.zn zH ?_ | refine AtT.zq zH ?_)
   all_goals first|refine AtT.zi ?_|refine AtT.zg ?_|(first | refine AtT.zk tk3 ?_ | refine AtT.zo tk3 ?_)
   all_goals first|refine AtT.zi ?_|refine AtT.zg ?_|(refine AtT.jR ?_)
   all_goals (refine AtT.jv (d:=70) rfl (c3) ?_)
   all_goals (refine AtT.zF ?_)
   all_goals (refine AtT.ze ?_)
   all_goals (first | refine AtT.kL 72 ?_ | refine AtT.zD (d:=72) rfl (fun hg72=>?_) (fun hg72=>?_) | refine AtT.zC (d:=72) rfl (fun hg72=>?_) (fun hg72=>?_))
   all_goals first|refine AtT.zi ?_|refine AtT.zg ?_|(refine AtT.ze ?_)
   all_goals first|refine AtT.zi ?_|refine AtT.zg ?_|(refine AtT.ze ?_)
   all_goals first|refine AtT.zi ?_|refine AtT.zg ?_|(refine AtT.zU Tryz.underlying30 zQ ?_);(intro p75 e75 he75 hc75)
   all_goals (obtain rfl:(ra,rl.length,rc)=e75:=by have:(RS.map tri)[o]? = some e75:=(by simpa using he75); rw[hot]at this; simpa using this)
   all_goals first|refine AtT.zi ?_|refine AtT.zg ?_|(first | refine AtT.zk zQ ?_ | refine AtT.zo zQ ?_)
   all_goals first|refine AtT.zi ?_|refine AtT.zg ?_|(first | refine AtT.zK Tryz.underlying22 ?_ | refine AtT.zL Tryz.underlying22 ?_)
   all_goals first|refine AtT.zi ?_|refine AtT.zg ?_|(first | refine AtT.zB qz ?_ | refine AtT.zM qz ?_ | refine AtT.zA qz ?_)
   all_goals first|refine AtT.jb ?_|refine AtT.qM ?_|((refine AtT.jQ rfl rfl ok10 (wholeOf_f b ho a c _ hs4) ?_);(rintro v79 V79 hV79 hw79; obtain⟨aw,cw,rfl,_,_,_⟩:=id hw79))
   all_goals first|refine AtT.zi ?_|refine AtT.zg ?_|(first | refine AtT.zK Tryz.underlying22 ?_ | refine AtT.zL Tryz.underlying22 ?_)
   all_goals first|refine AtT.zi ?_|refine AtT.zg ?_|(refine AtT.qg ?_)
   all_goals (refine AtT.jv (d:=81) rfl ((by omega)) ?_)
   all_goals (refine AtT.zF ?_)
   all_goals refine AtT.done ?_
   all_goals (refine At.nrm ?_)
   refine At.qK rfl rfl ?_
   refine At.nrm ?_
   refine At.zh (.q 0 (.q 1 .done)) ?_
   refine AtT.ze ?_
   refine AtT.zf ?_
   refine AtT.done ?_
   refine At.nrm ?_
   refine At.nrm ?_
   refine At.zh (.q 0 (.q 1 (.q 2 .done))) ?_
   refine AtT.ze ?_
   first | refine AtT.qm ?_ | refine AtT.zR ?_
   refine AtT.zf ?_
   refine AtT.done ?_
   refine At.nrm ?_
   refine At.round (k+1,o) ?_ ?_ ?_ ?_
   ·show RS.length-(k+1)<RS.length-k; omega
   ·exact⟨hV4.trans hV79,by dsimp only; omega,.inr ⟨_,z,hr,hz,by rw[hAt_some hpz,hAt_some (i:=(i:Int)) (p:=p0) (by simpa using hp0),c3],c4⟩⟩
   ·exact⟨rfl,rfl,rfl,rfl,rfl,rfl,rfl,rfl,rfl,trivial⟩
   ·exact Pt.zx
 obtain rfl:k=RS.length:=by omega
 refine At.nrm ?_
 refine At.regainL hL2 hV4 (hV01.trans hVa) fun V5 hV5=>?_
 refine At.regain hLa hVa hV5 hV01 fun V6 hV6=>?_
 have hV06:=hV01.trans hV6
 rw[List.append_nil]
 refine At.nrm ?_
 refine At.zh (.q 0 (.q 1 (.q 2 .done))) ?_
 refine AtT.ze ?_
 refine AtT.ze ?_
 refine AtT.jR ?_
 refine AtT.done ?_
 refine At.nrmB ?_
 refine At.cutG (ι:=Option Addr×Nat×List (Option Addr×Nat×List Int)) (fun g=>[(1,.slice ap ps.length cp),(2,.slice ab by'.length cb),(3,.pointer (some ⟨b3,0,none⟩)),(7,.slice g.1 g.2.2.length g.2.1),(8,iv i),(11,iv tn)])
  (fun g=>.row (.slice g.1 g.2.2.length g.2.1) 22 1 g.2.2.length (flat sl3 (g.2.2.map tri))::rws g.2.2)
  (fun g V'=>Le V1 V'∧g.2.2.length≤i+1∧∃ r,g.2.2[tn]? = some r∧TnP ps (whl b).length (i+1) ((g.2.2.map (·.2.2)).set tn (r.2.2++[(i:Int)]))) ?_ ?_
 ·rcases htn with rfl | ⟨r,z,hr,hz,hh,hlw⟩
  ·refine At.qK rfl (decide_eq_true rfl) ?_
   refine At.nrm ?_
   refine At.zh (.q 0 (.n false 1 (.n true 2 (.q 3 .done)))) ?_
   refine AtT.ze ?_
   refine AtT.qi (bs30_1_0 _ _ _) ?_
   intro q88 V88 hV88 hq88
   have g88:Le V V88:=by first | exact hV88 | exact Le.trans (by assumption) hV88
   first | refine AtT.kX Tryz.underlying30 rw22 ?_
   intro a89 c89
   refine AtT.zf ?_
   refine AtT.done ?_
   refine At.nrm ?_
   refine At.newRow 3 1 ?_
   refine At.perm (O':=.row (.slice a89 (RS.length+1) c89) 22 1 (RS.length+1) (flat sl3 (RS.map tri)++[.slice none 0 0])::(rws RS++[.row (.slice none 0 0) 3 1 0 []])) ?_ ?_
   ·exact(List.Perm.swap _ _ _).trans ((List.perm_append_comm (l₁:=[_])).cons _)
   refine At.kH (a89,c89,RS++[(none,0,[])]) ⟨hV6.trans hV88,by simp; omega,(none,0,[]),by simp,?_⟩ ⟨rfl,rfl,rfl,?_,rfl,rfl,trivial⟩ ?_
   ·dsimp only
    rw[List.map_append]
    have e:(RS.map (·.2.2)++[([]:List Int)]).set RS.length ([]++[(i:Int)])=RS.map (·.2.2)++[[(i:Int)]]:=by rw[List.set_append_right _ _ (by simp)]; simp
    exact e▸htp.new hw1
   ·dsimp only
    rw[List.length_append]; rfl
   ·dsimp only
    rw[List.length_append,List.map_append,qB,show rws (RS++[(none,0,[])])=rws RS++[.row (.slice none 0 0) 3 1 0 []]from rowsO_snoc _ _]
    exact pt_all _
  ·have hr0:=(List.getElem?_eq_some_iff.1 hr).1
   refine At.qf rfl (decide_eq_false (by omega)) ?_
   refine At.nrm ?_
   refine At.kH (ao,co,RS) ⟨hV6,by dsimp only; omega,r,hr,?_⟩ ⟨rfl,rfl,rfl,rfl,rfl,rfl,trivial⟩ (pt_all _)
   exact htp.add (by rw[List.getElem?_map,hr]; rfl) hz hh hlw
 rintro⟨a7,c7,RS1⟩ V7 ks' O' ⟨hV7,hR1,⟨ra,rc,rl⟩,hr1,htp1⟩ hk hO hl7
 dsimp only at hR1 hr1 htp1 hk hO
 subst hk hO
 have hlt:=(List.getElem?_eq_some_iff.1 hr1).1
 have hg:RS1[tn]=(ra,rc,rl):=(List.getElem?_eq_some_iff.1 hr1).2
 have hcnt1:=htp1.cnt
 have hrl:rl.length≤12:=by
  have hm:rl++[(i:Int)]∈(RS1.map (·.2.2)).set tn (rl++[(i:Int)]):=List.mem_set (by rw[List.length_map]; exact hlt) _
  have:=htp1.le _ hm
  rw[List.length_append]at this
  omega
 have hmt1:(RS1.map tri).length=RS1.length:=by rw[List.length_map]
 refine At.perm ((rowsO_at hlt).cons _) ?_
 rw[hg]
 dsimp only
 refine At.rowBlk2 (v:=.slice a7 RS1.length c7) zN.here (by omega) (fun bb cap rest hbb hcap hcm hrest=>?_)
 cases hbb
 have hat:=tri_at (rest:=rest) hlt
 rw[hg]at hat
 have hV07:=hV01.trans hV7
 have hV7':=hV1.trans hV7
 refine At.nrm ?_
 refine At.zh (.q 0 (.q 1 (.q 2 (.q 3 (.q 4 (.q 5 (.q 6 (.n false 7 (.n true 8 (.q 9 (.n true 10 .done))))))))))) ?_
 refine AtT.ze ?_
 refine AtT.ze ?_
 refine AtT.ze ?_
 refine AtT.ze ?_
 refine AtT.kidxO Tryz.underlying30 zQ ?_
 refine AtT.loadO rfl trivial rfl zQ zN.zx hat (by decide) ?_
 refine AtT.ze ?_
 refine AtT.qi (qX _) ?_
 intro q97 V97 hV97 hq97
 have g97:Le V V97:=by first | exact hV97 | exact Le.trans (by assumption) hV97
 first | refine AtT.kX Tryz.underlying22 rw3 ?_
 intro a98 c98
 refine AtT.kidxO Tryz.underlying30 zQ ?_
 refine AtT.store1 rfl trivial rfl rfl zQ rfl rfl (by repeat first|exact Upd.here|apply Upd.there) (tri_set hlt (a98,c98,rl++[(i:Int)]) (by rw[List.length_append]; rfl)) ?_
 refine AtT.done ?_
 refine At.nrm ?_
 have hml:((RS1.set tn (a98,c98,rl++[(i:Int)])).map tri).length=RS1.length:=by rw[List.length_map,List.length_set]
 have hfl2:(flat sl3 ((RS1.set tn (a98,c98,rl++[(i:Int)])).map tri)).length=RS1.length*1:=by rw[qa sl3_len,hml]
 have hfl1:(flat sl3 (RS1.map tri)).length=RS1.length*1:=by rw[qa sl3_len,hmt1]
 refine At.blkRow (xs:=flat sl3 ((RS1.set tn (a98,c98,rl++[(i:Int)])).map tri)) (rest:=rest) (m:=RS1.length) (cap:=c7) (s:=1) zN.zx (by rw[←hrest,List.length_append,List.length_append,hfl2,hfl1]) hfl2 hcap hcm ?_
 refine At.nrm ?_
 refine At.zh (.q 0 (.q 1 (.q 2 .done))) ?_
 refine AtT.ze ?_
 first | refine AtT.qm ?_ | refine AtT.zR ?_
 refine AtT.zf ?_
 refine AtT.done ?_
 refine At.nrm ?_
 refine At.perm (O':=.row (.slice (some ⟨bb,0,none⟩) RS1.length c7) 22 1 RS1.length (flat sl3 ((RS1.set tn (a98,c98,rl++[(i:Int)])).map tri))::rws (RS1.set tn (a98,c98,rl++[(i:Int)]))) ?_ ?_
 ·refine List.Perm.cons _ ?_
  have:=(rowsO_set (E:=3) (s:=1) (enc:=ei) hlt (a98,c98,rl++[(i:Int)])).symm
  dsimp only at this
  rw[qB,List.length_append]at this
  exact this
 refine At.round (ι:=Nat×Option Addr×Nat×List (Option Addr×Nat×List Int)) (i:=(i,ao,co,RS)) (i+1,some ⟨bb,0,none⟩,c7,RS1.set tn (a98,c98,rl++[(i:Int)])) ?_ ?_ ?_ ?_
 ·show ps.length-(i+1)<ps.length-i; omega
 ·refine⟨hV7'.trans hV97,by dsimp only; omega,?_⟩
  dsimp only
  rw[List.map_set]
  exact htp1
 ·dsimp only; rw[List.length_set]; exact⟨rfl,rfl,rfl,rfl,rfl,trivial⟩
 ·dsimp only; rw[List.length_set]; exact pt_all _
end Go.Proofs.YtfmmggphdeiajaaGreatDoor.P
end
section
set_option linter.unusedVariables false
namespace Go.Proofs.YtfmmggphdeiajaaGreatDoor
open Go.Shelf Go.RowKit Go.Lib Go.Sort
def srt_ren:Go.Shelf.Ren:=⟨fun | 6=>109 | 14=>172 | 15=>104 | 20=>227 | 21=>228 | 22=>229 | 23=>230 | 24=>231 | 25=>232 | 26=>233 | 27=>234 | 28=>169 | 29=>170 | 46=>289 | 47=>222 | 48=>223 | 49=>290 | 50=>291 | 57=>350 | n=>n,fun | 22=>69 | 24=>73 | 25=>160 | 3=>3 | 39=>152 | 0=>0 | 53=>214 | 55=>216 | 4=>4 | 46=>207 | 45=>206 | 50=>211 | 5=>5 | 9=>9 | 66=>265 | 70=>269 | 76=>317 | 77=>318 | n=>n,fun n=>n⟩
theorem srt:SlLaysF0.n6 Tryz.prog srt_ren where
 mixed:=by kernel_rfl
 f6:=⟨"slices.SortFunc[[]crossband/boil.set,crossband/boil.set]",of_decide_eq_true (by kernel_rfl),Tryz.func109.trans (congrArg some (by kernel_rfl))⟩
 f14:=⟨"slices.pdqsortCmpFunc[crossband/boil.set]",of_decide_eq_true (by kernel_rfl),Tryz.func172.trans (congrArg some (by kernel_rfl))⟩
 f15:=Tryz.func104.trans (congrArg some (by kernel_rfl))
 f20:=⟨"slices.insertionSortCmpFunc[crossband/boil.set]",of_decide_eq_true (by kernel_rfl),Tryz.func227.trans (congrArg some (by kernel_rfl))⟩
 f21:=⟨"slices.heapSortCmpFunc[crossband/boil.set]",of_decide_eq_true (by kernel_rfl),Tryz.func228.trans (congrArg some (by kernel_rfl))⟩
 f22:=⟨"slices.breakPatternsCmpFunc[crossband/boil.set]",of_decide_eq_true (by kernel_rfl),Tryz.func229.trans (congrArg some (by kernel_rfl))⟩
 f23:=⟨"slices.choosePivotCmpFunc[crossband/boil.set]",of_decide_eq_true (by kernel_rfl),Tryz.func230.trans (congrArg some (by kernel_rfl))⟩
 f24:=⟨"slices.reverseRangeCmpFunc[crossband/boil.set]",of_decide_eq_true (by kernel_rfl),Tryz.func231.trans (congrArg some (by kernel_rfl))⟩
 f25:=⟨"slices.partialInsertionSortCmpFunc[crossband/boil.set]",of_decide_eq_true (by kernel_rfl),Tryz.func232.trans (congrArg some (by kernel_rfl))⟩
 f26:=⟨"slices.partitionEqualCmpFunc[crossband/boil.set]",of_decide_eq_true (by kernel_rfl),Tryz.func233.trans (congrArg some (by kernel_rfl))⟩
 f27:=⟨"slices.partitionCmpFunc[crossband/boil.set]",of_decide_eq_true (by kernel_rfl),Tryz.func234.trans (congrArg some (by kernel_rfl))⟩
 f28:=Tryz.func169.trans (congrArg some (by kernel_rfl))
 f29:=Tryz.func170.trans (congrArg some (by kernel_rfl))
 f46:=⟨"slices.siftDownCmpFunc[crossband/boil.set]",of_decide_eq_true (by kernel_rfl),Tryz.func289.trans (congrArg some (by kernel_rfl))⟩
 f47:=Tryz.func222.trans (congrArg some (by kernel_rfl))
 f48:=Tryz.func223.trans (congrArg some (by kernel_rfl))
 f49:=⟨"slices.medianAdjacentCmpFunc[crossband/boil.set]",of_decide_eq_true (by kernel_rfl),Tryz.func290.trans (congrArg some (by kernel_rfl))⟩
 f50:=⟨"slices.medianCmpFunc[crossband/boil.set]",of_decide_eq_true (by kernel_rfl),Tryz.func291.trans (congrArg some (by kernel_rfl))⟩
 f57:=⟨"slices.order2CmpFunc[crossband/boil.set]",of_decide_eq_true (by kernel_rfl),Tryz.func350.trans (congrArg some (by kernel_rfl))⟩
 t0:=Tryz.underlying0
 a0:=Tryz.isAgg0
 z0:=Tryz.sizeOf0
 v0:=Tryz.zeroValue0
 t3:=Tryz.underlying3
 a3:=Tryz.isAgg3
 z3:=Tryz.sizeOf3
 v3:=Tryz.zeroValue3
 t4:=Tryz.underlying4
 a4:=Tryz.isAgg4
 z4:=Tryz.sizeOf4
 v4:=Tryz.zeroValue4
 t5:=Tryz.underlying5
 a5:=Tryz.isAgg5
 z5:=Tryz.sizeOf5
 v5:=Tryz.zeroValue5
 t9:=Tryz.underlying9
 a9:=Tryz.isAgg9
 z9:=Tryz.sizeOf9
 v9:=Tryz.zeroValue9
 t22:=Tryz.underlying69
 a22:=Tryz.isAgg69
 z22:=Tryz.sizeOf69
 v22:=Tryz.zeroValue69
 t25:=Tryz.underlying160
 a25:=Tryz.isAgg160
 z25:=Tryz.sizeOf160
 v25:=Tryz.zeroValue160
 t39:=Tryz.underlying152
 a39:=Tryz.isAgg152
 z39:=Tryz.sizeOf152
 v39:=Tryz.zeroValue152
 t45:=Tryz.underlying206
 a45:=Tryz.isAgg206
 z45:=Tryz.sizeOf206
 v45:=Tryz.zeroValue206
 t46:=Tryz.underlying207
 a46:=Tryz.isAgg207
 z46:=Tryz.sizeOf207
 v46:=Tryz.zeroValue207
 t50:=Tryz.underlying211
 a50:=Tryz.isAgg211
 z50:=Tryz.sizeOf211
 v50:=Tryz.zeroValue211
 t53:=Tryz.underlying214
 a53:=Tryz.isAgg214
 z53:=Tryz.sizeOf214
 v53:=Tryz.zeroValue214
 t55:=Tryz.underlying216
 a55:=Tryz.isAgg216
 z55:=Tryz.sizeOf216
 v55:=Tryz.zeroValue216
 t66:=Tryz.underlying265
 a66:=Tryz.isAgg265
 z66:=Tryz.sizeOf265
 v66:=Tryz.zeroValue265
 t70:=Tryz.underlying269
 a70:=Tryz.isAgg269
 z70:=Tryz.sizeOf269
 v70:=Tryz.zeroValue269
 t76:=Tryz.underlying317
 a76:=Tryz.isAgg317
 z76:=Tryz.sizeOf317
 v76:=Tryz.zeroValue317
 t77:=Tryz.underlying318
 a77:=Tryz.isAgg318
 z77:=Tryz.sizeOf318
 v77:=Tryz.zeroValue318
end Go.Proofs.YtfmmggphdeiajaaGreatDoor
end
section
set_option linter.unusedVariables false
set_option linter.unusedSimpArgs false
namespace Go.Bl
def stI (n k m:Int):Int:=Go.bits .or .u64 (Go.bits .and .u64 (n / k) m) (IntKind.u64.wrap (Go.bits .and .u64 n m*k))
def rbI (n:Int):Int:=Go.bits .or .u64 (stI (stI n 256 71777214294589695) 65536 281470681808895 / 4294967296) (IntKind.u64.wrap (stI (stI n 256 71777214294589695) 65536 281470681808895*4294967296))
def rvI (n:Int):Int:=rbI (stI (stI (stI n 2 6148914691236517205) 4 3689348814741910323) 16 1085102592571150095)
def cpI (x y:Int):Int:=if x<y then -1 else if x > y then 1 else 0
end Go.Bl
namespace Go.Proofs.YtfmmggphdeiajaaGreatDoor
open Go.Shelf Go.RowKit Go.Lib Go.Sort Go.Bl
theorem rb64 (n:Int) (w:World):Calls Tryz.prog 236 #[.int .u64 n] w fun e w'=>e=.returned (.int .u64 (rbI n))∧w'=w:=by
 go_enter Tryz.func236,Tryz.ntmps236
 go_wp2
 go_ret
 exact⟨rfl,rfl⟩
theorem nan106 (n:Int) (w:World):Calls Tryz.prog 173 #[.int .u64 n] w fun e w'=>e=.returned (.bool false)∧w'=w:=by
 go_enter Tryz.func173,Tryz.ntmps173
 go_wp2
 go_ret
 exact⟨rfl,rfl⟩
theorem rv64 (n:Int) (w:World):Calls Tryz.prog 175 #[.int .u64 n] w fun e w'=>e=.returned (.int .u64 (rvI n))∧w'=w:=by
 go_enter Tryz.func175,Tryz.ntmps175
 go_wp2_with (go_at_call 236; refine(rb64 _ _).mono ?_; rintro e w' ⟨rfl,rfl⟩)
 go_ret
 exact⟨rfl,rfl⟩
theorem rv103 (n:Int) (w:World):Calls Tryz.prog 112 #[.int .u64 n] w fun e w'=>e=.returned (.int .u64 (rvI n))∧w'=w:=by
 go_enter Tryz.func112,Tryz.ntmps112
 go_wp2_with (go_at_call 175; refine(rv64 _ _).mono ?_; rintro e w' ⟨rfl,rfl⟩)
 go_ret
 exact⟨rfl,rfl⟩
theorem cp102 (x y:Int) (w:World):Calls Tryz.prog 111 #[.int .u64 x,.int .u64 y] w fun e w'=>e=.returned (.int .i64 (cpI x y))∧w'=w:=by
 go_enter Tryz.func111,Tryz.ntmps111
 go_wp2_with (go_at_call 173; refine(nan106 _ _).mono ?_; rintro e w' ⟨rfl,rfl⟩)
 all_goals
  go_ret
  refine⟨?_,rfl⟩
  unfold cpI
  first
   | (rw[if_pos (by omega)]; rfl)
   | (rw[if_neg (by omega),if_pos (by omega)]; rfl)
   | (rw[if_neg (by omega),if_neg (by omega)]; rfl)
def cfS (s t:Nat):Int:=cpI (rvI (IntKind.u64.wrap (t:Int))) (rvI (IntKind.u64.wrap (s:Int)))
set_option maxHeartbeats 1600000 in
set_option maxRecDepth 1000000 in
theorem closure101 (s t:Nat) (W:World):Calls Tryz.prog 110 #[.agg #[.int .i64 (s:Int)],.agg #[.int .i64 (t:Int)]] W fun e w'=>e=.returned (.int .i64 (cfS s t))∧∃ q os',w'=grow (W.drewN q) os':=by
 have h1:=rv103 (IntKind.u64.wrap (t:Int))
 have h2:=rv103 (IntKind.u64.wrap (s:Int))
 have h3:=cp102 (rvI (IntKind.u64.wrap (t:Int))) (rvI (IntKind.u64.wrap (s:Int)))
 unfold cfS
 generalize rvI (IntKind.u64.wrap (t:Int))=a at h1 h3⊢
 generalize rvI (IntKind.u64.wrap (s:Int))=b at h2 h3⊢
 generalize cpI a b=r at h3⊢
 go_enter Tryz.func110,Tryz.ntmps110
 go_wp2_with fail
 go_quiet (first
  | (go_at_call_of 112 (Value.int .u64 (IntKind.u64.wrap (t:Int))); refine Calls.quiet_of_same (h1 _))
  | (go_at_call_of 112 (Value.int .u64 (IntKind.u64.wrap (s:Int))); refine Calls.quiet_of_same (h2 _))
  | (go_at_call 111; refine Calls.quiet_of_same (h3 _)))
 go_wp2_with fail
 go_ret
 exact⟨rfl,nq,_,by rw[alloc_eq_grow,alloc_eq_grow,grow_grow]; rfl⟩
end Go.Proofs.YtfmmggphdeiajaaGreatDoor
end
section
set_option linter.unusedVariables false
namespace Go.Gl
theorem bitL_len (A:Nat):∀ k,(ql A k).length≤k
 | 0=>Nat.le_refl 0
 | k+1=>by
  have:=bitL_len A k
  simp only[ql]; split
  ·simp; omega
  ·omega
theorem bit_iff (A k:Nat):((A >>> k &&& 1:Nat):Int)=1↔A.testBit k=true:=by
 rw[Nat.and_one_is_mod,Nat.shiftRight_eq_div_pow,Nat.testBit_eq_decide_div_mod_eq,decide_eq_true_eq]
 omega
end Go.Gl
namespace Go.Proofs.YtfmmggphdeiajaaGreatDoor
open Go.Lw Go.Gl Go.Bl Go.RowKit
theorem index_n (g:FuncId) (cap:List Value) (p:Int→Bool) (V:View) (vl:Value) (l:List Int) (hs:Sl V ei 1 vl l) (hok:zy Tryz.prog g)
  (hc:∀ x,x∈l→Fnc Tryz.prog g ([]++[iv x]++cap) V (fun v _=>v=.bool (p x))) :
  Fnc Tryz.prog 101 [vl,.func (.func g) #[] cap.toArray] V fun v _=>∃ j:Int,v=iv j∧(decide (0≤j))=l.any p:=by
 have hlen:=hs.qI
 refine zS Tryz.func101 rfl Tryz.ntmps101 (Nat.le_of_ble_eq_true rfl) ?_
 intro w0 hw0
 refine At.nrm ?_
 refine At.zh (.q 0 .done) ?_
 refine AtT.zf ?_
 refine AtT.done ?_
 refine At.nrm ?_
 refine At.zh (.q 0 (.q 1 (.q 2 .done))) ?_
 refine AtT.ze ?_
 first | refine AtT.zK Tryz.underlying22 ?_ | refine AtT.zL Tryz.underlying22 ?_
 refine AtT.ze ?_
 refine AtT.done ?_
 refine At.nrm ?_
 refine At.lp (ι:=Nat) (KS:=fun k=>[(0,vl),(1,.func (.func g) #[] cap.toArray),(4,iv 0),(7,iv l.length),(8,iv k)]) (OS:=fun _=>[])
  (VS:=fun k V'=>V'=V∧k≤l.length∧(l.take k).any p=false) (μ:=fun k=>l.length-k) 0 ?_ ?_ ?_ ?_
 ·exact⟨rfl,rfl,rfl,rfl,rfl,trivial⟩
 ·exact Pt.zx
 ·exact⟨rfl,Nat.zero_le _,rfl⟩
 ·rintro k V' ks' O' ⟨rfl,hkl,hany⟩ hk hO hl
  subst hk hO
  refine At.nrm ?_
  refine At.zh (.q 0 .done) ?_
  refine AtT.qg ?_
  refine AtT.done ?_
  refine At.nrm ?_
  refine At.zZ rfl (fun hp=>?_) (fun hp=>?_)
  ·refine At.nrm ?_
   refine At.zh (.q 0 (.q 1 .done)) ?_
   refine AtT.ze ?_
   refine AtT.zf ?_
   refine AtT.done ?_
   refine At.nrm ?_
   refine At.zh (.q 0 (.q 1 (.q 2 (.q 3 (.q 4 (.n false 5 .done)))))) ?_
   refine AtT.ze ?_
   refine AtT.ze ?_
   refine AtT.ze ?_
   refine AtT.zU Tryz.underlying22 tk3 ?_
   intro p14 e14 he14 hc14
   first | refine AtT.zk tk3 ?_ | refine AtT.zo tk3 ?_
   refine AtT.kcallV rfl rfl rfl hok (hc e14 (List.mem_of_getElem? he14)) ?_
   rintro _ rfl
   refine AtT.done ?_
   refine At.nrm ?_
   have hee:l[k]? = some e14:=by simpa using he14
   have hnx:l.take (k+1)=l.take k++[e14]:=by
    rw[List.take_succ_eq_append_getElem (by omega)]; congr 1; rw[List.getElem?_eq_getElem (by omega)]at hee; simpa using hee
   refine At.cond rfl (fun hb=>?_) (fun hb=>?_)
   ·refine At.nrm ?_
    refine At.zh (.q 0 (.q 1 .done)) ?_
    refine AtT.ze ?_
    refine AtT.zf ?_
    refine AtT.done ?_
    refine At.nrm ?_
    refine At.zT rfl (.tmp rfl) ⟨k,rfl,?_⟩
    have:l.any p=true:=List.any_eq_true.2 ⟨e14,List.mem_of_getElem? hee,hb⟩
    rw[this]; simp
   ·refine At.nrm ?_
    refine At.zh (.q 0 (.q 1 .done)) ?_
    first | refine AtT.qm ?_ | refine AtT.zR ?_
    refine AtT.ze ?_
    refine AtT.done ?_
    refine At.nrm ?_
    refine At.round (k+1) ?_ ?_ ?_ ?_
    ·show l.length-(k+1)<l.length-k; omega
    ·refine⟨rfl,by omega,?_⟩
     rw[hnx,List.any_append,hany]; simp[hb]
    ·exact⟨rfl,rfl,rfl,rfl,rfl,trivial⟩
    ·exact Pt.zx
  ·have hkk:k=l.length:=by omega
   subst hkk
   rw[List.take_length]at hany
   refine At.nrm ?_
   refine At.zh (.q 0 .done) ?_
   refine AtT.zf ?_
   refine AtT.done ?_
   refine At.nrm ?_
   refine At.zT rfl (.tmp rfl) ⟨-1,rfl,?_⟩
   rw[hany]; rfl
theorem contains_n (g:FuncId) (cap:List Value) (p:Int→Bool) (V:View) (vl:Value) (l:List Int) (hs:Sl V ei 1 vl l) (hok:zy Tryz.prog g)
  (hc:∀ x,x∈l→Fnc Tryz.prog g ([]++[iv x]++cap) V (fun v _=>v=.bool (p x))) :
  Fnc Tryz.prog 52 [vl,.func (.func g) #[] cap.toArray] V fun v _=>v=.bool (l.any p):=by
 refine zS Tryz.func52 rfl Tryz.ntmps52 (Nat.le_of_ble_eq_true rfl) ?_
 intro w0 hw0
 refine At.nrm ?_
 refine At.zh (.q 0 .done) ?_
 refine AtT.zf ?_
 refine AtT.done ?_
 refine At.nrm ?_
 refine At.zh (.q 0 (.q 1 (.n false 2 (.q 3 (.q 4 .done))))) ?_
 refine AtT.ze ?_
 refine AtT.ze ?_
 refine AtT.zJ rfl rfl ok101 (index_n g cap p V vl l hs hok hc) ?_
 rintro _ ⟨j,rfl,hj⟩
 refine AtT.kgeq ?_
 refine AtT.zf ?_
 refine AtT.done ?_
 refine At.nrm ?_
 refine At.zT rfl (.tmp rfl) ?_
 rw[hj]
theorem index_t (g:FuncId) (cap:List Value) (p:Tq→Bool) (V:View) (vl:Value) (l:List Tq) (hs:Sl V tqe 4 vl l) (hok:zy Tryz.prog g)
  (hc:∀ x,x∈l→Fnc Tryz.prog g ([]++[tqv x]++cap) V (fun v _=>v=.bool (p x))) :
  Fnc Tryz.prog 171 [vl,.func (.func g) #[] cap.toArray] V fun v _=>∃ j:Int,v=iv j∧(decide (0≤j))=l.any p:=by
 have hlen:=hs.qI
 refine zS Tryz.func171 rfl Tryz.ntmps171 (Nat.le_of_ble_eq_true rfl) ?_
 intro w0 hw0
 refine At.nrm ?_
 refine At.zh (.q 0 .done) ?_
 refine AtT.zf ?_
 refine AtT.done ?_
 refine At.nrm ?_
 refine At.zh (.q 0 (.q 1 (.q 2 .done))) ?_
 refine AtT.ze ?_
 first | refine AtT.zK Tryz.underlying37 ?_ | refine AtT.zL Tryz.underlying37 ?_
 refine AtT.ze ?_
 refine AtT.done ?_
 refine At.nrm ?_
 refine At.lp (ι:=Nat) (KS:=fun k=>[(0,vl),(1,.func (.func g) #[] cap.toArray),(4,iv 0),(7,iv l.length),(8,iv k)]) (OS:=fun _=>[])
  (VS:=fun k V'=>V'=V∧k≤l.length∧(l.take k).any p=false) (μ:=fun k=>l.length-k) 0 ?_ ?_ ?_ ?_
 ·exact⟨rfl,rfl,rfl,rfl,rfl,trivial⟩
 ·exact Pt.zx
 ·exact⟨rfl,Nat.zero_le _,rfl⟩
 ·rintro k V' ks' O' ⟨rfl,hkl,hany⟩ hk hO hl
  subst hk hO
  refine At.nrm ?_
  refine At.zh (.q 0 .done) ?_
  refine AtT.qg ?_
  refine AtT.done ?_
  refine At.nrm ?_
  refine At.zZ rfl (fun hp=>?_) (fun hp=>?_)
  ·refine At.nrm ?_
   refine At.zh (.q 0 (.q 1 .done)) ?_
   refine AtT.ze ?_
   refine AtT.zf ?_
   refine AtT.done ?_
   refine At.nrm ?_
   refine At.zh (.q 0 (.q 1 (.q 2 (.q 3 (.q 4 (.n false 5 .done)))))) ?_
   refine AtT.ze ?_
   refine AtT.ze ?_
   refine AtT.ze ?_
   refine AtT.zU Tryz.underlying37 tk42 ?_
   intro p14 e14 he14 hc14
   first | refine AtT.zB tk42 ?_ | refine AtT.zM tk42 ?_ | refine AtT.zA tk42 ?_
   refine AtT.kcallV rfl rfl rfl hok (hc e14 (List.mem_of_getElem? he14)) ?_
   rintro _ rfl
   refine AtT.done ?_
   refine At.nrm ?_
   have hee:l[k]? = some e14:=by simpa using he14
   have hnx:l.take (k+1)=l.take k++[e14]:=by
    rw[List.take_succ_eq_append_getElem (by omega)]; congr 1; rw[List.getElem?_eq_getElem (by omega)]at hee; simpa using hee
   refine At.cond rfl (fun hb=>?_) (fun hb=>?_)
   ·refine At.nrm ?_
    refine At.zh (.q 0 (.q 1 .done)) ?_
    refine AtT.ze ?_
    refine AtT.zf ?_
    refine AtT.done ?_
    refine At.nrm ?_
    refine At.zT rfl (.tmp rfl) ⟨k,rfl,?_⟩
    have:l.any p=true:=List.any_eq_true.2 ⟨e14,List.mem_of_getElem? hee,hb⟩
    rw[this]; simp
   ·refine At.nrm ?_
    refine At.zh (.q 0 (.q 1 .done)) ?_
    first | refine AtT.qm ?_ | refine AtT.zR ?_
    refine AtT.ze ?_
    refine AtT.done ?_
    refine At.nrm ?_
    refine At.round (k+1) ?_ ?_ ?_ ?_
    ·show l.length-(k+1)<l.length-k; omega
    ·refine⟨rfl,by omega,?_⟩
     rw[hnx,List.any_append,hany]; simp[hb]
    ·exact⟨rfl,rfl,rfl,rfl,rfl,trivial⟩
    ·exact Pt.zx
  ·have hkk:k=l.length:=by omega
   subst hkk
   rw[List.take_length]at hany
   refine At.nrm ?_
   refine At.zh (.q 0 .done) ?_
   refine AtT.zf ?_
   refine AtT.done ?_
   refine At.nrm ?_
   refine At.zT rfl (.tmp rfl) ⟨-1,rfl,?_⟩
   rw[hany]; rfl
theorem contains_t (g:FuncId) (cap:List Value) (p:Tq→Bool) (V:View) (vl:Value) (l:List Tq) (hs:Sl V tqe 4 vl l) (hok:zy Tryz.prog g)
  (hc:∀ x,x∈l→Fnc Tryz.prog g ([]++[tqv x]++cap) V (fun v _=>v=.bool (p x))) :
  Fnc Tryz.prog 105 [vl,.func (.func g) #[] cap.toArray] V fun v _=>v=.bool (l.any p):=by
 refine zS Tryz.func105 rfl Tryz.ntmps105 (Nat.le_of_ble_eq_true rfl) ?_
 intro w0 hw0
 refine At.nrm ?_
 refine At.zh (.q 0 .done) ?_
 refine AtT.zf ?_
 refine AtT.done ?_
 refine At.nrm ?_
 refine At.zh (.q 0 (.q 1 (.n false 2 (.q 3 (.q 4 .done))))) ?_
 refine AtT.ze ?_
 refine AtT.ze ?_
 refine AtT.zJ rfl rfl ok171 (index_t g cap p V vl l hs hok hc) ?_
 rintro _ ⟨j,rfl,hj⟩
 refine AtT.kgeq ?_
 refine AtT.zf ?_
 refine AtT.done ?_
 refine At.nrm ?_
 refine At.zT rfl (.tmp rfl) ?_
 rw[hj]
theorem index_s (g:FuncId) (cap:List Value) (p:Nat→Bool) (V:View) (vl:Value) (l:List Nat) (hs:Sl V ste 1 vl l) (hok:zy Tryz.prog g)
  (hc:∀ x,x∈l→Fnc Tryz.prog g ([]++[stv x]++cap) V (fun v _=>v=.bool (p x))) :
  Fnc Tryz.prog 66 [vl,.func (.func g) #[] cap.toArray] V fun v _=>∃ j:Int,v=iv j∧(decide (0≤j))=l.any p:=by
 have hlen:=hs.qI
 refine zS Tryz.func66 rfl Tryz.ntmps66 (Nat.le_of_ble_eq_true rfl) ?_
 intro w0 hw0
 refine At.nrm ?_
 refine At.zh (.q 0 .done) ?_
 refine AtT.zf ?_
 refine AtT.done ?_
 refine At.nrm ?_
 refine At.zh (.q 0 (.q 1 (.q 2 .done))) ?_
 refine AtT.ze ?_
 first | refine AtT.zK Tryz.underlying69 ?_ | refine AtT.zL Tryz.underlying69 ?_
 refine AtT.ze ?_
 refine AtT.done ?_
 refine At.nrm ?_
 refine At.lp (ι:=Nat) (KS:=fun k=>[(0,vl),(1,.func (.func g) #[] cap.toArray),(4,iv 0),(7,iv l.length),(8,iv k)]) (OS:=fun _=>[])
  (VS:=fun k V'=>V'=V∧k≤l.length∧(l.take k).any p=false) (μ:=fun k=>l.length-k) 0 ?_ ?_ ?_ ?_
 ·exact⟨rfl,rfl,rfl,rfl,rfl,trivial⟩
 ·exact Pt.zx
 ·exact⟨rfl,Nat.zero_le _,rfl⟩
 ·rintro k V' ks' O' ⟨rfl,hkl,hany⟩ hk hO hl
  subst hk hO
  refine At.nrm ?_
  refine At.zh (.q 0 .done) ?_
  refine AtT.qg ?_
  refine AtT.done ?_
  refine At.nrm ?_
  refine At.zZ rfl (fun hp=>?_) (fun hp=>?_)
  ·refine At.nrm ?_
   refine At.zh (.q 0 (.q 1 .done)) ?_
   refine AtT.ze ?_
   refine AtT.zf ?_
   refine AtT.done ?_
   refine At.nrm ?_
   refine At.zh (.q 0 (.q 1 (.q 2 (.q 3 (.q 4 (.n false 5 .done)))))) ?_
   refine AtT.ze ?_
   refine AtT.ze ?_
   refine AtT.ze ?_
   refine AtT.zU Tryz.underlying69 zY ?_
   intro p14 e14 he14 hc14
   first | refine AtT.zB zY ?_ | refine AtT.zM zY ?_ | refine AtT.zA zY ?_
   refine AtT.kcallV rfl rfl rfl hok (hc e14 (List.mem_of_getElem? he14)) ?_
   rintro _ rfl
   refine AtT.done ?_
   refine At.nrm ?_
   have hee:l[k]? = some e14:=by simpa using he14
   have hnx:l.take (k+1)=l.take k++[e14]:=by
    rw[List.take_succ_eq_append_getElem (by omega)]; congr 1; rw[List.getElem?_eq_getElem (by omega)]at hee; simpa using hee
   refine At.cond rfl (fun hb=>?_) (fun hb=>?_)
   ·refine At.nrm ?_
    refine At.zh (.q 0 (.q 1 .done)) ?_
    refine AtT.ze ?_
    refine AtT.zf ?_
    refine AtT.done ?_
    refine At.nrm ?_
    refine At.zT rfl (.tmp rfl) ⟨k,rfl,?_⟩
    have:l.any p=true:=List.any_eq_true.2 ⟨e14,List.mem_of_getElem? hee,hb⟩
    rw[this]; simp
   ·refine At.nrm ?_
    refine At.zh (.q 0 (.q 1 .done)) ?_
    first | refine AtT.qm ?_ | refine AtT.zR ?_
    refine AtT.ze ?_
    refine AtT.done ?_
    refine At.nrm ?_
    refine At.round (k+1) ?_ ?_ ?_ ?_
    ·show l.length-(k+1)<l.length-k; omega
    ·refine⟨rfl,by omega,?_⟩
     rw[hnx,List.any_append,hany]; simp[hb]
    ·exact⟨rfl,rfl,rfl,rfl,rfl,trivial⟩
    ·exact Pt.zx
  ·have hkk:k=l.length:=by omega
   subst hkk
   rw[List.take_length]at hany
   refine At.nrm ?_
   refine At.zh (.q 0 .done) ?_
   refine AtT.zf ?_
   refine AtT.done ?_
   refine At.nrm ?_
   refine At.zT rfl (.tmp rfl) ⟨-1,rfl,?_⟩
   rw[hany]; rfl
theorem contains_s (g:FuncId) (cap:List Value) (p:Nat→Bool) (V:View) (vl:Value) (l:List Nat) (hs:Sl V ste 1 vl l) (hok:zy Tryz.prog g)
  (hc:∀ x,x∈l→Fnc Tryz.prog g ([]++[stv x]++cap) V (fun v _=>v=.bool (p x))) :
  Fnc Tryz.prog 32 [vl,.func (.func g) #[] cap.toArray] V fun v _=>v=.bool (l.any p):=by
 refine zS Tryz.func32 rfl Tryz.ntmps32 (Nat.le_of_ble_eq_true rfl) ?_
 intro w0 hw0
 refine At.nrm ?_
 refine At.zh (.q 0 .done) ?_
 refine AtT.zf ?_
 refine AtT.done ?_
 refine At.nrm ?_
 refine At.zh (.q 0 (.q 1 (.n false 2 (.q 3 (.q 4 .done))))) ?_
 refine AtT.ze ?_
 refine AtT.ze ?_
 refine AtT.zJ rfl rfl ok66 (index_s g cap p V vl l hs hok hc) ?_
 rintro _ ⟨j,rfl,hj⟩
 refine AtT.kgeq ?_
 refine AtT.zf ?_
 refine AtT.done ?_
 refine At.nrm ?_
 refine At.zT rfl (.tmp rfl) ?_
 rw[hj]
theorem within1_f (n lo hi:Int) (V:View) (p1 p2:Addr) (h1:Cells V p1 [iv lo]) (h2:Cells V p2 [iv hi]) :
  Fnc Tryz.prog 107 [iv n,.pointer (some p1),.pointer (some p2)] V fun v _=>v=.bool (outB lo hi n):=by
 refine zS Tryz.func107 rfl Tryz.ntmps107 (Nat.le_of_ble_eq_true rfl) ?_
 intro w0 hw0
 refine At.nrm ?_
 refine At.zh (.q 0 .done) ?_
 refine AtT.zf ?_
 refine AtT.done ?_
 refine At.nrm ?_
 refine At.zh (.q 0 (.q 1 (.q 2 (.q 3 (.q 4 (.q 5 (.q 6 (.q 7 (.q 8 .done))))))))) ?_
 refine AtT.ze ?_
 first | refine AtT.zk tk3 ?_ | refine AtT.zo tk3 ?_
 refine AtT.qg ?_
 refine AtT.ze ?_
 all_goals (first | refine AtT.kL 8 ?_ | refine AtT.zD (d:=8) rfl (fun hg8=>?_) (fun hg8=>?_) | refine AtT.zC (d:=8) rfl (fun hg8=>?_) (fun hg8=>?_))
 all_goals first|refine AtT.zi ?_|refine AtT.zg ?_|(refine AtT.ze ?_)
 all_goals first|refine AtT.zi ?_|refine AtT.zg ?_|(first | refine AtT.zk tk3 ?_ | refine AtT.zo tk3 ?_)
 all_goals first|refine AtT.zi ?_|refine AtT.zg ?_|(refine AtT.qx ?_)
 all_goals (refine AtT.zF ?_)
 all_goals (refine AtT.zf ?_)
 all_goals refine AtT.done ?_
 all_goals (refine At.nrm ?_)
 ·exact At.zT rfl (.tmp rfl) (by simp[outB,hg8])
 ·exact At.zT rfl (.tmp rfl) (by simp[outB,hg8])
theorem within_f (lo hi:Int) (l:List Int) (V:View) (vl:Value) (hs:SlI V vl l) :
  Fnc Tryz.prog 61 [iv lo,iv hi,vl] V fun v _=>v=.bool (wi lo hi l):=by
 refine zS Tryz.func61 rfl Tryz.ntmps61 (Nat.le_of_ble_eq_true rfl) ?_
 intro w0 hw0
 refine At.nrm ?_
 refine At.zh (.n false 0 (.n false 1 (.q 2 .done))) ?_
 refine AtT.jS ?_
 intro b3
 refine AtT.jS ?_
 intro b4
 refine AtT.zf ?_
 refine AtT.done ?_
 refine At.nrm ?_
 refine At.giveB (b:=b3) zN.zx ?_
 intro V3 hV3 hb3
 refine At.giveB (b:=b4) zN.zx ?_
 intro V4 hV4 hb4
 have hs4:=hs.le (hV3.trans hV4)
 have hc3:=(qj hb3).le hV4
 have hc4:=qj hb4
 refine At.zh (.q 0 (.q 1 (.n false 2 (.q 3 (.q 4 .done))))) ?_
 refine AtT.ze ?_
 refine AtT.kfn ?_
 refine AtT.zJ rfl rfl ok52 (contains_n 107 [.pointer (some ⟨b3,0,none⟩),.pointer (some ⟨b4,0,none⟩)] (outB lo hi) V4 vl l hs4 ok107 (fun x _=>within1_f x lo hi V4 _ _ hc3 hc4)) ?_
 rintro _ rfl
 refine AtT.knot ?_
 refine AtT.zf ?_
 refine AtT.done ?_
 refine At.nrm ?_
 exact At.zT rfl (.tmp rfl) rfl
theorem ints_f (l m:List Int) (V:View) (v u:Value) (hs:SlI V v l) (hu:SlI V u m):Fnc Tryz.prog 9 [v,u] V fun r _=>r=.bool (decide (l=m)):=by
 have hlen:=hs.qI
 obtain⟨a,c,rfl,k1,k2,_⟩:=id hs
 obtain⟨a',c',rfl,k3,k4,_⟩:=id hu
 clear k1 k2 k3 k4
 refine zS Tryz.func9 rfl Tryz.ntmps9 (Nat.le_of_ble_eq_true rfl) ?_
 intro w0 hw0
 refine At.nrm ?_
 refine At.zh (.q 0 .done) ?_
 refine AtT.zf ?_
 refine AtT.done ?_
 refine At.nrm ?_
 refine At.zh (.q 0 (.q 1 (.q 2 (.q 3 (.q 4 .done))))) ?_
 refine AtT.ze ?_
 first | refine AtT.zK Tryz.underlying22 ?_ | refine AtT.zL Tryz.underlying22 ?_
 refine AtT.ze ?_
 first | refine AtT.zK Tryz.underlying22 ?_ | refine AtT.zL Tryz.underlying22 ?_
 refine AtT.jV ?_
 refine AtT.done ?_
 refine At.nrm ?_
 refine At.zZ rfl (fun hb=>?_) (fun hb=>?_)
 ·refine At.nrm ?_
  refine At.zh (.q 0 .done) ?_
  refine AtT.zf ?_
  refine AtT.done ?_
  refine At.nrm ?_
  refine At.zT rfl (.tmp rfl) ?_
  rw[decide_eq_false]
  rintro rfl
  exact hb rfl
 have hlm:l.length=m.length:=by omega
 refine At.nrm ?_
 refine At.zh (.q 0 .done) ?_
 refine AtT.zf ?_
 refine AtT.done ?_
 refine At.nrm ?_
 refine At.lp (ι:=Nat) (KS:=fun k=>[(0,.slice a l.length c),(1,.slice a' m.length c'),(5,iv k)]) (OS:=fun _=>[]) (VS:=fun k V'=>V'=V∧k≤l.length∧∀ j,j<k→l[j]? = m[j]?) (μ:=fun k=>l.length-k) 0 ?_ ?_ ?_ ?_
 ·exact⟨rfl,rfl,rfl,trivial⟩
 ·exact Pt.zx
 ·exact⟨rfl,Nat.zero_le _,fun j hj=>absurd hj (Nat.not_lt_zero j)⟩
 ·rintro k V' ks' O' ⟨rfl,hkl,hok⟩ hk hO hl2
  subst hk hO
  refine At.nrm ?_
  refine At.zh (.q 0 (.q 1 (.q 2 (.q 3 .done)))) ?_
  refine AtT.ze ?_
  refine AtT.ze ?_
  first | refine AtT.zK Tryz.underlying22 ?_ | refine AtT.zL Tryz.underlying22 ?_
  refine AtT.qg ?_
  refine AtT.done ?_
  refine At.nrm ?_
  refine At.zZ rfl (fun hp=>?_) (fun hp=>?_)
  ·obtain⟨x,hx⟩:∃ x,l[k]? = some x:=⟨_,List.getElem?_eq_getElem (by omega)⟩
   obtain⟨y,hy⟩:∃ y,m[k]? = some y:=⟨_,List.getElem?_eq_getElem (by omega)⟩
   refine At.nrm ?_
   refine At.draw (.q 0 (.q 1 (.q 2 (.q 3 (.q 4 (.q 5 (.q 6 (.q 7 (.q 8 .done))))))))) ffm (by kernel_rfl) ?_
   refine AtT.ze ?_
   refine AtT.ze ?_
   refine AtT.zU Tryz.underlying22 tk3 ?_
   intro p19 e19 he19 hc19
   obtain rfl:e19=x:=by have:l[k]? = some e19:=(by simpa using he19); rw[hx]at this; simpa using this.symm
   first | refine AtT.zk tk3 ?_ | refine AtT.zo tk3 ?_
   refine AtT.ze ?_
   refine AtT.ze ?_
   refine AtT.zU Tryz.underlying22 tk3 ?_
   intro p23 e23 he23 hc23
   obtain rfl:e23=y:=by have:m[k]? = some e23:=(by simpa using he23); rw[hy]at this; simpa using this.symm
   first | refine AtT.zk tk3 ?_ | refine AtT.zo tk3 ?_
   refine AtT.jV ?_
   refine AtT.done ?_
   refine At.nrm ?_
   refine At.zZ rfl (fun hc=>?_) (fun hc=>?_)
   ·refine At.nrm ?_
    refine At.zh (.q 0 .done) ?_
    refine AtT.zf ?_
    refine AtT.done ?_
    refine At.nrm ?_
    refine At.zT rfl (.tmp rfl) ?_
    rw[decide_eq_false]
    rintro rfl
    rw[hx]at hy
    cases hy
    exact hc rfl
   ·have hxy:l[k]? = m[k]?:=by rw[hx,hy,Decidable.not_not.1 hc]
    refine At.nrm ?_
    refine At.zh (.q 0 (.q 1 (.q 2 .done))) ?_
    refine AtT.ze ?_
    first | refine AtT.qm ?_ | refine AtT.zR ?_
    refine AtT.zf ?_
    refine AtT.done ?_
    refine At.nrm ?_
    refine At.round (k+1) ?_ ?_ ?_ ?_
    ·show l.length-(k+1)<l.length-k; omega
    ·refine⟨rfl,by omega,fun j hj=>?_⟩
     by_cases hjk:j=k
     ·subst hjk; exact hxy
     ·exact hok j (by omega)
    ·exact⟨rfl,rfl,ivs (by omega),trivial⟩
    ·exact Pt.zx
  ·obtain rfl:k=l.length:=by omega
   have hlm2:l=m:=List.ext_getElem? fun j=>by
    by_cases hj:j<l.length
    ·exact hok j hj
    ·rw[List.getElem?_eq_none (by omega),List.getElem?_eq_none (by omega)]
   refine At.nrm ?_
   refine At.zh (.q 0 .done) ?_
   refine AtT.zf ?_
   refine AtT.done ?_
   refine At.nrm ?_
   exact At.zT rfl (.tmp rfl) (by rw[decide_eq_true hlm2])
end Go.Proofs.YtfmmggphdeiajaaGreatDoor
end
