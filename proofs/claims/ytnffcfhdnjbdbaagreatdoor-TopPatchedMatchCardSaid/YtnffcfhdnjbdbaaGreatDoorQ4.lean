/- A part. -/
import Derived.ChangeKeysEq
import Derived.Lib.SlTrimSet
import Derived.Lib.Bytealg
import Derived.Lib.Join
import Derived.Test.YtnffcfhdnjbdbaaGreatDoorProg
import Derived.Laws.StructEq
import Derived.Laws.Tables
import Derived.Test.YtnffcfhdnjbdbaaGreatDoorQ3
set_option linter.unusedVariables false
set_option linter.unusedSimpArgs false
set_option linter.unusedSectionVars false
set_option linter.constructorNameAsVariable false
noncomputable section
namespace Go.Proofs.YtnffcfhdnjbdbaaGreatDoor.P
open Go.Lw Go.Gl Go.Pm Go.RowKit
theorem wi_1 (lo hi c:Int):wi lo hi [c]=decide (lo<=c/\c<=hi):=by simp only[wi,List.any_cons,List.any_nil,outB];by_cases h1:c<lo<;>by_cases h2:hi<c<;>simp[h1,h2]<;>omega
theorem plain3:Tryz.prog.plainKey 3=true:=by kernel_rfl
theorem cells3:Tryz.prog.cellsOf 3=1:=by kernel_rfl
theorem arr_at {l:List Int} {i:Nat} {x:Int} (h:l[i]? = some x):(flat ei l)[i]? = some (iv x):=by rw[qU,List.getElem?_map,h];rfl
theorem eqItems3 (w:World) (l m:List Int):∀ is:List Nat,(∀ i∈is,i<l.length/\i<m.length)->(Op.eqItems 9999 3 1 (flat ei l).toArray (flat ei m).toArray is).run Tryz.prog w=.ok (is.all λi=>decide (l.getD i 0=m.getD i 0)) w
 | [],_=>by simp[Op.eqItems]
 | i::is,h=>by
  obtain⟨h1,h2⟩:=h i (by simp);obtain⟨x,hx⟩:∃ x,l[i]? = some x:=⟨_,List.getElem?_eq_getElem h1⟩;obtain⟨y,hy⟩:∃ y,m[i]? = some y:=⟨_,List.getElem?_eq_getElem h2⟩;have ih:=eqItems3 w l m is λj hj=>h j (by simp[hj]);have p1:(part 3 (flat ei l).toArray (i*1)).run Tryz.prog w=.ok (iv x) w:=run_part_plain w plain3 (by rw[Nat.mul_one];simpa using arr_at hx);have p2:(part 3 (flat ei m).toArray (i*1)).run Tryz.prog w=.ok (iv y) w:=run_part_plain w plain3 (by rw[Nat.mul_one];simpa using arr_at hy);have e1:l.getD i 0=x:=by simp[List.getD,hx]
  have e2:m.getD i 0=y:=by simp[List.getD,hy]
  have p3:(Op.equalIn 9999 3 (iv x) (iv y)).run Tryz.prog w=.ok (x == y) w:=run_equalIn_int w 9998 3 .i64 .i64 x y Tryz.underlying3
  simp only[Op.eqItems,Sem.run_bind,p1,p2,p3,Result.andThen_ok,List.all_cons,e1,e2];by_cases c:x=y
  ·subst c;simp[ih]
  ·simp[c]
theorem eqS53 (l m:List Int) (h1:l.length=49) (h2:m.length=49):EqS Tryz.prog 53 (flat ei l) (flat ei m) (decide (l=m)):=by
 refine⟨by first | exact Tryz.eqGuardType53 | kernel_rfl,λw=>?_⟩;obtain⟨i3,hi3,_⟩:∃ i,Tryz.prog.info? 3=some i/\True:=by obtain⟨i,hi,_⟩:=jk rw3;exact⟨i,hi,trivial⟩
 have hb:((List.range 49).all λi=>decide (l.getD i 0=m.getD i 0))=decide (l=m):=by
  rw[Bool.eq_iff_iff,List.all_eq_true,decide_eq_true_eq];constructor
  ·intro h;apply List.ext_getElem?;intro i;by_cases hi:i<49
   ·have:=of_decide_eq_true (h i (List.mem_range.2 hi))
    obtain⟨x,hx⟩:∃ x,l[i]? = some x:=⟨_,List.getElem?_eq_getElem (by omega)⟩;obtain⟨y,hy⟩:∃ y,m[i]? = some y:=⟨_,List.getElem?_eq_getElem (by omega)⟩;simp only[List.getD,hx,hy,Option.getD_some]at this;rw[hx,hy,this]
   ·rw[List.getElem?_eq_none (by omega),List.getElem?_eq_none (by omega)]
  ·rintro rfl i _;simp
 rw[show(10000:Nat)=9999+1 from rfl,run_equalIn_array w 9999 _ _ Tryz.underlying53 hi3,cells3,eqItems3 w l m _ (λi hi=>by rw[List.mem_range]at hi;omega),hb]
theorem bn_get {V:View} {b:Nat} {s:Sh} (h:BnV V b s):∃ a c ak ck,Cells V ⟨b,0,none⟩ [.slice a s.rows.length c]/\Cells V ⟨b,1,none⟩ [iv s.most]/\Cells V ⟨b,2,none⟩ [.slice ak (knL s).length ck]/\Cells V ⟨b,3,none⟩ (flat ei (fgF s))/\Sl V bse 1 (.slice a s.rows.length c) s.rows/\Sl V cle 2 (.slice ak (knL s).length ck) (knL s):=by
 obtain⟨a,c,ak,ck,h1,h2,h3⟩:=h;have hc:=zQ h1;refine⟨a,c,ak,ck,λj u hj=>?_,?_,?_,bnc_sums h1,h2,h3⟩
 ·match j,hj with
  | 0,hj=>exact hc 0 u hj
 ·have:=hc.at (k:=1) (vs:=[iv s.most]) λj u hj=>by
   match j,hj with
   | 0,hj=>exact hj
  rwa[Addr.add_lit]at this
 ·have:=hc.at (k:=2) (vs:=[.slice ak (knL s).length ck]) λj u hj=>by
   match j,hj with
   | 0,hj=>exact hj
  rwa[Addr.add_lit]at this
theorem lies_f (s:Sh) (hok:ShOk s) (p:Pc) (V:View) (b:Nat) (hb:BnV V b s):Fnc Tryz.prog 57 [.pointer (some ⟨b,0,none⟩),pcv p] V λr _=>r=iv (peE (gdS s) p):=by
 obtain⟨a,c,ak,ck,hc0,hc1,hc2,hc3,hs,hsk⟩:=bn_get hb;obtain⟨r0,hr0,hr0s⟩:=sh_row0 hok;have hn:=hok.n;have hw:=hok.w;have hR:(gdS s).R=(s.rows.length:Int):=rfl;have hC:(gdS s).C=(wdS s:Int):=rfl;have hM:(gdS s).most=s.most:=rfl;refine zG Tryz.func57 rfl Tryz.ntmps57 (Nat.le_of_ble_eq_true rfl) ?_;intro w0 hw0;refine zb (tT 0 [1,0]) ?_;refine qQ ?_;intro b3;refine zh ?_;refine cutG (ι:=Unit) (λ_=>[(0,.pointer (some ⟨b,0,none⟩)),(3,.pointer (some ⟨b3,0,none⟩)),(5,iv s.rows.length),(6,iv (wdS s))]) (λ_=>[.blk b3 (LC (pce p) 103)]) (λ_ V''=>V=V'') ?_ ?_
 ·refine xm (tT 0 [0,0,0,0,0,0,0,0,0,0,0,0,0,0,0,0]) ffm (by kernel_rfl) ?_;refine ze ?_;refine jh ?_;refine zw fo55_0 ?_;refine zw qg ?_;refine kV jO ?_;refine zZ Tryz.underlying22 ?_;refine ze ?_;refine jh ?_;refine zw fo55_0 ?_;refine zw qg ?_;refine kV jO ?_;refine kZ Tryz.underlying22 tk9 ?_;intro p20 e20 he20 hc20;obtain rfl:=qx hr0 he20;refine kV tk9 ?_;refine qX rfl trivial Tryz.underlying9 rfl (by decide) ?_;refine zu ?_;refine zh ?_;all_goals (rw[hr0s];exact qH () rfl ⟨rfl,rfl,rfl,rfl,trivial⟩ Pt.zg)
 rintro _ _ ks' O' rfl hk hO hl1;subst hk hO;refine zb (tT 0 [0,0,0,1,1,0,0,0,0,0,1,1,0,0,0,0,0,0,0,0,0,1,1,0,0,0,0,0,0,0,0,0,1,1,0,0]) ?_;refine ze ?_;refine zw fo103_2 ?_;refine kV tk3 ?_;refine zy (zR _) ?_;intro q26 V26 hV26 hq26;have g26:Le V V26:=by first | exact hV26 | exact Le.trans (by assumption) hV26
 refine zm rfl rfl ok14 (qd 1 s.rows.length [p.h] _ _ (Sl.lit hq26 rfl (by simp))) ?_;rintro _ rfl;rw[wi_1];refine xn ?_;rw[<-decide_not];refine ze ?_;all_goals (first | refine kY 29 ?_ | refine kX (d:=29) rfl (λhg29=>?_) (λhg29=>?_) | refine kW (d:=29) rfl (λhg29=>?_) (λhg29=>?_))
 all_goals refine zJ ?_
 all_goals refine ja fo103_3 ?_
 all_goals refine qi tk3 ?_
 all_goals first|refine kpN ?_|((refine zy (zR _) ?_);(intro q33 V33 hV33 hq33);(have g33:Le V V33:=by first | exact hV33 | exact Le.trans (by assumption) hV33))
 all_goals first|refine kpN ?_|((refine zm rfl rfl ok14 (qd 1 (wdS s) [p.w] _ _ (Sl.lit hq33 rfl (by simp))) ?_);(rintro _ rfl;rw[wi_1]))
 all_goals refine p_nt ?_
 all_goals (try rw[<-decide_not])
 all_goals refine zF ?_
 all_goals refine ze ?_
 all_goals (first | refine kY 37 ?_ | refine kX (d:=37) rfl (λhg37=>?_) (λhg37=>?_) | refine kW (d:=37) rfl (λhg37=>?_) (λhg37=>?_))
 all_goals refine zJ ?_
 all_goals refine ja fo103_2 ?_
 all_goals refine qi tk3 ?_
 all_goals refine p_sb ?_
 all_goals refine ja fo103_0 ?_
 all_goals refine qi tk3 ?_
 all_goals first|refine kpN ?_|((refine zy (zR _) ?_);(intro q44 V44 hV44 hq44);(have g44:Le V V44:=by first | exact hV44 | exact Le.trans (by assumption) hV44))
 all_goals first|refine kpN ?_|((refine zm rfl rfl ok14 (qd 0 (s.rows.length-p.h) [p.t] _ _ (Sl.lit hq44 rfl (by simp))) ?_);(rintro _ rfl;rw[wi_1]))
 all_goals refine p_nt ?_
 all_goals (try rw[<-decide_not])
 all_goals refine zF ?_
 all_goals refine ze ?_
 all_goals (first | refine kY 48 ?_ | refine kX (d:=48) rfl (λhg48=>?_) (λhg48=>?_) | refine kW (d:=48) rfl (λhg48=>?_) (λhg48=>?_))
 all_goals refine zJ ?_
 all_goals refine ja fo103_3 ?_
 all_goals refine qi tk3 ?_
 all_goals refine p_sb ?_
 all_goals refine ja fo103_1 ?_
 all_goals refine qi tk3 ?_
 all_goals first|refine kpN ?_|((refine zy (zR _) ?_);(intro q55 V55 hV55 hq55);(have g55:Le V V55:=by first | exact hV55 | exact Le.trans (by assumption) hV55))
 all_goals first|refine kpN ?_|((refine zm rfl rfl ok14 (qd 0 (wdS s-p.w) [p.l] _ _ (Sl.lit hq55 rfl (by simp))) ?_);(rintro _ rfl;rw[wi_1]))
 all_goals refine p_nt ?_
 all_goals (try rw[<-decide_not])
 all_goals refine zF ?_
 all_goals refine AtT.done ?_
 all_goals refine nrm ?_
 iterate 3
  focus
   refine ql rfl rfl ?_;refine zb (tT 0 [0]) ?_;refine zh ?_;exact zL rfl (.tmp rfl) (by unfold peE;rw[if_pos (by omega)])
 refine zI rfl (λm4=>?_) (λm4=>?_)
 ·refine zb (tT 0 [0]) ?_;refine zh ?_;exact zL rfl (.tmp rfl) (by unfold peE;rw[if_pos (by omega)])
 obtain⟨T,hT⟩:∃ T:Nat,p.t=(T:Int):=⟨p.t.toNat,by omega⟩;obtain⟨L,hL⟩:∃ L:Nat,p.l=(L:Int):=⟨p.l.toNat,by omega⟩;obtain⟨B,hB⟩:∃ B:Nat,p.t+p.h=(B:Int):=⟨(p.t+p.h).toNat,by omega⟩;obtain⟨R,hRr⟩:∃ R:Nat,p.l+p.w=(R:Int):=⟨(p.l+p.w).toNat,by omega⟩;have g1:=fgF_at s (a:=B) (b:=R) (by omega) (by omega) (by omega) (by omega);have g2:=fgF_at s (a:=T) (b:=R) (by omega) (by omega) (by omega) (by omega);have g3:=fgF_at s (a:=B) (b:=L) (by omega) (by omega) (by omega) (by omega);have g4:=fgF_at s (a:=T) (b:=L) (by omega) (by omega) (by omega) (by omega);have k1:=fgN_le hok (a:=B) (b:=R) (by omega) (by omega);have k2:=fgN_le hok (a:=T) (b:=R) (by omega) (by omega);have k3:=fgN_le hok (a:=B) (b:=L) (by omega) (by omega);have k4:=fgN_le hok (a:=T) (b:=L) (by omega) (by omega);have hfs:=fig_sums (s:=s) (p:=p) (by omega) (by omega) (by omega) (by omega);rw[hB,hRr,hT,hL,Int.toNat_natCast,Int.toNat_natCast,Int.toNat_natCast,Int.toNat_natCast]at hfs;have hab:=ar_bd (h:=p.h) (w:=p.w) (by omega) (by omega);have hfit:Fit (p.h*p.w):=Fit.of (by omega) (by omega);have hin:1<=p.h/\p.h<=(gdS s).R/\1<=p.w/\p.w<=(gdS s).C/\0<=p.t/\0<=p.l/\p.t<=(gdS s).R-p.h/\p.l<=(gdS s).C-p.w:=by omega
 have c1:∀ V',Le V V'->Fnc Tryz.prog 119 [.pointer (some ⟨b,0,none⟩),iv B,iv R] V' λr _=>r=iv (fgN s.rows B R):=λV' hV'=>above_f _ b B R _ g1 (by omega) V' (hc3.le hV')
 have c2:∀ V',Le V V'->Fnc Tryz.prog 119 [.pointer (some ⟨b,0,none⟩),iv p.t,iv R] V' λr _=>r=iv (fgN s.rows T R):=λV' hV'=>by rw[hT];exact above_f _ b T R _ g2 (by omega) V' (hc3.le hV')
 have c3:∀ V',Le V V'->Fnc Tryz.prog 119 [.pointer (some ⟨b,0,none⟩),iv B,iv p.l] V' λr _=>r=iv (fgN s.rows B L):=λV' hV'=>by rw[hL];exact above_f _ b B L _ g3 (by omega) V' (hc3.le hV')
 have c4:∀ V',Le V V'->Fnc Tryz.prog 119 [.pointer (some ⟨b,0,none⟩),iv p.t,iv p.l] V' λr _=>r=iv (fgN s.rows T L):=λV' hV'=>by rw[hT,hL];exact above_f _ b T L _ g4 (by omega) V' (hc3.le hV')
 refine nrm ?_;refine cutG (ι:=Unit) (λ_=>[(0,.pointer (some ⟨b,0,none⟩)),(3,.pointer (some ⟨b3,0,none⟩)),(7,iv B),(8,iv R)]) (λ_=>[.blk b3 (LC (pce p) 103)]) (λ_ V''=>Le V V'') ?_ ?_
 ·refine xm (tT 0 [0,0,0,0,0,0,0,0,0,0,0,0]) ffm (by kernel_rfl) ?_;refine zw fo103_0 ?_;refine kV tk3 ?_;refine zw fo103_2 ?_;refine kV tk3 ?_;refine zM ?_;refine zw fo103_1 ?_;refine kV tk3 ?_;refine zw fo103_3 ?_;refine kV tk3 ?_;refine zM ?_;refine zu ?_;refine zh ?_;all_goals (rw[hB,hRr];exact qH () (by first | exact Le.refl _ | assumption | exact Le.trans (by assumption) (by assumption)) ⟨rfl,rfl,rfl,rfl,trivial⟩ Pt.zg)
 rintro _ V2 ks' O' hVV hk hO hl2;subst hk hO;refine nrm ?_;refine cutG (ι:=Unit) (λ_=>[(0,.pointer (some ⟨b,0,none⟩)),(3,.pointer (some ⟨b3,0,none⟩)),(100,.bool (hasF (gdS s) p))]) (λ_=>[.blk b3 (LC (pce p) 103)]) (λ_ V''=>Le V V'') ?_ ?_
 ·by_cases hz:fgF s=List.replicate 49 0
  ·have hF:=fgF_zero hok hz (p:=p) (by omega) (by omega) (by omega) (by omega) (by omega) (by omega)
   rw[hF];refine xm (.q 0 (.q 1 (.q 2 (.q 3 (.q 4 (.q 5 (.q 6 (.q 7 (.q 8 (.q 9 (.q 11 (.q 12 (.q 13 (.q 14 (.q 17 (.q 18 (.q 19 (.q 20 (.q 23 (.q 24 (.q 25 (.q 26 (.q 27 (.n false 10 (.n false 15 (.q 16 (.n false 21 (.q 22 (.n false 28 (.q 29 (.q 30 (.q 31 .done)))))))))))))))))))))))))))))))) ffm (by kernel_rfl) ?_;refine ze ?_;refine jh ?_;refine zw fo55_2 ?_;refine kloadA tk53 ?_ (hc:=hc3.le hVV) (hl:=by rw[zU Lw.jP,fgF_len]);refine qD (bd53) ?_;refine kneS (eqS53 (fgF s) (List.replicate 49 0) (fgF_len s) rfl) ?_;rw[decide_eq_true hz];refine ze ?_;all_goals (first | refine kY 75 ?_ | refine kX (d:=75) rfl (λhg75=>?_) (λhg75=>?_) | refine kW (d:=75) rfl (λhg75=>?_) (λhg75=>?_))
   all_goals refine zJ ?_
   all_goals refine zJ ?_
   all_goals refine zJ ?_
   all_goals refine zJ ?_
   all_goals refine ja fo103_0 ?_
   all_goals refine qi tk3 ?_
   all_goals refine zJ ?_
   all_goals refine zJ ?_
   all_goals refine zJ ?_
   all_goals refine ja fo103_1 ?_
   all_goals refine qi tk3 ?_
   all_goals refine zJ ?_
   all_goals refine ja fo103_0 ?_
   all_goals refine qi tk3 ?_
   all_goals refine ja fo103_1 ?_
   all_goals refine qi tk3 ?_
   all_goals first|refine kpN ?_|((fail))
   all_goals first|refine kpN ?_|((fail))
   all_goals refine p_sb ?_
   all_goals first|refine kpN ?_|((fail))
   all_goals refine p_sb ?_
   all_goals first|refine kpN ?_|((fail))
   all_goals refine p_ad ?_
   all_goals refine p_gt ?_
   all_goals refine zF ?_
   all_goals refine AtT.done ?_
   all_goals refine nrm ?_
   all_goals (exact qH () (by first | exact hVV | exact Le.trans hVV (by assumption)) ⟨rfl,rfl,rfl,trivial⟩ Pt.zg)
  ·have hF:decide (fgN s.rows B R-fgN s.rows T R-fgN s.rows B L+fgN s.rows T L > 0)=hasF (gdS s) p:=by
    cases h:hasF (gdS s) p with
    | true=>exact decide_eq_true (hfs.2 h)
    | false=>exact decide_eq_false (λhc=>by rw[hfs.1 hc]at h;cases h)
   rw[<-hF];refine xm (.q 0 (.q 1 (.q 2 (.q 3 (.q 4 (.q 5 (.q 6 (.q 7 (.q 8 (.q 9 (.q 11 (.q 12 (.q 13 (.q 14 (.q 17 (.q 18 (.q 19 (.q 20 (.q 23 (.q 24 (.q 25 (.q 26 (.q 27 (.n false 10 (.n false 15 (.q 16 (.n false 21 (.q 22 (.n false 28 (.q 29 (.q 30 (.q 31 .done)))))))))))))))))))))))))))))))) ffm (by kernel_rfl) ?_;refine ze ?_;refine jh ?_;refine zw fo55_2 ?_;refine kloadA tk53 ?_ (hc:=hc3.le hVV) (hl:=by rw[zU Lw.jP,fgF_len]);refine qD (bd53) ?_;refine kneS (eqS53 (fgF s) (List.replicate 49 0) (fgF_len s) rfl) ?_;rw[decide_eq_false hz];refine ze ?_;all_goals (first | refine kY 75 ?_ | refine kX (d:=75) rfl (λhg75=>?_) (λhg75=>?_) | refine kW (d:=75) rfl (λhg75=>?_) (λhg75=>?_))
   all_goals refine zJ ?_
   all_goals refine zJ ?_
   all_goals refine zJ ?_
   all_goals refine zJ ?_
   all_goals refine ja fo103_0 ?_
   all_goals refine qi tk3 ?_
   all_goals refine zJ ?_
   all_goals refine zJ ?_
   all_goals refine zJ ?_
   all_goals refine ja fo103_1 ?_
   all_goals refine qi tk3 ?_
   all_goals refine zJ ?_
   all_goals refine ja fo103_0 ?_
   all_goals refine qi tk3 ?_
   all_goals refine ja fo103_1 ?_
   all_goals refine qi tk3 ?_
   all_goals first|refine kpN ?_|((refine zm rfl rfl ok119 (c1 _ hVV) ?_);(rintro _ rfl))
   all_goals first|refine kpN ?_|((refine zm rfl rfl ok119 (c2 _ hVV) ?_);(rintro _ rfl))
   all_goals refine p_sb ?_
   all_goals first|refine kpN ?_|((refine zm rfl rfl ok119 (c3 _ hVV) ?_);(rintro _ rfl))
   all_goals refine p_sb ?_
   all_goals first|refine kpN ?_|((refine zm rfl rfl ok119 (c4 _ hVV) ?_);(rintro _ rfl))
   all_goals refine p_ad ?_
   all_goals refine p_gt ?_
   all_goals refine zF ?_
   all_goals refine AtT.done ?_
   all_goals refine nrm ?_
   all_goals (exact qH () (by first | exact hVV | exact Le.trans hVV (by assumption)) ⟨rfl,rfl,rfl,trivial⟩ Pt.zg)
 rintro _ V3 ks' O' hV3 hk hO hl3;subst hk hO;have hc1':=hc1.le hV3;cases hF:hasF (gdS s) p with
 | true=>
  refine ql rfl rfl ?_;refine zb (tT 0 [0]) ?_;refine zh ?_;exact zL rfl (.tmp rfl) (by unfold peE;rw[if_neg (by omega),if_pos hF])
 | false=>
  refine zS rfl rfl ?_;refine nrm ?_;refine cutG (ι:=Unit) (λ_=>[(111,.bool (decide (s.most<arP p)))]) (λ_=>[]) (λ_ V''=>V3=V'') ?_ ?_
  ·refine xm (tT 0 [0,0,0,0,0,0,0,0,0,0,0]) ffm (by kernel_rfl) ?_;refine zw fo103_2 ?_;refine kV tk3 ?_;refine zw fo103_3 ?_;refine kV tk3 ?_;first | refine kmul ?_ | refine kmulW ?_
   refine ze ?_;refine jh ?_;refine zw fo55_0 ?_;refine zw fo24_1 ?_;refine kV tk3 ?_;refine kgtr ?_;refine AtT.dn ?_;all_goals (exact qH () rfl ⟨rfl,trivial⟩ Pt.zg)
  rintro _ _ ks' O' rfl hk hO hl4;subst hk hO;refine zI rfl (λhq=>?_) (λhq=>?_)
  ·refine zb (tT 0 [0]) ?_;refine zh ?_;exact zL rfl (.tmp rfl) (by unfold peE;rw[if_neg (by omega),if_neg (by rw[hF];simp),if_pos (by rw[hM];exact hq)])
  ·refine zb (tT 0 [0]) ?_;refine zh ?_;exact zL rfl (.tmp rfl) (by unfold peE;rw[if_neg (by omega),if_neg (by rw[hF];simp),if_neg (by rw[hM];exact hq)])
end Go.Proofs.YtnffcfhdnjbdbaaGreatDoor.P
namespace Go.Pm
open Go.Gl Go.Lw
theorem mnL_of {f:Cl->Int} {l:List Cl} (hl:l≠[]) (h99:∀ k∈l,f k<=99) {m:Int} (hm:m∈l.map f) (hx:∀ x∈l.map f,m<=x):m=mnL f l:=by obtain⟨k,hk,he⟩:=mnL_at hl h99;obtain⟨q,hq,rfl⟩:=List.mem_map.1 hm;have h1:=hx (f k) (List.mem_map_of_mem hk);have h2:=mnL_le (f:=f) hq;omega
theorem mxL_of {f:Cl->Int} {l:List Cl} (hl:l≠[]) (h99:∀ k∈l, -1<=f k) {m:Int} (hm:m∈l.map f) (hx:∀ x∈l.map f,x<=m):m=mxL f l:=by obtain⟨k,hk,he⟩:=mxL_at hl h99;obtain⟨q,hq,rfl⟩:=List.mem_map.1 hm;have h1:=hx (f k) (List.mem_map_of_mem hk);have h2:=mxL_ge (f:=f) hq;omega
theorem selK_le {α:Type} (K:List α) (b:Nat):∀ n,(jR K b n).length<=n
 | 0=>Nat.le_refl _
 | n+1=>by
  have ih:=selK_le K b n
  cases c:K[n]? with
  | none=>simp only[jR,c];omega
  | some x=>
   rw[selK_at c];split
   ·rw[List.length_append,List.length_singleton];omega
   ·omega
end Go.Pm
namespace Go.Proofs.YtnffcfhdnjbdbaaGreatDoor.P
open Go.Lw Go.Gl Go.Pm Go.RowKit
abbrev stv (s:Nat):Value:=.agg #[iv (s:Int)]
abbrev ste (s:Nat):List Value:=[iv (s:Int)]
theorem max_f (l:List Int) (hl:l≠[]) (V:View) (v:Value) (hs:SlI V v l):Fnc Tryz.prog 121 [v] V λr _=>∃ m,r=iv m/\m∈l/\∀ x∈l,x<=m:=by
 have hlen:=hs.jC
 have hpos:0<l.length:=List.length_pos_iff.2 hl
 obtain⟨a,c,rfl,k1,k2,_⟩:=id hs;clear k1 k2;refine zG Tryz.func121 rfl Tryz.ntmps121 (Nat.le_of_ble_eq_true rfl) ?_;intro w0 hw0;refine zb (tT 0 [0]) ?_;refine ax (tT 0 [0,0,0]) ?_;refine ze ?_;refine zZ Tryz.underlying34 ?_;refine qc ?_;refine AtT.dn ?_;refine zS rfl (decide_eq_false (by omega)) ?_;refine zb (tT 0 [0,0,0,0]) ?_;refine ze ?_;refine kZ Tryz.underlying34 tk3 ?_;intro p10 e10 he10 hc10;refine kV tk3 ?_;refine zh ?_;have hm0:e10∈l:=List.mem_of_getElem? he10;have h0:l[0]? = some e10:=by simpa using he10
 refine zP (tT 0 [0]) ?_;refine zh ?_;refine xc (ι:=Nat×Int) (KS:=λg=>[(0,.slice a l.length c),(3,iv g.2),(4,iv g.1)]) (OS:=λ_=>[]) (VS:=λg V'=>V'=V/\g.1<=l.length/\g.2∈l/\∀ (j:Nat) (x:Int),j<g.1->l[j]? = some x->x<=g.2) (μ:=λg=>l.length-g.1) (1,e10) ?_ ?_ ?_ ?_
 ·exact⟨rfl,rfl,rfl,trivial⟩
 ·exact Pt.zg
 ·refine⟨rfl,hpos,hm0,λj x hj hx=>?_⟩;obtain rfl:j=0:=by dsimp only at hj;omega
  rw[h0]at hx;cases hx;exact Int.le_refl _
 ·rintro⟨k,m⟩ V' ks' O' ⟨rfl,hkl,hm,hok⟩ hk hO hl2;dsimp only at hkl hm hok hk hO;subst hk hO;refine zb (tT 0 [0,0,0,0]) ?_;refine ze ?_;refine ze ?_;refine zZ Tryz.underlying34 ?_;refine qc ?_;refine AtT.dn ?_;refine zI rfl (λhp=>?_) (λhp=>?_)
  ·obtain⟨x,hx⟩:∃ x,l[k]? = some x:=⟨_,List.getElem?_eq_getElem (by omega)⟩;refine zb (tT 0 [0,0,0,0,0,0,0]) ?_;refine ze ?_;refine ze ?_;refine ze ?_;refine kZ Tryz.underlying34 tk3 ?_;intro p21 e21 he21 hc21;obtain rfl:e21=x:=by have:l[k]? = some e21:=(by simpa using he21);rw[hx]at this;simpa using this.symm
   refine kV tk3 ?_;refine kmax2 ?_;refine ax (tT 0 [0,0,0]) ?_;refine ze ?_;refine zM ?_;refine zh ?_;refine At.round (k+1,max m e21) ?_ ?_ ?_ ?_
   ·show l.length-(k+1)<l.length-k;omega
   ·refine⟨rfl,by dsimp only;omega,?_,λj y hj hy=>?_⟩
    ·show max m e21∈l
     by_cases c:m<=e21
     ·rw[Int.max_eq_right c];exact List.mem_of_getElem? hx
     ·rw[Int.max_eq_left (by omega)];exact hm
    ·show y<=max m e21
     dsimp only at hj;by_cases hjk:j=k
     ·subst hjk;rw[hx]at hy;cases hy;omega
     ·have:=hok j y (by omega) hy;omega
   ·exact⟨rfl,rfl,ivs (by dsimp only;omega),trivial⟩
   ·exact Pt.zg
  ·obtain rfl:k=l.length:=by omega
   refine zb (tT 0 [0,0]) ?_;refine ze ?_;refine zh ?_;exact zL rfl (.tmp rfl) ⟨m,rfl,hm,λx hx=>by obtain⟨j,hj,rfl⟩:=List.getElem_of_mem hx;exact hok j _ hj (List.getElem?_eq_getElem hj)⟩
theorem kn_bd {s:Sh} (hok:ShOk s):∀ k∈knL s,0<=k.r/\k.r<=99/\0<=k.c/\k.c<=99:=λk hk=>by
 have h:=kn_on hok k hk
 have hn:=hok.n
 have hw:=hok.w
 have hR:(gdS s).R=(s.rows.length:Int):=rfl
 have hC:(gdS s).C=(wdS s:Int):=rfl
 obtain⟨h1,h2,h3,h4⟩:=h;omega
theorem least_f (s:Sh) (hok:ShOk s) (h10:(knL s).length<=10) (n:Nat) (hn:n<9223372036854775808) (hne:sel (knL s) n≠[]) (V:View) (b:Nat) (hb:BnV V b s):Fnc Tryz.prog 58 [.pointer (some ⟨b,0,none⟩),stv n] V λr _=>r=pcv (bbx (sel (knL s) n)):=by
 obtain⟨a,c,ak,ck,hc0,hc1,hc2,hc3,hs,hsk⟩:=bn_get hb;have hK:=kn_bd hok;have hsel:∀ i,∀ k∈jR (knL s) n i,0<=k.r/\k.r<=99/\0<=k.c/\k.c<=99:=λi k hk=>by obtain⟨j,_,h1,_⟩:=(selK_mem i).1 hk;exact hK k (List.mem_of_getElem? h1)
 refine zG Tryz.func58 rfl Tryz.ntmps58 (Nat.le_of_ble_eq_true rfl) ?_;intro w0 hw0;refine zb (tT 0 [1,1]) ?_;refine qQ ?_;intro b3;refine zW z103 ?_;intro b4;refine xq (tT 0 [0,0]) ?_;refine zu ?_;refine ax (tT 0 [0,0,0,0,0,0]) ?_;refine ze ?_;refine jh ?_;refine zw fo55_1 ?_;refine kV tk51 ?_;refine zZ Tryz.underlying51 ?_;refine ze ?_;refine AtT.dn ?_;refine xc (ι:=Nat×(Option Addr×Nat)×Option Addr×Nat) (KS:=λg=>[(0,.pointer (some ⟨b,0,none⟩)),(3,.pointer (some ⟨b3,0,none⟩)),(4,.pointer (some ⟨b4,0,none⟩)),(14,.slice ak (knL s).length ck),(15,iv (knL s).length),(16,iv g.1),(5,.slice g.2.1.1 ((jR (knL s) n g.1).map (·.r)).length g.2.1.2),(6,.slice g.2.2.1 ((jR (knL s) n g.1).map (·.c)).length g.2.2.2)])
  (OS:=λ_=>[.blk b3 (LC [iv n] 106),.blk b4 (LC (pce ⟨0,0,0,0⟩) 103)])
  (VS:=λg V'=>Le V V'/\g.1<=(knL s).length/\SlI V' (.slice g.2.1.1 ((jR (knL s) n g.1).map (·.r)).length g.2.1.2) ((jR (knL s) n g.1).map (·.r))/\SlI V' (.slice g.2.2.1 ((jR (knL s) n g.1).map (·.c)).length g.2.2.2) ((jR (knL s) n g.1).map (·.c))) (μ:=λg=>(knL s).length-g.1) (0,(none,0),none,0) ?_ ?_ ?_ ?_
 ·exact⟨rfl,rfl,rfl,rfl,rfl,rfl,rfl,rfl,trivial⟩
 ·exact Pt.zg
 ·exact⟨Le.refl _,Nat.zero_le _,Sl.nil _ _ _,Sl.nil _ _ _⟩
 rintro⟨i,⟨a5,c5⟩,a6,c6⟩ V' ks' O' ⟨hVV,hil,hs5,hs6⟩ hk hO hl2;dsimp only at hil hk hO hs5 hs6;subst hk hO;have hsk2:=hsk.le hVV;refine zb (tT 0 [0]) ?_;refine qc ?_;refine AtT.dn ?_;refine zI rfl (λhp=>?_) (λhp=>?_);rotate_left
 ·obtain rfl:i=(knL s).length:=by omega
  have hA:(sel (knL s) n).map (·.r)≠[]:=by simpa using hne
  have hB:(sel (knL s) n).map (·.c)≠[]:=by simpa using hne
  have b1:=mnL_bd (f:=(·.r)) (l:=sel (knL s) n) λk hk=>(hsel _ k hk).1
  have b2:=mnL_bd (f:=(·.c)) (l:=sel (knL s) n) λk hk=>(hsel _ k hk).2.2.1
  have b3':=mxL_bd (f:=(·.r)) (l:=sel (knL s) n) λk hk=>(hsel _ k hk).2.1
  have b4':=mxL_bd (f:=(·.c)) (l:=sel (knL s) n) λk hk=>(hsel _ k hk).2.2.2
  refine zb (tT 0 [0,1,0,1,0,0]) ?_;refine ze ?_;refine zm rfl rfl ok120 (min_f _ hA _ _ hs5) ?_;rintro _ ⟨m1,rfl,hm1,hx1⟩;obtain rfl:=mnL_of (f:=λx=>x.r) hne (λk hk=>(hsel _ k hk).2.1) hm1 hx1;refine ze ?_;refine zm rfl rfl ok120 (min_f _ hB _ _ hs6) ?_;rintro _ ⟨m2,rfl,hm2,hx2⟩;obtain rfl:=mnL_of (f:=λx=>x.c) hne (λk hk=>(hsel _ k hk).2.2.2) hm2 hx2;refine zu ?_;refine zh ?_;refine zb (tT 0 [0,0,0,1,0,0,0,0,1,0,0,0,0,2]) ?_;refine ze ?_;refine ze ?_;refine ze ?_;refine zm rfl rfl ok121 (max_f _ hA _ _ hs5) ?_;rintro _ ⟨m3,rfl,hm3,hx3⟩;obtain rfl:=mxL_of (f:=λx=>x.r) hne (λk hk=>by have:=(hsel _ k hk).1;omega) hm3 hx3;refine ze ?_;refine k_sb ?_;refine zM ?_;refine ze ?_;refine zm rfl rfl ok121 (max_f _ hB _ _ hs6) ?_;rintro _ ⟨m4,rfl,hm4,hx4⟩;obtain rfl:=mxL_of (f:=λx=>x.c) hne (λk hk=>by have:=(hsel _ k hk).2.2.1;omega) hm4 hx4;refine ze ?_;refine k_sb ?_;refine zM ?_;refine qD (bd103_0_1_2_3 _ _ _ _) ?_;refine zH tk103 ?_;refine AtT.dn ?_;exact zL rfl (.agg rfl tk103 zo.zg rfl) rfl
 obtain⟨x,hx⟩:∃ x,(knL s)[i]? = some x:=⟨_,List.getElem?_eq_getElem (by omega)⟩;have hat:=selK_at (b:=n) hx;have hshr:n >>> i<9223372036854775808:=Nat.lt_of_le_of_lt (Nat.shiftRight_le _ _) hn;have hsl:=selK_le (knL s) n i;have hl5:((jR (knL s) n i).map (·.r)).length<=10:=by rw[List.length_map];omega
 have hl6:((jR (knL s) n i).map (·.c)).length<=10:=by rw[List.length_map];omega
 refine nrmB ?_;refine cutG (ι:=(Option Addr×Nat)×Option Addr×Nat) (λg=>[(0,.pointer (some ⟨b,0,none⟩)),(3,.pointer (some ⟨b3,0,none⟩)),(4,.pointer (some ⟨b4,0,none⟩)),(14,.slice ak (knL s).length ck),(15,iv (knL s).length),(16,iv i),(5,.slice g.1.1 ((jR (knL s) n (i+1)).map (·.r)).length g.1.2),(6,.slice g.2.1 ((jR (knL s) n (i+1)).map (·.c)).length g.2.2)])
  (λ_=>[.blk b3 (LC [iv n] 106),.blk b4 (LC (pce ⟨0,0,0,0⟩) 103)])
  (λg V''=>Le V' V''/\SlI V'' (.slice g.1.1 ((jR (knL s) n (i+1)).map (·.r)).length g.1.2) ((jR (knL s) n (i+1)).map (·.r))/\SlI V'' (.slice g.2.1 ((jR (knL s) n (i+1)).map (·.c)).length g.2.2) ((jR (knL s) n (i+1)).map (·.c))) ?_ ?_
 ·refine zb (tT 0 [0,0,0,1,0,2]) ?_;refine ze ?_;refine kZ Tryz.underlying51 tk162 ?_;intro p19 e19 he19 hc19;refine qo tk162 ?_;obtain rfl:=qx hx he19;refine zW z162 ?_;intro b8;refine zu ?_;refine zH tk162 ?_;refine AtT.dn ?_;by_cases hbit:n.testBit i=true
  ·rw[if_pos hbit]at hat;rw[hat];refine zb (tT 0 [0,0,0,0,0,0]) ?_;refine zw fo106_0 ?_;refine kV tk3 ?_;refine ze ?_;refine shrN rfl trivial rfl rfl rfl rfl (by omega) (by decide) (A:=n) (N:=i) ?_;refine andN rfl trivial rfl rfl rfl rfl (by omega) (by decide) (by decide) (A:=n >>> i) (B:=1) ?_;refine keqI ?_;refine xk (d:=26) rfl (((bit_iff n i).2 hbit)) ?_;refine AtT.dn ?_;refine ql rfl rfl ?_;refine nrm ?_;refine cutG (ι:=Option Addr×Nat) (λg=>[(0,.pointer (some ⟨b,0,none⟩)),(3,.pointer (some ⟨b3,0,none⟩)),(4,.pointer (some ⟨b4,0,none⟩)),(8,.pointer (some ⟨b8,0,none⟩)),(14,.slice ak (knL s).length ck),(15,iv (knL s).length),(16,iv i),(5,.slice g.1 ((jR (knL s) n i++[x]).map (·.r)).length g.2),(6,.slice a6 ((jR (knL s) n i).map (·.c)).length c6)])
    (λ_=>[.blk b3 (LC [iv n] 106),.blk b4 (LC (pce ⟨0,0,0,0⟩) 103),.blk b8 (LC (cle x) 162)])
    (λg V''=>Le V' V''/\SlI V'' (.slice g.1 ((jR (knL s) n i++[x]).map (·.r)).length g.2) ((jR (knL s) n i++[x]).map (·.r))) ?_ ?_
   ·refine xm (tT 0 [0,0,0,0,0,0,0,0,1,1,0]) ffm (by kernel_rfl) ?_;refine ze ?_;refine ze ?_;refine zZ Tryz.underlying34 ?_;refine ze ?_;refine zZ Tryz.underlying34 ?_;first | refine kclipAll Tryz.underlying34 tk3 ?_ | refine kclip Tryz.underlying34 tk3 ?_
    intro a32 hs32;refine zw fo162_0 ?_;refine kV tk3 ?_;refine zy (zR _) ?_;intro q35 V35 hV35 hq35;have g35:Le V V35:=by first | exact hV35 | exact Le.trans (by assumption) hV35
    refine appendC rfl trivial Tryz.underlying34 rw3 rfl (by decide) rfl (by first | assumption | exact Sl.le (by assumption) (by assumption)) rfl rfl (by first | assumption | exact Cells.le (by assumption) (by assumption)) (λ_=>rfl) (by simp) (by unfold maxLen;simp only[List.length_cons,List.length_nil];omega) (by simp only[List.length_cons,List.length_nil];omega) (by decide) (enc:=ei) (m:=[x.r]) ?_;intro a36 c36 V36 hV36 hs36;have g36:Le V V36:=by first | exact hV36 | exact Le.trans (by assumption) hV36
    refine zh ?_;all_goals (rw[List.map_append];exact qH (a36,c36) ⟨by first | assumption | exact Le.trans (by assumption) (by assumption),by assumption⟩ ⟨rfl,rfl,rfl,rfl,rfl,rfl,rfl,rfl,rfl,trivial⟩ Pt.zg)
   rintro⟨a9,c9⟩ V5 ks' O' ⟨hV5,hs9⟩ hk hO hl5;dsimp only at hk hO hs9;subst hk hO;have hs6':=hs6.le hV5;refine nrm ?_;refine xm (tT 0 [0,0,0,0,0,0,0,0,1,1,0]) ffm (by kernel_rfl) ?_;refine ze ?_;refine ze ?_;refine zZ Tryz.underlying34 ?_;refine ze ?_;refine zZ Tryz.underlying34 ?_;first | refine kclipAll Tryz.underlying34 tk3 ?_ | refine kclip Tryz.underlying34 tk3 ?_
   intro a42 hs42;refine zw fo162_1 ?_;refine kV tk3 ?_;refine zy (zR _) ?_;intro q45 V45 hV45 hq45;have g45:Le V V45:=by first | exact hV45 | exact Le.trans (by assumption) hV45
   refine appendC rfl trivial Tryz.underlying34 rw3 rfl (by decide) rfl (by first | assumption | exact Sl.le (by assumption) (by assumption)) rfl rfl (by first | assumption | exact Cells.le (by assumption) (by assumption)) (λ_=>rfl) (by simp) (by unfold maxLen;simp only[List.length_cons,List.length_nil];omega) (by simp only[List.length_cons,List.length_nil];omega) (by decide) (enc:=ei) (m:=[x.c]) ?_;intro a46 c46 V46 hV46 hs46;have g46:Le V V46:=by first | exact hV46 | exact Le.trans (by assumption) hV46
   refine zh ?_;all_goals (rw[List.map_append (f:=λx:Cl=>x.c)];exact qH ((a9,c9),a46,c46) ⟨hV5.trans (by first | assumption | exact Le.trans (by assumption) (by assumption)),hs9.le (by first | assumption | exact Le.trans (by assumption) (by assumption)),by assumption⟩ ⟨rfl,rfl,rfl,rfl,rfl,rfl,rfl,rfl,trivial⟩ Pt.zg)
  ·rw[if_neg hbit]at hat;rw[hat];refine zb (tT 0 [0,0,0,0,0,0]) ?_;refine zw fo106_0 ?_;refine kV tk3 ?_;refine ze ?_;refine shrN rfl trivial rfl rfl rfl rfl (by omega) (by decide) (A:=n) (N:=i) ?_;refine andN rfl trivial rfl rfl rfl rfl (by omega) (by decide) (by decide) (A:=n >>> i) (B:=1) ?_;refine keqI ?_;refine xh (d:=26) rfl ((λh=>hbit ((bit_iff n i).1 h))) ?_;refine AtT.dn ?_;refine zS rfl rfl ?_;refine nrm ?_;exact qH ((a5,c5),a6,c6) ⟨Le.refl _,hs5,hs6⟩ ⟨rfl,rfl,rfl,rfl,rfl,rfl,rfl,rfl,trivial⟩ Pt.zg
 rintro⟨⟨a7,c7⟩,a8,c8⟩ V4 ks' O' ⟨hV4,hs7,hs8⟩ hk hO hl4;dsimp only at hk hO hs7 hs8;subst hk hO;refine zb (tT 0 [0,0]) ?_;refine zM ?_;refine ze ?_;refine AtT.dn ?_;refine At.round (i+1,(a7,c7),a8,c8) ?_ ?_ ?_ ?_
 ·show(knL s).length-(i+1)<(knL s).length-i;omega
 ·exact⟨hVV.trans hV4,by dsimp only;omega,hs7,hs8⟩
 ·exact⟨rfl,rfl,rfl,rfl,rfl,ivs (by dsimp only;omega),rfl,rfl,trivial⟩
 ·exact Pt.zg
end Go.Proofs.YtnffcfhdnjbdbaaGreatDoor.P
namespace Go.Pm
open Go.Gl Go.Lw
def wh (s:Sh):List UInt8:=(s.rows.map bt).flatten
theorem dw_nil {α:Type} (p:α->Bool):∀ l:List α,l.dropWhile p=[]↔∀ x∈l,p x=true
 | []=>by simp
 | x::l=>by
  have ih:=dw_nil p l
  by_cases c:p x=true
  ·rw[List.dropWhile_cons_of_pos c,ih];simp[c]
  ·rw[List.dropWhile_cons_of_neg c];constructor
   ·intro h;cases h
   ·intro h;exact absurd (h x (by simp)) c
theorem dw_head {α:Type} (p:α->Bool):∀ (l:List α) (x:α) (t:List α),l.dropWhile p=x::t->p x=false
 | [],x,t,h=>by cases h
 | y::l,x,t,h=>by
  by_cases c:p y=true
  ·rw[List.dropWhile_cons_of_pos c]at h;exact dw_head p l x t h
  ·rw[List.dropWhile_cons_of_neg c]at h;cases h;simpa using c
theorem trim_nil (l cs:List UInt8):Lib.trimS l cs=[]↔∀ b∈l,cs.contains b=true:=by
 unfold Lib.trimS Lib.trimLeftS Lib.trimRightS;rw[dw_nil];constructor
 ·intro h;cases hX:l.reverse.dropWhile (cs.contains ·)with
  | nil=>
   rw[dw_nil]at hX;intro b hb;exact hX b (List.mem_reverse.2 hb)
  | cons x t=>
   have h1:cs.contains x=true:=h x (by rw[hX];simp)
   have h2:=dw_head _ _ _ _ hX
   rw[h1]at h2;cases h2
 ·intro h x hx;have hx':=List.mem_reverse.1 hx;exact h x (List.mem_reverse.1 ((List.dropWhile_sublist _).subset hx'))
theorem ok_byte (b:UInt8):([46,111,35]:List UInt8).contains b=okC (b.toNat:Int):=by
 have hb:∀ c:UInt8,b=c↔(b.toNat:Int)=(c.toNat:Int):=λc=>by rw[<-UInt8.toNat_inj];omega
 unfold okC;have h1:=hb 46;have h2:=hb 111;have h3:=hb 35;rw[Bool.eq_iff_iff,List.contains_iff_mem,decide_eq_true_eq];simp only[List.mem_cons,List.not_mem_nil,or_false];rw[h1,h2,h3];rfl
theorem wh_trim (s:Sh):Lib.trimS (wh s) [46,111,35]=[]↔s.rows.all frR=true:=by
 rw[trim_nil];unfold wh frR;constructor
 ·intro h;refine List.all_eq_true.2 λr hr=>List.all_eq_true.2 λb hb=>?_;rw[<-ok_byte];exact h b (List.mem_flatten.2 ⟨bt r,List.mem_map_of_mem hr,hb⟩)
 ·intro h b hb;obtain⟨l,hl,hbl⟩:=List.mem_flatten.1 hb;obtain⟨r,hr,rfl⟩:=List.mem_map.1 hl;rw[ok_byte];exact List.all_eq_true.1 (List.all_eq_true.1 h r hr) b hbl
theorem knR_count (r:ByteArray) (i:Nat):∀ n,n<=r.size->(knR r i n).length=((bt r).take n).count 111
 | 0,_=>by simp[knR]
 | n+1,h=>by
  have ih:=knR_count r i n (by omega)
  have hl:n<(bt r).length:=by rw[bt_len];omega
  have hv:bv r n=(((bt r)[n]).toNat:Int):=by unfold bv;simp[List.getD,List.getElem?_eq_getElem hl]
  rw[List.take_succ_eq_append_getElem hl,List.count_append,<-ih];simp only[knR];by_cases c:bv r n=111
  ·rw[if_pos c,List.length_append];have:(bt r)[n]=111:=by rw[<-UInt8.toNat_inj];rw[hv]at c;show(bt r)[n].toNat=111;omega
   rw[this];rfl
  ·rw[if_neg c];have:(bt r)[n]≠111:=λe=>c (by rw[hv,e];rfl);simp[List.count_cons,this]
theorem knK_count (rows:List ByteArray):∀ n,n<=rows.length->(knK rows n).length=(((rows.take n).map bt).flatten).count 111
 | 0,_=>by simp[knK]
 | n+1,h=>by
  have ih:=knK_count rows n (by omega)
  have hr:rows[n]? = some rows[n]:=List.getElem?_eq_getElem (by omega)
  rw[knK_at hr,List.length_append,ih,knR_count _ _ _ (Nat.le_refl _),List.take_succ_eq_append_getElem (by omega),List.map_append,List.flatten_append,List.count_append,<-bt_len,List.take_length];simp
theorem wh_count (s:Sh):Lib.countByte (wh s) 111=(knL s).length:=by unfold Lib.countByte wh knL;rw[knK_count _ _ (Nat.le_refl _),List.take_length]
theorem wh_len (s:Sh) (h:∀ r∈s.rows,r.size<=12) (hn:s.rows.length<=10):(wh s).length<=120:=by
 have:∀ l:List ByteArray,(∀ r∈l,r.size<=12)->((l.map bt).flatten).length<=12*l.length:=by
  intro l;induction l with
  | nil=>simp
  | cons r l ih=>intro h;have h1:=h r (by simp);have h2:=ih λq hq=>h q (by simp[hq]);simp only[List.map_cons,List.flatten_cons,List.length_append,List.length_cons];rw[bt_len];omega
 have:=this s.rows h
 unfold wh;omega
end Go.Pm
namespace Go.Proofs.YtnffcfhdnjbdbaaGreatDoor.P
open Go.Lw Go.Gl Go.Pm Go.RowKit Go.Shelf
theorem fnc_of {f:FuncId} {args:List Value} {V:View} {v:Value} (h:∀ w,Le V (hp w)->Calls Tryz.prog f args.toArray w λe w'=>e=.returned v/\Below w.heap.size w w'):Fnc Tryz.prog f args V λr _=>r=v:=λw hw=>
 (h w hw).mono λe w' ⟨h1,h2⟩=>⟨v,V,h1,h2,Le.refl _,hw.trans (Below.le h2),λk o hk=>.inl hk,rfl⟩
theorem spot_none {V:View} {p:Addr} {v:Value} (h:jb V p=some v):p.spot=none:=by
 unfold jb at h;split at h
 ·cases c:p.spot with
  | none=>rfl
  | some x=>rw[c]at h;simp at h
 ·cases h
theorem join_f (l:List ByteArray) (h0:l≠[]) (hn:l.length<=10) (h12:∀ r∈l,r.size<=12) (V:View) (v:Value) (hs:Sl V bse 1 v l):Fnc Tryz.prog 52 [v,.string ByteArray.empty] V λr _=>r=.string ⟨((l.map bt).flatten).toArray⟩:=by
 obtain⟨a,c,rfl,hc,_,ha,hcl⟩:=id hs;obtain⟨p,rfl⟩:=Option.isSome_iff_exists.1 (ha h0);have hcell:∀ (j:Nat) x,l[j]? = some x->jb V (p.add j)=some (.string x):=λj x hj=>by
  have:=hcl p rfl j x hj 0 (.string x) rfl
  rw[Nat.mul_one]at this;exact this
 obtain⟨x0,t,rfl⟩:∃ x t,l=x::t:=by cases l with | nil=>exact absurd rfl h0 | cons x t=>exact⟨x,t,rfl⟩
 have hsp:p.spot=none:=spot_none (p:=p.add 0) (hcell 0 x0 rfl)
 obtain⟨b,o,sp⟩:=p;dsimp only at hsp;subst hsp;have hj:Lib.join ((x0::t).map (·.data.toList)) (ByteArray.empty.data.toList)=((x0::t).map bt).flatten:=by
  show Lib.join (bt x0::t.map bt) []=_
  rw[Lib.join_cons];show bt x0++((t.map bt).map λx:List UInt8=>[]++x).flatten=_;rw[show(λx:List UInt8=>[]++x)=id from rfl,List.map_id];rfl
 refine fnc_of λw hw=>?_;have:=Any.strings_Join lay_join str_ext b o c (x0::t) ByteArray.empty w (λj x hj=>by
  have h:=vcell_le hw (hcell j x hj)
  rw[jy,Addr.add_lit]at h;exact h) (by
   have h:=vcell_le hw (hcell 0 x0 rfl)
   rw[jy,Addr.add_lit]at h;cases hb:w.heap[b]? with
   | none=>simp[World.cell?,hb]at h
   | some o=>exact(Array.getElem?_eq_some_iff.1 hb).1) (by omega) hc (by
   rw[hj];have:=wh_len ⟨x0::t,0⟩ h12 hn;unfold wh at this;exact Nat.le_trans this (by decide));rw[hj]at this;exact this
theorem trim_f (s:ByteArray) (hs:s.size<=9223372036854775807) (V:View):Fnc Tryz.prog 53 [.string s,.string ⟨#[46,111,35]⟩] V λr _=>r=.string ⟨(Lib.trimS (bt s) [46,111,35]).toArray⟩:=
 fnc_of λw hw=>Any.strings_Trim_laid lay_trim (by kernel_rfl) s ⟨#[46,111,35]⟩ w hs (by decide) (ascii_of_all (by decide))
theorem count_f (s:ByteArray) (V:View):Fnc Tryz.prog 54 [.string s,.string ⟨#[111]⟩] V λr _=>r=iv (Lib.countByte (bt s) 111):=
 fnc_of λw hw=>(Any.strings_Count_one lay_count s 111 w).mono λe w' ⟨h1,h2⟩=>⟨h1,h2▸Below.refl _ _⟩
end Go.Proofs.YtnffcfhdnjbdbaaGreatDoor.P
namespace Go.Proofs.YtnffcfhdnjbdbaaGreatDoor.P
open Go.Lw Go.Gl Go.Pm Go.RowKit
abbrev vle (v:Value):List Value:=[v]
theorem index_b (g:FuncId) (cap:List Value) (p:ByteArray->Bool) (V:View) (vl:Value) (l:List (ByteArray)) (hs:Sl V bse 1 vl l) (hok:zi Tryz.prog g)
  (hc:∀ x,x∈l->Fnc Tryz.prog g ([]++[.string x]++cap) V (λv _=>v=.bool (p x))) :
  Fnc Tryz.prog 105 [vl,.func (.func g) #[] cap.toArray] V λv _=>∃ j:Int,v=iv j/\(decide (0<=j))=l.any p:=by
 have hlen:=hs.jC
 refine zG Tryz.func105 rfl Tryz.ntmps105 (Nat.le_of_ble_eq_true rfl) ?_;intro w0 hw0;refine zb (tT 0 [0]) ?_;refine ax (tT 0 [0,0,0]) ?_;refine ze ?_;refine zZ Tryz.underlying22 ?_;refine ze ?_;refine AtT.dn ?_;refine xc (ι:=Nat) (KS:=λk=>[(0,vl),(1,.func (.func g) #[] cap.toArray),(4,iv 0),(7,iv l.length),(8,iv k)]) (OS:=λ_=>[])
  (VS:=λk V'=>V'=V/\k<=l.length/\(l.take k).any p=false) (μ:=λk=>l.length-k) 0 ?_ ?_ ?_ ?_
 ·exact⟨rfl,rfl,rfl,rfl,rfl,trivial⟩
 ·exact Pt.zg
 ·exact⟨rfl,Nat.zero_le _,rfl⟩
 ·rintro k V' ks' O' ⟨rfl,hkl,hany⟩ hk hO hl;subst hk hO;refine zb (tT 0 [0]) ?_;refine qc ?_;refine AtT.dn ?_;refine zI rfl (λhp=>?_) (λhp=>?_)
  ·refine zb (tT 0 [0,0]) ?_;refine ze ?_;refine ax (tT 0 [0,0,0,0,0,1]) ?_;refine ze ?_;refine ze ?_;refine ze ?_;refine kZ Tryz.underlying22 tk9 ?_;intro p14 e14 he14 hc14;refine kV tk9 ?_;refine jD rfl rfl rfl hok (hc e14 (List.mem_of_getElem? he14)) ?_;rintro _ rfl;refine AtT.dn ?_;have hee:l[k]? = some e14:=by simpa using he14
   have hnx:l.take (k+1)=l.take k++[e14]:=by rw[List.take_succ_eq_append_getElem (by omega)];congr 1;rw[List.getElem?_eq_getElem (by omega)]at hee;simpa using hee
   refine At.cond rfl (λhb=>?_) (λhb=>?_)
   ·refine zb (tT 0 [0,0]) ?_;refine ze ?_;refine zh ?_;refine zL rfl (.tmp rfl) ⟨k,rfl,?_⟩;have:l.any p=true:=List.any_eq_true.2 ⟨e14,List.mem_of_getElem? hee,hb⟩;rw[this];simp
   ·refine zb (tT 0 [0,0]) ?_;refine zM ?_;refine ze ?_;refine AtT.dn ?_;refine At.round (k+1) ?_ ?_ ?_ ?_
    ·show l.length-(k+1)<l.length-k;omega
    ·refine⟨rfl,by omega,?_⟩;rw[hnx,List.any_append,hany];simp[hb]
    ·exact⟨rfl,rfl,rfl,rfl,rfl,trivial⟩
    ·exact Pt.zg
  ·have hkk:k=l.length:=by omega
   subst hkk;rw[List.take_length]at hany;refine zb (tT 0 [0]) ?_;refine zh ?_;refine zL rfl (.tmp rfl) ⟨-1,rfl,?_⟩;rw[hany];rfl
theorem contains_b (g:FuncId) (cap:List Value) (p:ByteArray->Bool) (V:View) (vl:Value) (l:List (ByteArray)) (hs:Sl V bse 1 vl l) (hok:zi Tryz.prog g)
  (hc:∀ x,x∈l->Fnc Tryz.prog g ([]++[.string x]++cap) V (λv _=>v=.bool (p x))) :
  Fnc Tryz.prog 50 [vl,.func (.func g) #[] cap.toArray] V λv _=>v=.bool (l.any p):=by
 refine zG Tryz.func50 rfl Tryz.ntmps50 (Nat.le_of_ble_eq_true rfl) ?_;intro w0 hw0;refine zb (tT 0 [0]) ?_;refine ax (tT 0 [0,0,1,0,0]) ?_;refine ze ?_;refine ze ?_;refine zm rfl rfl ok105 (index_b g cap p V vl l hs hok hc) ?_;rintro _ ⟨j,rfl,hj⟩;refine kgeq ?_;refine zh ?_;refine zL rfl (.tmp rfl) ?_;rw[hj]
theorem index_v (g:FuncId) (cap:List Value) (p:Value->Bool) (V:View) (vl:Value) (l:List (Value)) (hs:Sl V vle 1 vl l) (hok:zi Tryz.prog g)
  (hc:∀ x,x∈l->Fnc Tryz.prog g ([]++[x]++cap) V (λv _=>v=.bool (p x))) :
  Fnc Tryz.prog 122 [vl,.func (.func g) #[] cap.toArray] V λv _=>∃ j:Int,v=iv j/\(decide (0<=j))=l.any p:=by
 have hlen:=hs.jC
 refine zG Tryz.func122 rfl Tryz.ntmps122 (Nat.le_of_ble_eq_true rfl) ?_;intro w0 hw0;refine zb (tT 0 [0]) ?_;refine ax (tT 0 [0,0,0]) ?_;refine ze ?_;refine zZ Tryz.underlying37 ?_;refine ze ?_;refine AtT.dn ?_;refine xc (ι:=Nat) (KS:=λk=>[(0,vl),(1,.func (.func g) #[] cap.toArray),(4,iv 0),(7,iv l.length),(8,iv k)]) (OS:=λ_=>[])
  (VS:=λk V'=>V'=V/\k<=l.length/\(l.take k).any p=false) (μ:=λk=>l.length-k) 0 ?_ ?_ ?_ ?_
 ·exact⟨rfl,rfl,rfl,rfl,rfl,trivial⟩
 ·exact Pt.zg
 ·exact⟨rfl,Nat.zero_le _,rfl⟩
 ·rintro k V' ks' O' ⟨rfl,hkl,hany⟩ hk hO hl;subst hk hO;refine zb (tT 0 [0]) ?_;refine qc ?_;refine AtT.dn ?_;refine zI rfl (λhp=>?_) (λhp=>?_)
  ·refine zb (tT 0 [0,0]) ?_;refine ze ?_;refine ax (tT 0 [0,0,0,0,0,1]) ?_;refine ze ?_;refine ze ?_;refine ze ?_;refine kZ Tryz.underlying37 qp ?_;intro p14 e14 he14 hc14;refine kV qp ?_;refine jD rfl rfl rfl hok (hc e14 (List.mem_of_getElem? he14)) ?_;rintro _ rfl;refine AtT.dn ?_;have hee:l[k]? = some e14:=by simpa using he14
   have hnx:l.take (k+1)=l.take k++[e14]:=by rw[List.take_succ_eq_append_getElem (by omega)];congr 1;rw[List.getElem?_eq_getElem (by omega)]at hee;simpa using hee
   refine At.cond rfl (λhb=>?_) (λhb=>?_)
   ·refine zb (tT 0 [0,0]) ?_;refine ze ?_;refine zh ?_;refine zL rfl (.tmp rfl) ⟨k,rfl,?_⟩;have:l.any p=true:=List.any_eq_true.2 ⟨e14,List.mem_of_getElem? hee,hb⟩;rw[this];simp
   ·refine zb (tT 0 [0,0]) ?_;refine zM ?_;refine ze ?_;refine AtT.dn ?_;refine At.round (k+1) ?_ ?_ ?_ ?_
    ·show l.length-(k+1)<l.length-k;omega
    ·refine⟨rfl,by omega,?_⟩;rw[hnx,List.any_append,hany];simp[hb]
    ·exact⟨rfl,rfl,rfl,rfl,rfl,trivial⟩
    ·exact Pt.zg
  ·have hkk:k=l.length:=by omega
   subst hkk;rw[List.take_length]at hany;refine zb (tT 0 [0]) ?_;refine zh ?_;refine zL rfl (.tmp rfl) ⟨-1,rfl,?_⟩;rw[hany];rfl
theorem contains_v (g:FuncId) (cap:List Value) (p:Value->Bool) (V:View) (vl:Value) (l:List (Value)) (hs:Sl V vle 1 vl l) (hok:zi Tryz.prog g)
  (hc:∀ x,x∈l->Fnc Tryz.prog g ([]++[x]++cap) V (λv _=>v=.bool (p x))) :
  Fnc Tryz.prog 60 [vl,.func (.func g) #[] cap.toArray] V λv _=>v=.bool (l.any p):=by
 refine zG Tryz.func60 rfl Tryz.ntmps60 (Nat.le_of_ble_eq_true rfl) ?_;intro w0 hw0;refine zb (tT 0 [0]) ?_;refine ax (tT 0 [0,0,1,0,0]) ?_;refine ze ?_;refine ze ?_;refine zm rfl rfl ok122 (index_v g cap p V vl l hs hok hc) ?_;rintro _ ⟨j,rfl,hj⟩;refine kgeq ?_;refine zh ?_;refine zL rfl (.tmp rfl) ?_;rw[hj]
theorem open1_f (s:Sh) (hok:1<=s.rows.length) (r:ByteArray) (V:View) (q:Addr) (a:Option Addr) (c:Nat) (m:Int) (hq:Cells V q [.slice a s.rows.length c,iv m]) (hs:Sl V bse 1 (.slice a s.rows.length c) s.rows):Fnc Tryz.prog 51 ([]++[.string r]++[.pointer (some q)]) V λv _=>v=.bool (decide (r.size≠wdS s)):=by
 obtain⟨r0,hr0⟩:∃ r,s.rows[0]? = some r:=⟨_,List.getElem?_eq_getElem (by omega)⟩;have hw:wdS s=r0.size:=by unfold wdS row0;simp[List.getD,hr0]
 refine zG Tryz.func51 rfl Tryz.ntmps51 (Nat.le_of_ble_eq_true rfl) ?_;intro w0 hw0;refine zb (tT 0 [0]) ?_;refine ax (tT 0 [0,0,0,0,0,0,0,0,0]) ?_;refine ze ?_;refine qX rfl trivial Tryz.underlying9 rfl (by decide) ?_;refine zw qg ?_;refine kV jO ?_;refine kZ Tryz.underlying22 tk9 ?_;intro p8 e8 he8 hc8;obtain rfl:=qx hr0 he8;refine kV tk9 ?_;refine qX rfl trivial Tryz.underlying9 rfl (by decide) ?_;refine kJ ?_;refine zh ?_;refine zL rfl (.tmp rfl) ?_;rw[hw];simp;omega
def OpR (s:Sh) (r:Value) (V':View):Prop:=(chE s=0/\∃ b,r=.tuple #[.pointer (some ⟨b,0,none⟩),iv 0]/\BnV V' b s)\/(chE s≠0/\r=.tuple #[.pointer none,iv (chE s)])
theorem open_f (s:Sh) (V:View) (v:Value) (hv:ShV V v s):Fnc Tryz.prog 13 [v] V (OpR s):=by
 obtain⟨a,c,rfl,hs⟩:=id hv;have hlen:=hs.jC;refine zG Tryz.func13 rfl Tryz.ntmps13 (Nat.le_of_ble_eq_true rfl) ?_;intro w0 hw0;refine zb (tT 0 [1,0,0]) ?_;refine qQ ?_;intro b1;refine zu ?_;refine zh ?_;by_cases m1:1<=(s.rows.length:Int)/\(s.rows.length:Int)<=6;rotate_left
 ·refine zP (tT 0 [0,0,0,1,1,0,0,0,0,0,0,0,1,1,0,0,0,0,0,1,1,0,0,0]) ?_;refine zw qg ?_;refine kV jO ?_;refine zZ Tryz.underlying22 ?_;refine zy (zR _) ?_;intro q9 V9 hV9 hq9;have g9:Le V V9:=by first | exact hV9 | exact Le.trans (by assumption) hV9
  refine zm rfl rfl ok14 (qd 1 6 [(s.rows.length:Int)] _ _ (Sl.lit hq9 rfl (by simp))) ?_;rintro _ rfl;rw[wi_1,decide_eq_false m1];refine xn ?_;refine ze ?_;all_goals (first | refine kY 12 ?_ | refine kX (d:=12) rfl (λhg12=>?_) (λhg12=>?_) | refine kW (d:=12) rfl (λhg12=>?_) (λhg12=>?_))
  all_goals refine ja qg ?_
  all_goals refine qi jO ?_
  all_goals first|refine AtT.kp ?_|(refine kZ Tryz.underlying22 tk9 ?_);(intro p15 e15 he15 hc15)
  all_goals refine qi tk9 ?_
  all_goals first|refine AtT.kp ?_|(refine qX rfl ⟨_,_,rfl,rfl,rfl⟩ Tryz.underlying9 rfl (by decide) ?_)
  all_goals first|refine kpN ?_|((refine zy (zR _) ?_);(intro q18 V18 hV18 hq18);(have g18:Le V V18:=by first | exact hV18 | exact Le.trans (by assumption) hV18))
  all_goals first|refine kpN ?_|((fail))
  all_goals refine p_nt ?_
  all_goals refine zF ?_
  all_goals refine ze ?_
  all_goals (first | refine kY 22 ?_ | refine kX (d:=22) rfl (λhg22=>?_) (λhg22=>?_) | refine kW (d:=22) rfl (λhg22=>?_) (λhg22=>?_))
  all_goals refine ja fo24_1 ?_
  all_goals refine qi tk3 ?_
  all_goals first|refine kpN ?_|((refine zy (zR _) ?_);(intro q25 V25 hV25 hq25);(have g25:Le V V25:=by first | exact hV25 | exact Le.trans (by assumption) hV25))
  all_goals first|refine kpN ?_|((fail))
  all_goals refine p_nt ?_
  all_goals refine zF ?_
  all_goals refine zu ?_
  all_goals refine AtT.done ?_
  all_goals refine nrm ?_
  refine ql rfl rfl ?_;refine zb (tT 0 [0,0]) ?_;refine zu ?_;refine zh ?_;exact ret2 rfl (.tmp rfl) (.tmp rfl) (.inr ⟨by unfold chE;rw[if_pos (by omega)];decide,by unfold chE;rw[if_pos (by omega)]⟩)
 obtain⟨r0,hr0⟩:∃ r,s.rows[0]? = some r:=⟨_,List.getElem?_eq_getElem (by omega)⟩;have hr0s:r0.size=wdS s:=by unfold wdS row0;simp[List.getD,hr0]
 by_cases m2:1<=(wdS s:Int)/\(wdS s:Int)<=6;rotate_left
 ·refine zP (tT 0 [0,0,0,1,1,0,0,0,0,0,0,0,1,1,0,0,0,0,0,1,1,0,0,0]) ?_;refine zw qg ?_;refine kV jO ?_;refine zZ Tryz.underlying22 ?_;refine zy (zR _) ?_;intro q9 V9 hV9 hq9;have g9:Le V V9:=by first | exact hV9 | exact Le.trans (by assumption) hV9
  refine zm rfl rfl ok14 (qd 1 6 [(s.rows.length:Int)] _ _ (Sl.lit hq9 rfl (by simp))) ?_;rintro _ rfl;rw[wi_1,decide_eq_true m1];refine xn ?_;refine ze ?_;all_goals (first | refine kY 12 ?_ | refine kX (d:=12) rfl (λhg12=>?_) (λhg12=>?_) | refine kW (d:=12) rfl (λhg12=>?_) (λhg12=>?_))
  all_goals refine ja qg ?_
  all_goals refine qi jO ?_
  all_goals first|refine AtT.kp ?_|(refine kZ Tryz.underlying22 tk9 ?_);(intro p15 e15 he15 hc15)
  all_goals refine qi tk9 ?_
  all_goals (obtain rfl:=qx hr0 he15)
  all_goals first|refine AtT.kp ?_|(refine qX rfl ⟨_,_,rfl,rfl,rfl⟩ Tryz.underlying9 rfl (by decide) ?_)
  all_goals (rw[hr0s])
  all_goals first|refine kpN ?_|((refine zy (zR _) ?_);(intro q18 V18 hV18 hq18);(have g18:Le V V18:=by first | exact hV18 | exact Le.trans (by assumption) hV18))
  all_goals first|refine kpN ?_|((refine zm rfl rfl ok14 (qd 1 6 [(wdS s:Int)] _ _ (Sl.lit hq18 rfl (by simp))) ?_);(rintro _ rfl;rw[wi_1,decide_eq_false m2]))
  all_goals refine p_nt ?_
  all_goals refine zF ?_
  all_goals refine ze ?_
  all_goals (first | refine kY 22 ?_ | refine kX (d:=22) rfl (λhg22=>?_) (λhg22=>?_) | refine kW (d:=22) rfl (λhg22=>?_) (λhg22=>?_))
  all_goals refine ja fo24_1 ?_
  all_goals refine qi tk3 ?_
  all_goals first|refine kpN ?_|((refine zy (zR _) ?_);(intro q25 V25 hV25 hq25);(have g25:Le V V25:=by first | exact hV25 | exact Le.trans (by assumption) hV25))
  all_goals first|refine kpN ?_|((fail))
  all_goals refine p_nt ?_
  all_goals refine zF ?_
  all_goals refine zu ?_
  all_goals refine AtT.done ?_
  all_goals refine nrm ?_
  refine ql rfl rfl ?_;refine zb (tT 0 [0,0]) ?_;refine zu ?_;refine zh ?_;exact ret2 rfl (.tmp rfl) (.tmp rfl) (.inr ⟨by unfold chE;rw[if_pos (by omega)];decide,by unfold chE;rw[if_pos (by omega)]⟩)
 by_cases m3:1<=s.most/\s.most<=36;rotate_left
 ·refine zP (tT 0 [0,0,0,1,1,0,0,0,0,0,0,0,1,1,0,0,0,0,0,1,1,0,0,0]) ?_;refine zw qg ?_;refine kV jO ?_;refine zZ Tryz.underlying22 ?_;refine zy (zR _) ?_;intro q9 V9 hV9 hq9;have g9:Le V V9:=by first | exact hV9 | exact Le.trans (by assumption) hV9
  refine zm rfl rfl ok14 (qd 1 6 [(s.rows.length:Int)] _ _ (Sl.lit hq9 rfl (by simp))) ?_;rintro _ rfl;rw[wi_1,decide_eq_true m1];refine xn ?_;refine ze ?_;all_goals (first | refine kY 12 ?_ | refine kX (d:=12) rfl (λhg12=>?_) (λhg12=>?_) | refine kW (d:=12) rfl (λhg12=>?_) (λhg12=>?_))
  all_goals refine ja qg ?_
  all_goals refine qi jO ?_
  all_goals first|refine AtT.kp ?_|(refine kZ Tryz.underlying22 tk9 ?_);(intro p15 e15 he15 hc15)
  all_goals refine qi tk9 ?_
  all_goals (obtain rfl:=qx hr0 he15)
  all_goals first|refine AtT.kp ?_|(refine qX rfl ⟨_,_,rfl,rfl,rfl⟩ Tryz.underlying9 rfl (by decide) ?_)
  all_goals (rw[hr0s])
  all_goals first|refine kpN ?_|((refine zy (zR _) ?_);(intro q18 V18 hV18 hq18);(have g18:Le V V18:=by first | exact hV18 | exact Le.trans (by assumption) hV18))
  all_goals first|refine kpN ?_|((refine zm rfl rfl ok14 (qd 1 6 [(wdS s:Int)] _ _ (Sl.lit hq18 rfl (by simp))) ?_);(rintro _ rfl;rw[wi_1,decide_eq_true m2]))
  all_goals refine p_nt ?_
  all_goals refine zF ?_
  all_goals refine ze ?_
  all_goals (first | refine kY 22 ?_ | refine kX (d:=22) rfl (λhg22=>?_) (λhg22=>?_) | refine kW (d:=22) rfl (λhg22=>?_) (λhg22=>?_))
  all_goals refine ja fo24_1 ?_
  all_goals refine qi tk3 ?_
  all_goals first|refine kpN ?_|((refine zy (zR _) ?_);(intro q25 V25 hV25 hq25);(have g25:Le V V25:=by first | exact hV25 | exact Le.trans (by assumption) hV25))
  all_goals first|refine kpN ?_|((refine zm rfl rfl ok14 (qd 1 36 [s.most] _ _ (Sl.lit hq25 rfl (by simp))) ?_);(rintro _ rfl;rw[wi_1,decide_eq_false m3]))
  all_goals refine p_nt ?_
  all_goals refine zF ?_
  all_goals refine zu ?_
  all_goals refine AtT.done ?_
  all_goals refine nrm ?_
  refine ql rfl rfl ?_;refine zb (tT 0 [0,0]) ?_;refine zu ?_;refine zh ?_;exact ret2 rfl (.tmp rfl) (.tmp rfl) (.inr ⟨by unfold chE;rw[if_pos (by omega)];decide,by unfold chE;rw[if_pos (by omega)]⟩)
 refine zP (tT 0 [0,0,0,1,1,0,0,0,0,0,0,0,1,1,0,0,0,0,0,1,1,0,0,0]) ?_;refine zw qg ?_;refine kV jO ?_;refine zZ Tryz.underlying22 ?_;refine zy (zR _) ?_;intro q9 V9 hV9 hq9;have g9:Le V V9:=by first | exact hV9 | exact Le.trans (by assumption) hV9
 refine zm rfl rfl ok14 (qd 1 6 [(s.rows.length:Int)] _ _ (Sl.lit hq9 rfl (by simp))) ?_;rintro _ rfl;rw[wi_1,decide_eq_true m1];refine xn ?_;refine ze ?_;all_goals (first | refine kY 12 ?_ | refine kX (d:=12) rfl (λhg12=>?_) (λhg12=>?_) | refine kW (d:=12) rfl (λhg12=>?_) (λhg12=>?_))
 all_goals refine ja qg ?_
 all_goals refine qi jO ?_
 all_goals first|refine AtT.kp ?_|(refine kZ Tryz.underlying22 tk9 ?_);(intro p15 e15 he15 hc15)
 all_goals refine qi tk9 ?_
 all_goals (obtain rfl:=qx hr0 he15)
 all_goals first|refine AtT.kp ?_|(refine qX rfl ⟨_,_,rfl,rfl,rfl⟩ Tryz.underlying9 rfl (by decide) ?_)
 all_goals (rw[hr0s])
 all_goals first|refine kpN ?_|((refine zy (zR _) ?_);(intro q18 V18 hV18 hq18);(have g18:Le V V18:=by first | exact hV18 | exact Le.trans (by assumption) hV18))
 all_goals first|refine kpN ?_|((refine zm rfl rfl ok14 (qd 1 6 [(wdS s:Int)] _ _ (Sl.lit hq18 rfl (by simp))) ?_);(rintro _ rfl;rw[wi_1,decide_eq_true m2]))
 all_goals refine p_nt ?_
 all_goals refine zF ?_
 all_goals refine ze ?_
 all_goals (first | refine kY 22 ?_ | refine kX (d:=22) rfl (λhg22=>?_) (λhg22=>?_) | refine kW (d:=22) rfl (λhg22=>?_) (λhg22=>?_))
 all_goals refine ja fo24_1 ?_
 all_goals refine qi tk3 ?_
 all_goals first|refine kpN ?_|((refine zy (zR _) ?_);(intro q25 V25 hV25 hq25);(have g25:Le V V25:=by first | exact hV25 | exact Le.trans (by assumption) hV25))
 all_goals first|refine kpN ?_|((refine zm rfl rfl ok14 (qd 1 36 [s.most] _ _ (Sl.lit hq25 rfl (by simp))) ?_);(rintro _ rfl;rw[wi_1,decide_eq_true m3]))
 all_goals refine p_nt ?_
 all_goals refine zF ?_
 all_goals refine zu ?_
 all_goals refine AtT.done ?_
 all_goals refine nrm ?_
 refine zS rfl rfl ?_;have c1:¬ ¬ (1<=s.rows.length/\s.rows.length<=6/\1<=wdS s/\wdS s<=6/\1<=s.most/\s.most<=36):=λh=>h (by omega);have hn0:s.rows≠[]:=λh=>by rw[h]at m1;simp at m1
 refine zb (tT 0 [0,0,0,1,0]) ?_;refine zw qg ?_;refine kV jO ?_;refine kfn ?_;refine kcallL rfl rfl ok50 (λVL hVL hOL=>contains_b 51 [.pointer (some ⟨b1,0,none⟩)] (λr=>decide (r.size≠wdS s)) VL _ s.rows ((hs.le (by first | assumption | exact Le.trans (by assumption) (by assumption))).le hVL) ok51 (λx _=>open1_f s (by omega) x VL _ a c s.most (zQ (hOL b1 _ (List.mem_cons_self ..))) ((hs.le (by first | assumption | exact Le.trans (by assumption) (by assumption))).le hVL))) ?_;rintro _ rfl;refine zh ?_;refine At.cond rfl (λhb=>?_) (λhb=>?_)
 ·refine zb (tT 0 [0,0]) ?_;refine zu ?_;refine zh ?_;exact ret2 rfl (.tmp rfl) (.tmp rfl) (.inr ⟨by unfold chE;rw[if_neg c1,if_pos hb];decide,by unfold chE;rw[if_neg c1,if_pos hb]⟩)
 have hsz:∀ r∈s.rows,r.size=wdS s:=λr hr=>by apply Classical.byContradiction;intro hc;rw[List.any_eq_true.2 ⟨r,hr,decide_eq_true hc⟩]at hb;cases hb
 have c2:¬ (s.rows.any λr=>decide (r.size≠wdS s))=true:=λh=>by rw[hb]at h;cases h
 have h12:∀ r∈s.rows,r.size<=12:=λr hr=>by have:=hsz r hr;omega
 have hwl:=wh_len s h12 (by omega)
 have hwt:=wh_trim s
 have hwc:=wh_count s
 have hbt:bt ⟨(wh s).toArray⟩=wh s:=by unfold bt;simp
 refine zb (tT 0 [0,0,1,0]) ?_;refine zw qg ?_;refine kV jO ?_;refine zm rfl rfl ok52 (join_f s.rows hn0 (by omega) h12 _ _ (hs.le (by first | assumption | exact Le.trans (by assumption) (by assumption)))) ?_;rintro _ rfl;refine zh ?_;refine zb (tT 0 [0,1,0,0]) ?_;refine ze ?_;refine zm rfl rfl ok53 (trim_f ⟨(wh s).toArray⟩ (by show(wh s).toArray.size<=_;rw[List.size_toArray];omega) _) ?_;rintro _ rfl;rw[hbt];refine neStr rfl trivial rfl rfl (by decide) ?_;refine zh ?_;refine zI rfl (λhq=>?_) (λhq=>?_)
 ·have hfr:s.rows.all frR=false:=by
   cases h:s.rows.all frR with
   | false=>rfl
   | true=>exact absurd (by rw[hwt.2 h]) hq
  refine zb (tT 0 [0,0]) ?_;refine zu ?_;refine zh ?_;exact ret2 rfl (.tmp rfl) (.tmp rfl) (.inr ⟨by unfold chE;rw[if_neg c1,if_neg c2,if_pos hfr];decide,by unfold chE;rw[if_neg c1,if_neg c2,if_pos hfr]⟩)
 have hfr:¬ s.rows.all frR=false:=λh=>by
  have hq':=Classical.not_not.1 hq
  have h1:Lib.trimS (wh s) [46,111,35]=[]:=by
   have h2:=congrArg bt hq'
   unfold bt at h2;simpa using h2
  rw[hwt.1 h1]at h;cases h
 refine zb (tT 0 [0,1,0,0]) ?_;refine ze ?_;refine zm rfl rfl ok54 (count_f ⟨(wh s).toArray⟩ _) ?_;rintro _ rfl;rw[hbt,hwc];refine kgtr ?_;refine zh ?_;refine zI rfl (λhq2=>?_) (λhq2=>?_)
 ·refine zb (tT 0 [0,0]) ?_;refine zu ?_;refine zh ?_;exact ret2 rfl (.tmp rfl) (.tmp rfl) (.inr ⟨by unfold chE;rw[if_neg c1,if_neg c2,if_neg hfr,if_pos (by omega)];decide,by unfold chE;rw[if_neg c1,if_neg c2,if_neg hfr,if_pos (by omega)]⟩)
 have h0:chE s=0:=by unfold chE;rw[if_neg c1,if_neg c2,if_neg hfr,if_neg (by omega)]
 refine zb (tT 0 [0,1,0,0]) ?_;refine qo tk24 ?_;refine kK rfl rfl ok55 (newBench_f s (chE_ok h0) _ _ ⟨a,c,rfl,hs.le (by first | assumption | exact Le.trans (by assumption) (by assumption))⟩) ?_;rintro _ V46 hV46 ⟨b,rfl,hb46⟩;refine zu ?_;refine zh ?_;exact ret2 rfl (.tmp rfl) (.tmp rfl) (.inl ⟨h0,b,rfl,hb46⟩)
end Go.Proofs.YtnffcfhdnjbdbaaGreatDoor.P
namespace Go.Pm
open Go.Gl Go.Lw
theorem two_ne {K:List Cl} {i k:Nat} (hi:i<K.length):sel K (2 ^ i ||| 2 ^ k)≠[]:=λe=>by
 have hx:K[i]? = some K[i]:=List.getElem?_eq_getElem hi
 have:K[i]∈sel K (2 ^ i ||| 2 ^ k):=sel_mem.2 ⟨i,hx,by rw[Nat.testBit_or,Nat.testBit_two_pow_self];rfl⟩
 rw[e]at this;cases this
theorem two_lt {i k:Nat} (hi:i<10) (hk:k<10):2 ^ i<1024/\2 ^ k<1024/\2 ^ i ||| 2 ^ k<1024:=by
 have h1:2 ^ i<2 ^ 10:=Nat.pow_lt_pow_right (by omega) hi
 have h2:2 ^ k<2 ^ 10:=Nat.pow_lt_pow_right (by omega) hk
 exact⟨h1,h2,Nat.or_lt_two_pow h1 h2⟩
end Go.Pm
namespace Go.Proofs.YtnffcfhdnjbdbaaGreatDoor.P
open Go.Lw Go.Gl Go.Pm Go.RowKit
theorem share_f (s:Sh) (hok:ShOk s) (i k:Nat) (hi:i<(knL s).length) (hk:k<(knL s).length) (V:View) (b:Nat) (hb:BnV V b s):Fnc Tryz.prog 15 [.pointer (some ⟨b,0,none⟩),iv i,iv k] V λr _=>r=.bool (shN (gdS s) (knL s) i k):=by
 have h10:=hok.kn
 obtain⟨l1,l2,l3⟩:=two_lt (i:=i) (k:=k) (by omega) (by omega);refine zG Tryz.func15 rfl Tryz.ntmps15 (Nat.le_of_ble_eq_true rfl) ?_;intro w0 hw0;refine zb (tT 0 [0]) ?_;refine zh ?_;refine xm (tT 0 [0,0,0,0,0,0,0,0,1,1,0,0]) ffm (by kernel_rfl) ?_;refine ze ?_;refine ze ?_;refine ze ?_;refine shlN rfl trivial rfl rfl rfl (by omega) (by decide) (N:=i) ?_;refine ze ?_;refine shlN rfl trivial rfl rfl rfl (by omega) (by decide) (N:=k) ?_;refine orN rfl trivial rfl rfl rfl rfl (by omega) (by omega) (by decide) (A:=2 ^ i) (B:=2 ^ k) ?_;refine qD (bd106_0 _) ?_;refine zm rfl rfl ok58 (least_f s hok h10 (2 ^ i ||| 2 ^ k) (by omega) (two_ne hi) _ b hb) ?_;rintro _ rfl;refine zm rfl rfl ok57 (lies_f s hok _ _ b hb) ?_;rintro _ rfl;refine keqI ?_;refine zh ?_;all_goals (exact zL rfl (.tmp rfl) rfl)
theorem open_ok (s:Sh) (h:chE s=0) (V:View) (v:Value) (hv:ShV V v s):Fnc Tryz.prog 13 [v] V λr V'=>∃ b,r=.tuple #[.pointer (some ⟨b,0,none⟩),iv 0]/\BnV V' b s:=
 (open_f s V v hv).mono λr V' _ h1=>by
  rcases h1 with ⟨_,h1⟩ | ⟨h1,_⟩
  ·exact h1
  ·exact absurd h h1
theorem open_bad (s:Sh) (h:chE s≠0) (V:View) (v:Value) (hv:ShV V v s):Fnc Tryz.prog 13 [v] V λr V'=>r=.tuple #[.pointer none,iv (chE s)]:=
 (open_f s V v hv).mono λr V' _ h1=>by
  rcases h1 with ⟨h1,_⟩ | ⟨_,h1⟩
  ·exact absurd h1 h
  ·exact h1
end Go.Proofs.YtnffcfhdnjbdbaaGreatDoor.P
namespace Go.Proofs.YtnffcfhdnjbdbaaGreatDoor.P
open Go.Lw Go.Gl Go.Pm Go.RowKit Go.Sort Go.Shelf
abbrev srtI (l:List Int):List Int:=l.mergeSort λx y=>decide (x<=y)
theorem sortI_f (l:List Int) (rest:List Value) (b cap:Nat) (w:World) (hb:w.heap[b]? = some (LC (flat ei l++rest) 3)) (hl:l.length<4611686018427387904) :
  Calls Tryz.prog 63 #[.slice (some ⟨b,0,none⟩) l.length cap] w λe w'=>e=.returned (.tuple #[])/\w'.os=w.os/\w'.tape=w.tape/\w'.output=w.output/\w.heap.size<=w'.heap.size/\(∀ k,k<w.heap.size->k≠b->w'.heap[k]? = w.heap[k]?)/\w'.heap[b]? = some (LC (flat ei (srtI l)++rest) 3):=by
 have hbs:b<w.heap.size:=(Array.getElem?_eq_some_iff.1 hb).1
 have hlen:(flat ei l).length=l.length*1:=zU Lw.jP l
 have hH:Holds (Value.int .i64) w b 0 l.toArray:=by
  intro j hj;rw[List.size_toArray]at hj;refine⟨?_,?_⟩
  ·rw[Nat.zero_add,qP hb,List.getElem?_append_left (by rw[hlen];omega),qU,List.getElem?_map,List.getElem?_eq_getElem hj,getElem!_pos _ _ (by simpa using hj)];simp
  ·simp[World.frozen?,hb,LC]
 refine(Any.slices_Sort_int lay_sort b 0 cap l w hH hbs hl).mono λe w' ⟨he,n,os,hw⟩=>?_;have hsz:(srtI l).length=l.length:=List.length_mergeSort l;have hf1:(flat ei (srtI l)).length=(srtI l).length*1:=zU Lw.jP _;subst hw;refine⟨he,rfl,rfl,rfl,?_,λk hk hkb=>?_,?_⟩
 ·show w.heap.size<=((w.heap.modify b _)++os).size
  simp
 ·show((w.heap.modify b _)++os)[k]? = _
  rw[Array.getElem?_append_left (by simpa using hk),Array.getElem?_modify,if_neg (λh=>hkb h.symm)]
 ·show((w.heap.modify b _)++os)[b]? = _
  rw[Array.getElem?_append_left (by simpa using hbs),Array.getElem?_modify,if_pos rfl,hb];simp only[Option.map_some,onCells,LC];congr 2;apply Array.ext
  ·simp[putCells];omega
  ·intro t h1 h2;simp only[putCells,Array.size_mapIdx,List.size_toArray]at h1;simp only[putCells,Array.getElem_mapIdx,Nat.zero_le,true_and,Nat.zero_add,List.size_toArray,Nat.sub_zero,id];by_cases c:t<(srtI l).length
   ·rw[if_pos c,getElem!_pos _ _ (by simpa using c)];simp only[List.getElem_toArray];rw[List.getElem_append_left (by omega)];simp[qU]
   ·rw[if_neg c];simp only[List.getElem_toArray];rw[List.getElem_append_right (by omega),List.getElem_append_right (by omega)];congr 1;omega
theorem srtI_perm (l:List Int):(srtI l).Perm l:=List.mergeSort_perm _ _
theorem srtI_sorted {l:List Int} (h:l.Nodup):(srtI l).Pairwise (· < ·):=by
 have h1:(srtI l).Pairwise (λx y=>decide (x<=y)=true):=List.pairwise_mergeSort (λa b c h1 h2=>by simp only[decide_eq_true_eq]at *;omega) (λa b=>by simp only[Bool.or_eq_true,decide_eq_true_eq];omega) l
 have h2:(srtI l).Nodup:=(srtI_perm l).nodup_iff.2 h
 refine(h1.and h2).imp λ {a b} hab=>?_;have:=of_decide_eq_true hab.1;have:=hab.2;omega
theorem sortI {cx:Cx} {n:Nat} {ks:List (Nat×Value)} {O R:List Own} {V:View} {ops:Array Oper} {Qn:Act->World->Prop} {t:Tr} {i d:Nat} {T:TypeId} {pos:String} {after:Array Edge} {gd:Option (Nat×Bool)} {x:Operand} {ts:Array TypeId} {b cap:Nat} {l:List Int} {rest:List Value}
  (ho:ops[i]? = some ⟨some d,.call ⟨.value (.func 63),#[x],ts⟩,T,pos,after,gd⟩) (hg:Gd ks ops gd) (hx:ev ks x=some (.slice (some ⟨b,0,none⟩) l.length cap)) (hl:l.length<4611686018427387904) (hp:zo (.blk b (LC (flat ei l++rest) 3)) O R) (hn:d<n)
  (next:AtT cx n ((d,.tuple #[])::ks) (.blk b (LC (flat ei (srtI l)++rest) 3)::R) V Tryz.prog ops Qn t):AtT cx n ks O V Tryz.prog ops Qn (.n true i t):=
 .x ho hg λa w hk hm=>by
  have hm1:=hm.pick hp
  have e:(#[x]:Array Operand).map a.eval=#[.slice (some ⟨b,0,none⟩) l.length cap]:=by simp[hk.ev hx]
  have e2:a.eval (.func 63)=.func (.func 63) #[] #[]:=rfl
  simp only[opW,execOp,resolve,e,e2,Deferred.ofValue,Sem.run_bind,Sem.run_pure,Result.andThen_ok,invoke,Array.empty_append,Array.append_empty];rw[ok63 _ w];refine(sortI_f l rest b cap w hm1.blk hl).mono λe w' ⟨h0,h3,h4,h5,h6,h7,h8⟩=>?_;subst h0;have hm2:=hm1.set (w':=w') ⟨h3,h4,h5,h6,λk hk hne=>h7 k hk (λe=>hne (by rw[e]))⟩ h8;exact⟨_,_,V,hk.put hn _,hm2,λh=>(by cases h),next⟩
theorem containsI_f (l:List Int) (x:Int) (V:View) (v:Value) (hs:SlI V v l):Fnc Tryz.prog 62 [v,iv x] V λr _=>r=.bool (l.any (· == x)):=by
 have hlen:=hs.jC
 obtain⟨a,c,rfl,k1,k2,_⟩:=id hs;clear k1 k2;have hix:decide (0<=ixI (l.findIdx? (· == x)))=l.any (· == x):=by
  cases h:l.findIdx? (· == x)with
  | none=>
   rw[List.findIdx?_eq_none_iff]at h;have:l.any (· == x)=false:=List.any_eq_false.2 λy hy=>by rw[h y hy];simp
   rw[this];rfl
  | some j=>obtain⟨hj,hp,_⟩:=List.findIdx?_eq_some_iff_getElem.1 h;have:l.any (· == x)=true:=List.any_eq_true.2 ⟨_,List.getElem_mem hj,hp⟩;rw[this];exact decide_eq_true (Int.natCast_nonneg _)
 refine zG Tryz.func62 rfl Tryz.ntmps62 (Nat.le_of_ble_eq_true rfl) ?_;intro w0 hw0;refine zb (tT 0 [0]) ?_;refine ax (tT 0 [0,0,1,0,0]) ?_;refine ze ?_;refine ze ?_;refine zm rfl rfl ok123 (indexI_f l x _ _ hs) ?_;rintro _ rfl;refine kgeq ?_;refine zh ?_;exact zL rfl (.tmp rfl) (by rw[<-hix])
end Go.Proofs.YtnffcfhdnjbdbaaGreatDoor.P
namespace Go.Mt
open Go.Lw Go.Ps
abbrev snd (zs:List Pz):List (List Int):=zs.map λz=>z.2
theorem snd_len (zs:List Pz):(snd zs).length=zs.length:=List.length_map _
theorem flen_take (h:Pz->Bool):∀ (zs:List Pz) (k:Nat),(((zs.take k).filter h).flatMap λz=>z.2).length<=(zs.flatMap λz=>z.2).length
 | [],k=>by simp
 | z::zs,0=>by simp
 | z::zs,k+1=>by
  have:=flen_take h zs k
  rw[List.take_succ_cons,List.filter_cons,List.flatMap_cons,List.length_append];split
  ·rw[List.flatMap_cons,List.length_append];omega
  ·omega
theorem flen_part (h:Pz->Bool):∀ zs:List Pz,((zs.filter h).flatMap λz=>z.2).length+((zs.filter λz=>!h z).flatMap λz=>z.2).length=(zs.flatMap λz=>z.2).length
 | []=>rfl
 | z::zs=>by
  have:=flen_part h zs
  rw[List.filter_cons,List.filter_cons,List.flatMap_cons,List.length_append];cases c:h z with
  | true=>simp only[Bool.not_true,if_true,Bool.false_eq_true,if_false,List.flatMap_cons,List.length_append];omega
  | false=>simp only[Bool.not_false,if_true,Bool.false_eq_true,if_false,List.flatMap_cons,List.length_append];omega
theorem flen_ne:∀ zs:List Pz,(∀ z∈zs,z.2≠[])->zs.length<=(zs.flatMap λz=>z.2).length
 | [],_=>by simp
 | z::zs,h=>by
  have:=flen_ne zs λy hy=>h y (List.mem_cons_of_mem _ hy)
  have h0:=List.length_pos_iff.2 (h z (by simp))
  rw[List.flatMap_cons,List.length_append,List.length_cons];omega
theorem snd_filter (q:List Int->Bool):∀ zs:List Pz,snd (zs.filter λz=>q z.2)=(snd zs).filter q
 | []=>rfl
 | z::zs=>by
  have:=snd_filter q zs
  simp only[snd,List.filter_cons,List.map_cons]at this⊢;split<;>simp[this]
theorem snd_flat (zs:List Pz):(zs.flatMap λz=>z.2)=(snd zs).flatten:=by unfold snd;rw[<-List.flatMap_def]
end Go.Mt
namespace Go.Proofs.YtnffcfhdnjbdbaaGreatDoor.M
open Go.Lw Go.Ps Go.Mt Go.RowKit
open Go.Gl (iv ivs zV)
open P (srtI srtI_perm)
section
variable {V:View} {b:Nat} {a:Option Addr} {c:Nat} {E:List Ms}
set_option maxHeartbeats 6400000 in
theorem parts_f (h:TbM V b a c E) (hn:E.length<=10) (v1:Value) (hs:SlI V v1 (rgI E.length)):Fnc Tryz.prog 20 [.pointer (some ⟨b,0,none⟩),v1] V λr V'=>∃ (a':Option Addr) (m c':Nat) (ll:List (List Int)),r=.slice a' m c'/\m=ll.length/\PtI E E.length ll:=by
 obtain⟨a1,c1,rfl,k1,k2,_⟩:=id hs;clear k1 k2;have hrl:=rgI_len E.length;refine zG Tryz.func20 rfl Tryz.ntmps20 (Nat.le_of_ble_eq_true rfl) ?_;intro w0 hw0;refine zb (tT 0 [1,0]) ?_;refine qQ ?_;intro b2;refine ax (tT 0 [0]) ?_;refine ax (tT 0 [0,0,0]) ?_;refine ze ?_;refine zZ Tryz.underlying34 ?_;refine ze ?_;refine AtT.dn ?_;refine jN (b:=b2) zo.zg (λV2 hV2 hb2=>?_);have q2:=zQ hb2;have h2:=h.le hV2;have hs2:=hs.le hV2;refine xu 34 1 ?_;refine xc (ι:=Nat×List Pz×Option Addr×Nat) (KS:=λg=>[(2,.pointer (some ⟨b2,0,none⟩)),(5,.slice g.2.2.1 g.2.1.length g.2.2.2),(12,.slice a1 (rgI E.length).length c1),(13,iv (rgI E.length).length),(14,iv g.1)])
  (OS:=λg=>[.row (.slice g.2.2.1 g.2.1.length g.2.2.2) 34 1 g.2.1.length (flat slz g.2.1)])
  (VS:=λg V'=>Le V2 V'/\g.1<=E.length/\(∀ z∈g.2.1,SlI V' (tvz z) z.2)/\PtI E g.1 (snd g.2.1)/\(g.2.1.flatMap λz=>z.2).length=g.1/\(g.1=0->g.2.2.1=none)) (μ:=λg=>E.length-g.1) (0,[],none,0) ?_ ?_ ?_ ?_
 ·exact⟨rfl,rfl,rfl,rfl,rfl,trivial⟩
 ·exact Pt.zg
 ·exact⟨Le.refl _,Nat.zero_le _,λz hz=>(by cases hz),PtI.nil E,rfl,λ_=>rfl⟩
 rintro⟨i,zs,a3,c3⟩ V3 ks' O' ⟨hV3,hin,hzv,hP,hfl,hnil⟩ hk hO hl3;dsimp only at hin hzv hP hfl hnil hk hO;subst hk hO;have hzne:∀ z∈zs,z.2≠[]:=λz hz=>hP.ne _ (List.mem_map_of_mem hz);have hzl:=flen_ne zs hzne;have hzb:∀ z∈zs,∀ x∈z.2,0<=x/\x<(i:Int):=λz hz=>hP.bd _ (List.mem_map_of_mem hz);refine zb (tT 0 [0]) ?_;refine qc ?_;refine AtT.dn ?_;refine zI rfl (λhp=>?_) (λhp=>?_);rotate_left
 ·obtain rfl:i=E.length:=by omega
  refine nrm ?_;refine rowSplit (v:=.slice a3 zs.length c3) zo.here (λh1 h2' _=>?_) (λbb cp rest hv hlc hcm hln=>?_)
  ·injection h1 with e1 _ e3;subst e1 e3;obtain rfl:zs=[]:=List.eq_nil_of_length_eq_zero h2';refine zP (tT 0 [0,2]) ?_;refine ze ?_;refine zm rfl rfl ok69 (sort0_f) ?_;rintro _ rfl;refine AtT.dn ?_;refine zb (tT 0 [0,0]) ?_;refine ze ?_;refine zh ?_;exact zL rfl (.tmp rfl) ⟨none,0,0,[],rfl,rfl,hP⟩
  injection hv with e1 _ e3;subst e1 e3;rw[flat_slz];by_cases hz0:zs.length=0
  ·obtain rfl:zs=[]:=List.eq_nil_of_length_eq_zero hz0;exact absurd (hnil hfl.symm) (by simp)
  have hzok:∀ z∈zs,ZOk V3 z:=λz hz=>⟨hzv z hz,hzne z hz,λx hx=>by have:=hzb z hz x hx;omega⟩
  refine zP (tT 0 [0,2]) ?_;refine ze ?_;refine callM rfl trivial rfl ok69 (by decide) (zo.perm zo.zg) (sortZ_f zs rest bb c3 hzok ⟨by omega,by omega⟩) ?_;rintro _ _ V44 ⟨hV44,rfl,zs',hp',rfl⟩;refine AtT.dn ?_;refine zb (tT 0 [0,0]) ?_;refine ze ?_;refine zh ?_;exact zL rfl (.tmp rfl) ⟨_,zs.length,c3,snd zs,rfl,(snd_len zs).symm,hP⟩
 have hiE:i<E.length:=by omega
 have hs3:=hs2.le hV3
 have hri:=rgI_at hiE
 refine zb (tT 0 [0,0,1,2]) ?_;refine kZ Tryz.underlying34 tk3 ?_;intro p16 e16 he16 hc16;obtain rfl:=qx hri he16;refine kV tk3 ?_;refine zW z3 ?_;intro b7;first | refine qK tk3 ?_ | refine zH tk3 ?_
 refine AtT.dn ?_;refine jN (b:=b7) zo.zg (λV7 hV7 hb7=>?_);have q7:=zQ hb7;have q27:=(q2.le hV3).le hV7;have h7:=(h2.le hV3).le hV7;have hl7:=hl3.trans hV7;refine zb (tT 0 [0,0]) ?_;refine kfn ?_;refine zh ?_;refine zb (tT 0 [0,1,0]) ?_;refine kV tk3 ?_;refine kbslice (zR _) ?_;intro b20;refine zh ?_;refine At.blkRow (b:=b20) (m:=1) (cap:=1) (s:=1) (xs:=flat ei [(i:Int)]) (rest:=[]) zo.zg rfl rfl (Nat.le_refl _) (by unfold maxLen;omega) ?_;refine zb (tT 0 [0,0,0]) ?_;refine ze ?_;refine zZ Tryz.underlying37 ?_;refine ze ?_;refine AtT.done ?_;refine nrmB ?_;refine lend (ao:=a3) (co:=c3) zo.zg (λV8 hV8 hL=>?_);have hsz:=hL.sl slz_len
 let hg:Pz->Bool:=λz=>z.2.any (tchE E i)
 refine cutG (ι:=Option Addr×Nat×List Int) (λg=>[(2,.pointer (some ⟨b2,0,none⟩)),(5,.slice a3 zs.length c3),(8,.func (.func 65) #[] #[.pointer (some ⟨b2,0,none⟩),.pointer (some ⟨b7,0,none⟩)]),(9,.slice g.1 g.2.2.length g.2.1),(12,.slice a1 (rgI E.length).length c1),(13,iv (rgI E.length).length),(14,iv i)])
  (λg=>[.row (.slice g.1 g.2.2.length g.2.1) 3 1 g.2.2.length (flat ei g.2.2)]) (λg V'=>Le V8 V'/\g.2.2=(i:Int)::((zs.filter hg).flatMap λz=>z.2)) ?_ ?_
 ·refine nrm ?_;refine xc (ι:=Nat×List Int×Option Addr×Nat) (KS:=λg=>[(2,.pointer (some ⟨b2,0,none⟩)),(5,.slice a3 zs.length c3),(8,.func (.func 65) #[] #[.pointer (some ⟨b2,0,none⟩),.pointer (some ⟨b7,0,none⟩)]),(9,.slice g.2.2.1 g.2.1.length g.2.2.2),(12,.slice a1 (rgI E.length).length c1),(13,iv (rgI E.length).length),(14,iv i),(21,.slice a3 zs.length c3),(22,iv zs.length),(23,iv g.1)])
   (OS:=λg=>[.row (.slice g.2.2.1 g.2.1.length g.2.2.2) 3 1 g.2.1.length (flat ei g.2.1)])
   (VS:=λg V'=>Le V8 V'/\g.1<=zs.length/\g.2.1=(i:Int)::(((zs.take g.1).filter hg).flatMap λz=>z.2)) (μ:=λg=>zs.length-g.1) (0,[(i:Int)],some ⟨b20,0,none⟩,1) ?_ ?_ ?_ ?_
  ·exact⟨rfl,rfl,rfl,rfl,rfl,rfl,rfl,rfl,rfl,rfl,trivial⟩
  ·exact Pt.zg
  ·exact⟨Le.refl _,Nat.zero_le _,rfl⟩
  rintro⟨k,ow,ao,co⟩ V9 ks' O' ⟨hV9,hkz,how⟩ hk hO hl9;dsimp only at hkz how hk hO;subst hk hO;have h9:=(h7.le hV8).le hV9;have q29:=(q27.le hV8).le hV9;have q79:=(q7.le hV8).le hV9;have hsz9:=hsz.le hV9;refine zb (tT 0 [0]) ?_;refine qc ?_;refine AtT.dn ?_;refine zI rfl (λhp2=>?_) (λhp2=>?_);rotate_left
  ·obtain rfl:k=zs.length:=by omega
   rw[List.take_length]at how;refine nrm ?_;exact qH (ao,co,ow) ⟨hV9,how⟩ ⟨rfl,rfl,rfl,rfl,rfl,rfl,rfl,trivial⟩ Pt.zg
  obtain⟨z,hz⟩:∃ z,zs[k]? = some z:=⟨_,List.getElem?_eq_getElem (by omega)⟩;have hzm:=List.mem_of_getElem? hz;have hzs9:=((((hzv z hzm).le hV7).le hV8).le hV9);have htk:(zs.take (k+1)).filter hg=(zs.take k).filter hg++(if hg z then [z]else []):=by rw[List.take_add_one,hz,List.filter_append];simp only[Option.toList_some,List.filter_cons,List.filter_nil]
  have hft:=flen_take hg zs k
  have hft1:=flen_take hg zs (k+1)
  have hcall:=hangs_f h9 i hiE _ _ q29 q79 z hzs9 (λx hx=>by have:=hzb z hzm x hx;omega)
  refine zb (tT 0 [0,0,0]) ?_;refine kZ Tryz.underlying37 qp ?_;intro p25 e25 he25 hc25;obtain rfl:=qx hz he25;refine kV qp ?_;refine zh ?_;refine zb (tT 0 [0,0,1]) ?_;refine ze ?_;refine ze ?_;refine jD rfl rfl rfl ok65 (hcall) ?_;rintro _ rfl;refine AtT.dn ?_;refine At.cond rfl (λhc=>?_) (λhc=>?_)
  ·have hhg:hg z=true:=hc
   rw[hhg,if_pos rfl]at htk;have how2:ow++z.2=(i:Int)::(((zs.take (k+1)).filter hg).flatMap λz=>z.2):=by rw[how,htk,List.flatMap_append];simp
   have hol:ow.length+z.2.length<=11:=by
    have:=congrArg List.length how2
    rw[List.length_append,List.length_cons]at this;omega
   refine zb (tT 0 [0,0,2,0]) ?_;refine ze ?_;refine ze ?_;refine appendRS rfl trivial Tryz.underlying34 rw3 rfl (by decide) rfl rfl zo.zg hzs9 (λ_=>rfl) (λ_=>rfl) (by unfold maxLen;omega) (by omega) (by decide) ?_;intro a32 c32;refine zh ?_;refine zb (tT 0 [0,0]) ?_;refine zM ?_;refine ze ?_;refine AtT.dn ?_;refine At.round (k+1,ow++z.2,a32,c32) ?_ ?_ ?_ ?_
   ·show zs.length-(k+1)<zs.length-k;omega
   ·exact⟨hV9,by dsimp only;omega,how2⟩
   ·dsimp only;rw[List.length_append];exact⟨rfl,rfl,rfl,rfl,rfl,rfl,rfl,rfl,rfl,ivs (by omega),trivial⟩
   ·dsimp only;rw[List.length_append,show flat ei (ow++z.2)=flat ei ow++flat ei z.2 from List.flatMap_append];exact Pt.zg
  ·have hhg:hg z=false:=hc
   rw[hhg]at htk;simp only[Bool.false_eq_true,if_false,List.append_nil]at htk;refine zb (tT 0 [0,0]) ?_;refine zM ?_;refine ze ?_;refine AtT.dn ?_;refine At.round (k+1,ow,ao,co) ?_ ?_ ?_ ?_
   ·show zs.length-(k+1)<zs.length-k;omega
   ·exact⟨hV9,by dsimp only;omega,by dsimp only;rw[htk];exact how⟩
   ·exact⟨rfl,rfl,rfl,rfl,rfl,rfl,rfl,rfl,rfl,ivs (by dsimp only;omega),trivial⟩
   ·exact Pt.zg
 rintro⟨ao,co,ow⟩ V9 ks' O' ⟨hV9,how⟩ hk hO hl9;dsimp only at how hk hO;subst hk hO;refine regain hL hV8 hV9 hl7 (λV10 hV10=>?_);have hol:ow.length=((zs.filter hg).flatMap λz=>z.2).length+1:=by rw[how];rfl
 have hpt:=flen_part hg zs
 have hperm:=srtI_perm ow
 have hsl:(srtI ow).length=ow.length:=hperm.length_eq
 refine rowSplit (v:=.slice ao ow.length co) zo.zg (λ_ h2' _=>absurd h2' (by omega)) (λbb cp rest hv hlc hcm hln=>?_);injection hv with e1 _ e3;subst e1 e3;have hfz:(zs.filter λz=>!hg z).length<=zs.length:=List.length_filter_le _ _;have h10:=h7.le hV10;have q210:=q27.le hV10;have q710:=q7.le hV10;have hzv10:∀ z∈zs,SlI V10 (tvz z) z.2:=λz hz=>((hzv z hz).le hV7).le hV10;refine zb (tT 0 [0,2]) ?_;refine ze ?_;refine P.sortI rfl trivial rfl (show ow.length<4611686018427387904 by omega) zo.zg (by decide) ?_ (l:=ow) (rest:=rest) (b:=bb) (cap:=co);refine AtT.dn ?_;refine jN (b:=bb) zo.zg (λV11 hV11 hb11=>?_);have hVb:Le V V11:=(((hV2.trans hV3).trans hV7).trans hV10).trans hV11;have hsn:SlI V11 (.slice (some ⟨bb,0,none⟩) ow.length co) (srtI ow):=by rw[<-hsl];exact Sl.of_cells Lw.jP (cells_pre hb11) (by omega) hcm
 have hcall:∀ V',Le V11 V'->∀ z∈zs,Fnc Tryz.prog 65 ([]++[tvz z]++[.pointer (some ⟨b2,0,none⟩),.pointer (some ⟨b7,0,none⟩)]) V' (λv _=>v=.bool (hg z)):=λV' hV' z hz=>
  hangs_f ((h10.le hV11).le hV') i hiE _ _ ((q210.le hV11).le hV') ((q710.le hV11).le hV') z (((hzv10 z hz).le hV11).le hV') (λx hx=>by have:=hzb z hz x hx;omega)
 refine zb (tT 0 [0,0,2,0,1,2,0]) ?_;refine ze ?_;refine ze ?_;refine callM rfl trivial rfl ok68 (by decide) (zo.perm zo.zg) (del_f 65 [.pointer (some ⟨b2,0,none⟩),.pointer (some ⟨b7,0,none⟩)] hg zs a3 c3 (by omega) ok65 hcall) ?_;rintro _ _ V38 ⟨hV38,a38,c38,rfl,rfl⟩;have hVb38:Le V V38:=hVb.trans hV38;refine ze ?_;refine zy (bs37_1_0 _ _ _) ?_;intro q40 V40 hV40 hq40;have g40:Le V V40:=by first | exact hV40 | exact Le.trans (by assumption) hV40
 first | refine jq Tryz.underlying37 rw34 ?_
 intro a41 c41;refine zh ?_
 let zn:Pz:=((some ⟨bb,0,none⟩,ow.length,co),srtI ow)
 have hnew:snd ((zs.filter λz=>!hg z)++[zn])=((snd zs).filter λl=>!(l.any (tchE E i)))++[srtI ow]:=by unfold snd;rw[List.map_append];congr 1;exact snd_filter (λl=>!(l.any (tchE E i))) zs
 have hpow:(srtI ow).Perm ((i:Int)::((snd zs).filter λl=>l.any (tchE E i)).flatten):=by refine hperm.trans ?_;rw[how,snd_flat];have:=snd_filter (λl=>l.any (tchE E i)) zs;rw[<-this]
 have hln2:((zs.filter λz=>!hg z)++[zn]).length=(zs.filter λz=>!hg z).length+1:=by rw[List.length_append];rfl
 refine zb (tT 0 [0,0]) ?_;refine zM ?_;refine ze ?_;refine AtT.dn ?_;refine At.round (i+1,(zs.filter λz=>!hg z)++[zn],a41,c41) ?_ ?_ ?_ ?_
 ·show E.length-(i+1)<E.length-i;omega
 ·refine⟨by first | assumption | exact((((hV3.trans hV7).trans hV10).trans hV11).trans hV38).trans (by assumption),by dsimp only;omega,λz hz=>?_,?_,?_,λh0=>absurd h0 (Nat.succ_ne_zero i)⟩
  ·rcases List.mem_append.1 hz with hz | hz
   ·exact(((hzv10 z (List.mem_filter.1 hz).1).le hV11).le hV38).le (by assumption)
   ·rw[List.mem_singleton]at hz;subst hz;exact(hsn.le hV38).le (by assumption)
  ·dsimp only;rw[hnew];exact hP.step hiE hpow
  ·dsimp only;rw[List.flatMap_append,List.length_append];show _+((srtI ow)++[]).length=_;rw[List.append_nil,hsl];omega
 ·dsimp only;rw[hln2];exact⟨rfl,rfl,rfl,rfl,ivs (by omega),trivial⟩
 ·dsimp only;rw[hln2,zV];exact Pt.zg
theorem lParts_f {F:Int} (hE:MbOk F E) (hs:Sl V mse 2 (.slice a E.length c) E):Fnc Tryz.prog 9 [.agg #[iv F,.slice a E.length c]] V λr _=>∃ (a':Option Addr) (m c':Nat) (ll:List (List Int)),r=.tuple #[.slice a' m c',iv 0]/\m=ll.length/\PtI E E.length ll:=by
 have hn:=hE.n
 refine zG Tryz.func9 rfl Tryz.ntmps9 (Nat.le_of_ble_eq_true rfl) ?_;intro w0 hw0;refine zb (tT 0 [1,0,0]) ?_;refine qQ ?_;intro b1;refine zu ?_;refine ax (tT 0 [0,1,0,0,0,0,0]) ?_;refine qo tk32 ?_;refine kK rfl rfl ok19 (open_f hE hs) ?_;rintro _ V8 hV8 ⟨b,rfl,hb⟩;refine ze ?_;refine zx ?_;refine zx ?_;refine zu ?_;refine zh ?_;refine zb (tT 0 [0,0]) ?_;refine ze ?_;refine kJ ?_;refine AtT.dn ?_;refine zS rfl rfl ?_;refine zb (tT 0 [0,0,1,1,0,0]) ?_;refine ze ?_;refine ze ?_;refine kK rfl rfl ok21 (all_f hb hn) ?_;rintro v16 V16 hV16 hs16;refine zm rfl rfl ok20 ((parts_f (hb.le hV16) hn _ hs16).mono λr V' _ hr=>hr) ?_;rintro _ ⟨a',m,c',ll,rfl,hm,hll⟩;refine zu ?_;refine zh ?_;exact ret2 rfl (.tmp rfl) (.tmp rfl) ⟨a',m,c',ll,rfl,hm,hll⟩
end
end Go.Proofs.YtnffcfhdnjbdbaaGreatDoor.M
namespace Go.Bl
open Go.Gl Go.Lw
theorem btL_take {l:List Int} {k:Nat} {x:Int} (h:l[k]? = some x):btL (l.take (k+1))=btL (l.take k) ||| 2 ^ x.toNat:=by rw[take_snoc' h,btL_snoc]
theorem btT_lt {l:List Int} (h:∀ x∈l,0<=x/\x<15) (k:Nat):btL (l.take k)<32768:=btL_lt (n:=15) λx hx=>by have:=h x (List.mem_of_mem_take hx);omega
theorem pow_lt15 {x:Int} (h:0<=x/\x<15):2 ^ x.toNat<32768:=by
 have:=Nat.pow_le_pow_right (n:=2) (by decide) (show x.toNat<=14 by omega)
 omega
def mtB (A B:Nat):Bool:=decide (A &&& B≠0)
theorem mt_pos (A B:Nat):decide ((0:Int)<((A &&& B:Nat):Int))=mtB A B:=by unfold mtB;rw[decide_eq_decide];omega
def lfI (no:Nat) (t:Tq):Int:=if t.f=true then ((clrB (cbN t.p) no:Nat):Int)else -1
def exI (A:Nat) (x:Int):Bool:=!decide (0<=x/\x.toNat &&& A=0)
def exB (left:List Int) (A:Nat):Bool:=left.all (exI A)
end Go.Bl
namespace Go.Pm
open Go.Gl Go.Lw
def cAe (s:Sh) (l:List Int):Int:=
 if chE s≠0 then chE s else if lstB l (knL s).length=false then 3 else if okS (shI (gdS s) (knL s)) l=false then 16 else 0
theorem okS_no {S:Int->Int->Bool} {l:List Int} {k:Nat} {x:Int} (h:l[k]? = some x) (hs:shS S (l.take k) x=true):okS S l=false:=by unfold okS;rw[decide_eq_false_iff_not];intro hp;unfold shS at hs;obtain⟨y,hy,hS⟩:=List.any_eq_true.1 hs;obtain⟨i,hi,rfl⟩:=List.mem_take_iff_getElem.1 hy;have hkl:=(List.getElem?_eq_some_iff.1 h).1;have e:l[k]=x:=(List.getElem?_eq_some_iff.1 h).2;have:=List.pairwise_iff_getElem.1 hp i k (by omega) hkl (by omega);rw[e,hS]at this;cases this
theorem okS_yes {S:Int->Int->Bool} {l:List Int} (h:∀ k x,l[k]? = some x->shS S (l.take k) x=false):okS S l=true:=by
 unfold okS;rw[decide_eq_true_eq,List.pairwise_iff_getElem];intro i j hi hj hij;have:=h j _ (List.getElem?_eq_getElem hj);unfold shS at this;cases c:S l[i] l[j]with
 | false=>rfl
 | true=>rw[List.any_eq_true.2 ⟨l[i],List.mem_take_iff_getElem.2 ⟨i,by omega,rfl⟩,c⟩]at this;cases this
end Go.Pm
namespace Go.Mt
open Go.Lw Go.Ps Go.Pm Go.Gl
def rowE (S:Nat->Nat->Bool) (i:Nat):Nat->List Ms
 | 0=>[]
 | k+1=>rowE S i k++if i<k/\S i k=true then [⟨(i:Int),(k:Int)⟩]else []
def allE (S:Nat->Nat->Bool) (N:Nat):Nat->List Ms
 | 0=>[]
 | i+1=>allE S N i++rowE S i N
section
variable {S:Nat->Nat->Bool} {N:Nat}
theorem rowE_low {i:Nat} : ∀ {k:Nat},k<=i+1->rowE S i k=[]
 | 0,_=>rfl
 | k+1,h=>by
  show rowE S i k++_=[]
  rw[rowE_low (by omega),if_neg (by omega)];rfl
theorem rowE_len {i:Nat} : ∀ k:Nat,(rowE S i k).length<=k
 | 0=>Nat.le_refl _
 | k+1=>by
  have:=rowE_len (i:=i) k
  show(rowE S i k++_).length<=_
  rw[List.length_append];split
  ·simp;omega
  ·simp;omega
theorem allE_len:∀ i:Nat,(allE S N i).length<=i*N
 | 0=>by simp[allE]
 | i+1=>by
  have h1:=allE_len i
  have h2:=rowE_len (S:=S) (i:=i) N
  show(allE S N i++_).length<=_
  rw[List.length_append,Nat.add_mul,Nat.one_mul];omega
theorem rowE_mem {i:Nat} {s:Ms} : ∀ {k:Nat},s∈rowE S i k↔∃ j:Nat,s=⟨(i:Int),(j:Int)⟩/\i<j/\j<k/\S i j=true
 | 0=>by simp[rowE]
 | k+1=>by
  show s∈rowE S i k++_↔_
  rw[List.mem_append,rowE_mem (k:=k)];constructor
  ·rintro(⟨j,h1,h2,h3,h4⟩ | h)
   ·exact⟨j,h1,h2,by omega,h4⟩
   ·split at h
    ·rename_i c;rw[List.mem_singleton]at h;exact⟨k,h,c.1,by omega,c.2⟩
    ·cases h
  ·rintro⟨j,h1,h2,h3,h4⟩;by_cases e:j=k
   ·subst e;exact .inr (by rw[if_pos ⟨h2,h4⟩];simp[h1])
   ·exact .inl ⟨j,h1,h2,by omega,h4⟩
theorem allE_mem {s:Ms} : ∀ {i:Nat},s∈allE S N i↔∃ a j:Nat,s=⟨(a:Int),(j:Int)⟩/\a<i/\a<j/\j<N/\S a j=true
 | 0=>by simp[allE]
 | i+1=>by
  show s∈allE S N i++_↔_
  rw[List.mem_append,allE_mem (i:=i),rowE_mem];constructor
  ·rintro(⟨a,j,h1,h2,h3⟩ | ⟨j,h1,h2,h3⟩)
   ·exact⟨a,j,h1,by omega,h3⟩
   ·exact⟨i,j,h1,by omega,h2,h3⟩
  ·rintro⟨a,j,h1,h2,h3⟩;by_cases e:a=i
   ·subst e;exact .inr ⟨j,h1,h3⟩
   ·exact .inl ⟨a,j,h1,by omega,h3⟩
theorem allE_ok:ShE N S (allE S N N) where
 to s hs:=by obtain⟨a,j,h1,h2,h3,h4,h5⟩:=allE_mem.1 hs;exact⟨a,j,h1,h3,h4,h5⟩
 of i k hik hk hs:=allE_mem.2 ⟨i,k,rfl,by omega,hik,hk,hs⟩
theorem allE_book (hN:1<=N/\N<=6) (h10:(allE S N N).length<=10):MbOk N (allE S N N):=
 ⟨by omega,h10,λs hs=>by obtain⟨a,j,rfl,h2,h3,h4,h5⟩:=allE_mem.1 hs;dsimp only;omega⟩
end
/-! How far figures are, and whether they hang together. -/
theorem far_fr {F:Int} {E:List Ms} {to:Int} {d:List Int} (hE:MbOk F E) (ht:0<=to/\to<F) (h:FarOk F E (-1) to d):∀ (n:Nat) (x:Nat),x<6->0<=d.getD x 0->(d.getD x 0).toNat<=n->FR E to x
 | n,x,hx,h0,hn=>by
  by_cases c:(x:Int)=to
  ·rw[c];exact .refl
  obtain⟨h1,p,hp,_,hpd⟩:=h.prd x hx h0 c;obtain⟨⟨hps,hpt⟩,hpb⟩:=plF_mem.1 hp;have heb:=fnP_bd hE hp;have hF:=hE.f
  match n with
  | 0=>omega
  | n+1=>
   have ih:=far_fr hE ht h n (fnP E p).toNat (by omega) (by omega) (by omega)
   rw[Int.toNat_of_nonneg heb.1]at ih;have hm:=atM_mem (E:=E) hps;obtain⟨ps,pt⟩:=p;dsimp only at hps hpt hm;unfold fnP at ih;unfold bgP at hpb;dsimp only at ih hpb
   match pt,hpt with
   | 0,_=>
    have e:(atM E ps).l=(x:Int):=hpb
    rw[<-e];exact .bw ih hm rfl
   | 1,_=>
    have e:(atM E ps).r=(x:Int):=hpb
    rw[<-e];exact .fw ih hm rfl
theorem fr_far {F:Int} {E:List Ms} {to:Int} {d:List Int} (hE:MbOk F E) (ht:0<=to/\to<F) (h:FarOk F E (-1) to d) {g:Int} (hf:FR E to g):(0<=g/\g<F)/\0<=d.getD g.toNat 0:=by
 have hF:=hE.f
 have key:∀ (i:Nat),i<E.length->∀ t:Nat,t<2->∀ y:Int,(0<=y/\y<F)->0<=d.getD y.toNat 0->bgn (atM E i) t=y->0<=d.getD (fin (atM E i) t).toNat 0:=λi hi t htt y hy h0 hb=>by
  have hp:(⟨i,t⟩:Mp)∈plF E (y.toNat:Int):=plF_mem.2 ⟨⟨hi,htt⟩,by rw[Int.toNat_of_nonneg hy.1];exact hb⟩
  exact h.cl y.toNat (by omega) h0 _ hp (by dsimp only;omega)
 induction hf with
 | refl=>exact⟨ht,by rw[h.t0];omega⟩
 | @fw g' s _ hs he ih=>
  obtain⟨i,hi,rfl⟩:=List.getElem_of_mem hs;have e:atM E i=E[i]:=atM_of (List.getElem?_eq_getElem hi);have hb:=hE.e _ hs;refine⟨by omega,?_⟩;have:=key i hi 0 (by decide) g' ih.1 ih.2 (by rw[e];exact he);rw[e]at this;exact this
 | @bw g' s _ hs he ih=>obtain⟨i,hi,rfl⟩:=List.getElem_of_mem hs;have e:atM E i=E[i]:=atM_of (List.getElem?_eq_getElem hi);have hb:=hE.e _ hs;refine⟨by omega,?_⟩;have:=key i hi 1 (by decide) g' ih.1 ih.2 (by rw[e];exact he);rw[e]at this;exact this
/-! Which part each knot is in. -/
structure KpOk (N:Nat) (S:Nat->Nat->Bool) (LL:List (List Int)):Prop where
 prt:PrtK N S N LL
 sym:∀ a b,S a b=S b a
section
variable {N:Nat} {S:Nat->Nat->Bool} {LL:List (List Int)}
theorem KpOk.bd (h:KpOk N S LL) {l:List Int} (hl:l∈LL) {x:Int} (hx:x∈l):0<=x/\x<N:=by obtain⟨i,hi,hp⟩:=(kG h.prt).1 l hl;obtain⟨k,rfl,hr⟩:=(hp.2 x).1 hx;have:=rch_lt hi hr;omega
theorem KpOk.one (h:KpOk N S LL) {l m:List Int} (hl:l∈LL) (hm:m∈LL) {x y:Nat} (hx:(x:Int)∈l) (hy:(y:Int)∈m) (hr:Rch N S x y):l=m:=by obtain⟨i,hi,hp⟩:=(kG h.prt).1 l hl;obtain⟨j,hj,hq⟩:=(kG h.prt).1 m hm;have h1:=part_at h.sym hi hp hx;have h2:(y:Int)∈l:=(h1.2 _).2 ⟨y,rfl,hr⟩;exact part_uniq (part_at h.sym hi hp h2) (part_at h.sym hj hq hy)
theorem KpOk.rch (h:KpOk N S LL) {l:List Int} (hl:l∈LL) {x y:Nat} (hx:(x:Int)∈l) (hy:(y:Int)∈l):Rch N S x y:=by
 obtain⟨i,hi,hp⟩:=(kG h.prt).1 l hl;obtain⟨k,e,hr⟩:=((part_at h.sym hi hp hx).2 _).1 hy;obtain rfl:y=k:=by omega
 exact hr
theorem KpOk.idx (h:KpOk N S LL) {i j:Nat} {l m:List Int} (hl:LL[i]? = some l) (hm:LL[j]? = some m) {x:Int} (hx:x∈l) (hy:x∈m):i=j:=by
 have b:=h.bd (List.mem_of_getElem? hl) hx
 obtain⟨n,rfl⟩:∃ n:Nat,x=(n:Int):=⟨x.toNat,by omega⟩;have e:=h.one (List.mem_of_getElem? hl) (List.mem_of_getElem? hm) hx hy .refl;subst e;obtain⟨hi,e1⟩:=List.getElem?_eq_some_iff.1 hl;obtain⟨hj,e2⟩:=List.getElem?_eq_some_iff.1 hm;exact(List.getElem_inj (prtK_nodup h.prt)).1 (e1.trans e2.symm)
theorem KpOk.flat (h:KpOk N S LL):LL.flatten.length=N:=by
 have hnd:LL.flatten.Nodup:=by
  rw[List.Nodup,List.pairwise_flatten];refine⟨λl hl=>?_,?_⟩
  ·obtain⟨i,hi,hp⟩:=(kG h.prt).1 l hl;exact hp.1.imp λh=>by omega
  ·rw[List.pairwise_iff_getElem];intro i j hi hj hij x hx y hy e;subst e;have:=h.idx (List.getElem?_eq_getElem hi) (List.getElem?_eq_getElem hj) hx hy;omega
 have hperm:LL.flatten.Perm (rgI N):=by
  have hr:(rgI N).Nodup:=by unfold rgI;rw[List.Nodup,List.pairwise_map];exact List.nodup_range.imp λh e=>h (by omega)
  rw[List.perm_ext_iff_of_nodup hnd hr];intro x;rw[List.mem_flatten];constructor
  ·rintro⟨l,hl,hx⟩;have:=h.bd hl hx;have hat:=rgI_at (n:=N) (j:=x.toNat) (by omega);rw[Int.toNat_of_nonneg this.1]at hat;exact List.mem_of_getElem? hat
  ·intro hx;unfold rgI at hx;obtain⟨k,hk,rfl⟩:=List.mem_map.1 hx;rw[List.mem_range]at hk;exact(kG h.prt).2 k hk
 rw[hperm.length_eq,rgI_len]
end
structure OfI (N:Nat) (LL:List (List Int)) (of:List Int) (i k:Nat):Prop where
 len:of.length=N
 old:∀ (j:Nat) (l:List Int) (x:Nat),j<i->LL[j]? = some l->(x:Int)∈l->of.getD x 0=(j:Int)
 cur:∀ (l:List Int) (x:Nat),LL[i]? = some l->(x:Int)∈l.take k->of.getD x 0=(i:Int)
section
variable {N:Nat} {S:Nat->Nat->Bool} {LL:List (List Int)} {of:List Int} {i k:Nat}
theorem OfI.start:OfI N LL (List.replicate N 0) 0 0:=⟨by simp,λj _ _ h=>absurd h (Nat.not_lt_zero j),λ_ _ _ h=>by simp at h⟩
theorem OfI.next (h:OfI N LL of i k) {l:List Int} (hl:LL[i]? = some l) (hk:l.length<=k):OfI N LL of (i+1) 0:=⟨h.len,λj m x hj hm hx=>by
 by_cases e:j=i
 ·subst e;rw[hl]at hm;obtain rfl:=Option.some.inj hm;exact h.cur _ x hl (by rw[List.take_of_length_le hk];exact hx)
 ·exact h.old j m x (by omega) hm hx,λ_ _ _ h=>by simp at h⟩
theorem OfI.put (hK:KpOk N S LL) (h:OfI N LL of i k) {l:List Int} (hl:LL[i]? = some l) {x:Int} (hx:l[k]? = some x):OfI N LL (of.set x.toNat (i:Int)) i (k+1):=by
 have hxm:=List.mem_of_getElem? hx
 have b:=hK.bd (List.mem_of_getElem? hl) hxm
 have hxl:x.toNat<of.length:=by rw[h.len];omega
 refine⟨by rw[List.length_set];exact h.len,λj m y hj hm hy=>?_,λm y hm hy=>?_⟩
 ·rw[getD_set hxl];by_cases e:x.toNat=y
  ·have:x∈m:=by rw[show x=(y:Int) by omega];exact hy
   have:=hK.idx hl hm hxm this
   omega
  ·rw[if_neg e];exact h.old j m y hj hm hy
 ·rw[hl]at hm;obtain rfl:=Option.some.inj hm;rw[getD_set hxl];by_cases e:x.toNat=y
  ·rw[if_pos e]
  ·rw[if_neg e];rw[List.take_add_one,hx]at hy;rcases List.mem_append.1 hy with h1 | h1
   ·exact h.cur _ y hl h1
   ·have:(y:Int)=x:=by simpa using h1
    omega
theorem OfI.done (hK:KpOk N S LL) (h:OfI N LL of LL.length 0) {x y:Nat} (hx:x<N) (hy:y<N):of.getD x 0=of.getD y 0↔Rch N S x y:=by
 obtain⟨l,hl,hxl⟩:=(kG hK.prt).2 x hx;obtain⟨m,hm,hym⟩:=(kG hK.prt).2 y hy;obtain⟨a,ha⟩:=List.getElem?_of_mem hl;obtain⟨b,hb⟩:=List.getElem?_of_mem hm;have hal:=(List.getElem?_eq_some_iff.1 ha).1;have hbl:=(List.getElem?_eq_some_iff.1 hb).1;rw[h.old a l x hal ha hxl,h.old b m y hbl hb hym];constructor
 ·intro e;obtain rfl:a=b:=by omega
  rw[ha]at hb;obtain rfl:=Option.some.inj hb;exact hK.rch hl hxl hym
 ·intro hr;have:=hK.one hl hm hxl hym hr;subst this;rw[hK.idx ha hb hxl hxl]
end
theorem cAe_two {s:Sh} (h0:chE s=0) {i k:Nat} (hik:i<k) (hk:k<(knL s).length):cAe s [(i:Int),(k:Int)]=if shN (gdS s) (knL s) i k=true then 16 else 0:=by
 have hl:lstB [(i:Int),(k:Int)] (knL s).length=true:=lstB_true λj hj=>by
  match j,hj with
  | 0,_=>exact decide_eq_true ⟨by simp,by simp[prevN],by simp;omega⟩
  | 1,_=>exact decide_eq_true ⟨by simp,by simp[prevN];omega,by simp;omega⟩
 unfold cAe;rw[if_neg (by simpa using h0),hl,if_neg (by simp)];cases c:shN (gdS s) (knL s) i k with
 | true=>
  have:okS (shI (gdS s) (knL s)) [(i:Int),(k:Int)]=false:=okS_no (k:=1) (x:=(k:Int)) rfl (by simp[shS,shI,c])
  rw[this,if_pos rfl,if_pos rfl]
 | false=>
  have:okS (shI (gdS s) (knL s)) [(i:Int),(k:Int)]=true:=by unfold okS;rw[decide_eq_true_eq,List.pairwise_cons];refine⟨λy hy=>?_,List.pairwise_singleton _ _⟩;rw[List.mem_singleton]at hy;subst hy;simp[shI,c]
  rw[this,if_neg (by simp),if_neg (by simp)]
end Go.Mt
namespace Go.Ev
inductive So
 | u
 | n
 | s (id off len cap:Nat)
 | w (id off len cut:Nat)
 | m (id:Nat)
 | f (id:Nat)
 | y (id:Nat)
 | e
 | c (v:Value)
inductive Sc
 | i (k:IntKind) (n:Int)
 | b (b:Bool)
 | p (id off:Nat)
 | o (x:So)
inductive AV
 | x (s:Sc)
 | a (l:List Sc)
 | t (l:List (Sc ⊕ List Sc))
abbrev AV.u:AV:=.x (.o .u)
abbrev AV.n:AV:=.x (.o .n)
abbrev AV.i (k:IntKind) (n:Int):AV:=.x (.i k n)
abbrev AV.b (b:Bool):AV:=.x (.b b)
inductive Ex | n | x (id:Nat) | r
inductive D | d0 | d1 | d2 | d3 | d4 | d5 | d6 | d7
def dOf (n:Nat):D:=
 Nat.rec (motive:=λ_=>D) .d0 (λn _=>Nat.rec (motive:=λ_=>D) .d1 (λn _=>Nat.rec (motive:=λ_=>D) .d2 (λn _=>Nat.rec (motive:=λ_=>D) .d3 (λn _=>Nat.rec (motive:=λ_=>D) .d4 (λn _=>Nat.rec (motive:=λ_=>D) .d5 (λn _=>Nat.rec (motive:=λ_=>D) .d6 (λ_ _=>.d7) n) n) n) n) n) n) n
def dg1 (n:Nat):D:=dOf (Nat.land n 7)
def dg2 (n:Nat):D:=dOf (Nat.land (Nat.shiftRight n 3) 7)
def dg3 (n:Nat):D:=dOf (Nat.land (Nat.shiftRight n 6) 7)
def dg4 (n:Nat):D:=dOf (Nat.land (Nat.shiftRight n 9) 7)
def dg5 (n:Nat):D:=dOf (Nat.land (Nat.shiftRight n 12) 7)
def nat {Z:Type} (n:Nat) (k:Nat->Z):Z:=Nat.rec (motive:=λ_=>Z) (k 0) (λm _=>k (Nat.succ m)) n
theorem nat_eq {Z:Type} (n:Nat) (k:Nat->Z):nat n k=k n:=by cases n<;>rfl
structure L1 where
 mk::(c0 c1 c2 c3 c4 c5 c6 c7:AV)
def L1.e:L1:=.mk .n .n .n .n .n .n .n .n
structure L2 where
 mk::(c0 c1 c2 c3 c4 c5 c6 c7:L1)
def L2.e:L2:=.mk L1.e L1.e L1.e L1.e L1.e L1.e L1.e L1.e
structure L3 where
 mk::(c0 c1 c2 c3 c4 c5 c6 c7:L2)
def L3.e:L3:=.mk L2.e L2.e L2.e L2.e L2.e L2.e L2.e L2.e
structure L4 where
 mk::(c0 c1 c2 c3 c4 c5 c6 c7:L3)
def L4.e:L4:=.mk L3.e L3.e L3.e L3.e L3.e L3.e L3.e L3.e
inductive TV
 | s (x:L1)
 | t (x:L2)
 | m (x:L3)
 | l (x:L4)
inductive BO
 | m (l:List (AV×AV))
 | h
 | g (key:AV) (gone:Bool) (l:List ((AV×AV)×Bool))
 | f (fn:FuncId) (first caps:List AV)
 | l (ps:List Nat) (assign body:Code) (t:L3)
 | d (ex:Ex)
 | i (m:Nat) (l:List (AV×AV))
 | b (m:Nat) (l rem:List (AV×AV))
 | c (m:Nat) (k v:AV) (l rem:List (AV×AV))
 | j (m:Nat) (l:List ((AV×AV)×Bool)) (x:Nat)
 | k (m:Nat) (key v:AV) (l:List ((AV×AV)×Bool)) (keep:Bool) (x:Nat) (cur:Bool)
 | q (m:Nat) (key v:AV)
 | z
 | t
 | v (bz:Bool) (ps:List Nat) (assign body:Code) (t:L3)
inductive B
 | x
 | c (E n:Nat) (t:TV)
 | r (E n:Nat) (t:TV)
 | o (b:BO)
structure H1 where
 mk::(c0 c1 c2 c3 c4 c5 c6 c7:B)
def H1.e:H1:=.mk .x .x .x .x .x .x .x .x
structure H2 where
 mk::(c0 c1 c2 c3 c4 c5 c6 c7:H1)
def H2.e:H2:=.mk H1.e H1.e H1.e H1.e H1.e H1.e H1.e H1.e
structure H3 where
 mk::(c0 c1 c2 c3 c4 c5 c6 c7:H2)
def H3.e:H3:=.mk H2.e H2.e H2.e H2.e H2.e H2.e H2.e H2.e
structure H4 where
 mk::(c0 c1 c2 c3 c4 c5 c6 c7:H3)
def H4.e:H4:=.mk H3.e H3.e H3.e H3.e H3.e H3.e H3.e H3.e
structure H5 where
 mk::(c0 c1 c2 c3 c4 c5 c6 c7:H4)
def H5.e:H5:=.mk H4.e H4.e H4.e H4.e H4.e H4.e H4.e H4.e
structure H where
 mk::(nxt lo:Nat) (ac:Nat×Nat) (t:H5)
abbrev R:=Option (List (AV×H))
structure Q1 where
 mk::(g:L1->AV) (s : {Z:Type}->L1->AV->(L1->Z)->Z)
def q1 (n:Nat):Q1:=D.rec (motive:=λ_=>Q1) (.mk (λt=>t.c0) (λ {Z} t v k=>L1.rec (motive:=λ_=>AV->(L1->Z)->Z) (λc0 c1 c2 c3 c4 c5 c6 c7 v k=>k (.mk v c1 c2 c3 c4 c5 c6 c7)) t v k)) (.mk (λt=>t.c1) (λ {Z} t v k=>L1.rec (motive:=λ_=>AV->(L1->Z)->Z) (λc0 c1 c2 c3 c4 c5 c6 c7 v k=>k (.mk c0 v c2 c3 c4 c5 c6 c7)) t v k)) (.mk (λt=>t.c2) (λ {Z} t v k=>L1.rec (motive:=λ_=>AV->(L1->Z)->Z) (λc0 c1 c2 c3 c4 c5 c6 c7 v k=>k (.mk c0 c1 v c3 c4 c5 c6 c7)) t v k)) (.mk (λt=>t.c3) (λ {Z} t v k=>L1.rec (motive:=λ_=>AV->(L1->Z)->Z) (λc0 c1 c2 c3 c4 c5 c6 c7 v k=>k (.mk c0 c1 c2 v c4 c5 c6 c7)) t v k)) (.mk (λt=>t.c4) (λ {Z} t v k=>L1.rec (motive:=λ_=>AV->(L1->Z)->Z) (λc0 c1 c2 c3 c4 c5 c6 c7 v k=>k (.mk c0 c1 c2 c3 v c5 c6 c7)) t v k)) (.mk (λt=>t.c5) (λ {Z} t v k=>L1.rec (motive:=λ_=>AV->(L1->Z)->Z) (λc0 c1 c2 c3 c4 c5 c6 c7 v k=>k (.mk c0 c1 c2 c3 c4 v c6 c7)) t v k)) (.mk (λt=>t.c6) (λ {Z} t v k=>L1.rec (motive:=λ_=>AV->(L1->Z)->Z) (λc0 c1 c2 c3 c4 c5 c6 c7 v k=>k (.mk c0 c1 c2 c3 c4 c5 v c7)) t v k)) (.mk (λt=>t.c7) (λ {Z} t v k=>L1.rec (motive:=λ_=>AV->(L1->Z)->Z) (λc0 c1 c2 c3 c4 c5 c6 c7 v k=>k (.mk c0 c1 c2 c3 c4 c5 c6 v)) t v k)) (dg1 n)
structure Q2 where
 mk::(g:L2->AV) (s : {Z:Type}->L2->AV->(L2->Z)->Z)
def q2 (n:Nat):Q2:=D.rec (motive:=λ_=>Q2) (.mk (λt=>(q1 n).g t.c0) (λ {Z} t v k=>L2.rec (motive:=λ_=>AV->(L2->Z)->Z) (λc0 c1 c2 c3 c4 c5 c6 c7 v k=>(q1 n).s c0 v λy=>k (.mk y c1 c2 c3 c4 c5 c6 c7)) t v k)) (.mk (λt=>(q1 n).g t.c1) (λ {Z} t v k=>L2.rec (motive:=λ_=>AV->(L2->Z)->Z) (λc0 c1 c2 c3 c4 c5 c6 c7 v k=>(q1 n).s c1 v λy=>k (.mk c0 y c2 c3 c4 c5 c6 c7)) t v k)) (.mk (λt=>(q1 n).g t.c2) (λ {Z} t v k=>L2.rec (motive:=λ_=>AV->(L2->Z)->Z) (λc0 c1 c2 c3 c4 c5 c6 c7 v k=>(q1 n).s c2 v λy=>k (.mk c0 c1 y c3 c4 c5 c6 c7)) t v k)) (.mk (λt=>(q1 n).g t.c3) (λ {Z} t v k=>L2.rec (motive:=λ_=>AV->(L2->Z)->Z) (λc0 c1 c2 c3 c4 c5 c6 c7 v k=>(q1 n).s c3 v λy=>k (.mk c0 c1 c2 y c4 c5 c6 c7)) t v k)) (.mk (λt=>(q1 n).g t.c4) (λ {Z} t v k=>L2.rec (motive:=λ_=>AV->(L2->Z)->Z) (λc0 c1 c2 c3 c4 c5 c6 c7 v k=>(q1 n).s c4 v λy=>k (.mk c0 c1 c2 c3 y c5 c6 c7)) t v k)) (.mk (λt=>(q1 n).g t.c5) (λ {Z} t v k=>L2.rec (motive:=λ_=>AV->(L2->Z)->Z) (λc0 c1 c2 c3 c4 c5 c6 c7 v k=>(q1 n).s c5 v λy=>k (.mk c0 c1 c2 c3 c4 y c6 c7)) t v k)) (.mk (λt=>(q1 n).g t.c6) (λ {Z} t v k=>L2.rec (motive:=λ_=>AV->(L2->Z)->Z) (λc0 c1 c2 c3 c4 c5 c6 c7 v k=>(q1 n).s c6 v λy=>k (.mk c0 c1 c2 c3 c4 c5 y c7)) t v k)) (.mk (λt=>(q1 n).g t.c7) (λ {Z} t v k=>L2.rec (motive:=λ_=>AV->(L2->Z)->Z) (λc0 c1 c2 c3 c4 c5 c6 c7 v k=>(q1 n).s c7 v λy=>k (.mk c0 c1 c2 c3 c4 c5 c6 y)) t v k)) (dg2 n)
structure Q3 where
 mk::(g:L3->AV) (s : {Z:Type}->L3->AV->(L3->Z)->Z)
def q3 (n:Nat):Q3:=D.rec (motive:=λ_=>Q3) (.mk (λt=>(q2 n).g t.c0) (λ {Z} t v k=>L3.rec (motive:=λ_=>AV->(L3->Z)->Z) (λc0 c1 c2 c3 c4 c5 c6 c7 v k=>(q2 n).s c0 v λy=>k (.mk y c1 c2 c3 c4 c5 c6 c7)) t v k)) (.mk (λt=>(q2 n).g t.c1) (λ {Z} t v k=>L3.rec (motive:=λ_=>AV->(L3->Z)->Z) (λc0 c1 c2 c3 c4 c5 c6 c7 v k=>(q2 n).s c1 v λy=>k (.mk c0 y c2 c3 c4 c5 c6 c7)) t v k)) (.mk (λt=>(q2 n).g t.c2) (λ {Z} t v k=>L3.rec (motive:=λ_=>AV->(L3->Z)->Z) (λc0 c1 c2 c3 c4 c5 c6 c7 v k=>(q2 n).s c2 v λy=>k (.mk c0 c1 y c3 c4 c5 c6 c7)) t v k)) (.mk (λt=>(q2 n).g t.c3) (λ {Z} t v k=>L3.rec (motive:=λ_=>AV->(L3->Z)->Z) (λc0 c1 c2 c3 c4 c5 c6 c7 v k=>(q2 n).s c3 v λy=>k (.mk c0 c1 c2 y c4 c5 c6 c7)) t v k)) (.mk (λt=>(q2 n).g t.c4) (λ {Z} t v k=>L3.rec (motive:=λ_=>AV->(L3->Z)->Z) (λc0 c1 c2 c3 c4 c5 c6 c7 v k=>(q2 n).s c4 v λy=>k (.mk c0 c1 c2 c3 y c5 c6 c7)) t v k)) (.mk (λt=>(q2 n).g t.c5) (λ {Z} t v k=>L3.rec (motive:=λ_=>AV->(L3->Z)->Z) (λc0 c1 c2 c3 c4 c5 c6 c7 v k=>(q2 n).s c5 v λy=>k (.mk c0 c1 c2 c3 c4 y c6 c7)) t v k)) (.mk (λt=>(q2 n).g t.c6) (λ {Z} t v k=>L3.rec (motive:=λ_=>AV->(L3->Z)->Z) (λc0 c1 c2 c3 c4 c5 c6 c7 v k=>(q2 n).s c6 v λy=>k (.mk c0 c1 c2 c3 c4 c5 y c7)) t v k)) (.mk (λt=>(q2 n).g t.c7) (λ {Z} t v k=>L3.rec (motive:=λ_=>AV->(L3->Z)->Z) (λc0 c1 c2 c3 c4 c5 c6 c7 v k=>(q2 n).s c7 v λy=>k (.mk c0 c1 c2 c3 c4 c5 c6 y)) t v k)) (dg3 n)
structure Q4 where
 mk::(g:L4->AV) (s : {Z:Type}->L4->AV->(L4->Z)->Z)
def q4 (n:Nat):Q4:=D.rec (motive:=λ_=>Q4) (.mk (λt=>(q3 n).g t.c0) (λ {Z} t v k=>L4.rec (motive:=λ_=>AV->(L4->Z)->Z) (λc0 c1 c2 c3 c4 c5 c6 c7 v k=>(q3 n).s c0 v λy=>k (.mk y c1 c2 c3 c4 c5 c6 c7)) t v k)) (.mk (λt=>(q3 n).g t.c1) (λ {Z} t v k=>L4.rec (motive:=λ_=>AV->(L4->Z)->Z) (λc0 c1 c2 c3 c4 c5 c6 c7 v k=>(q3 n).s c1 v λy=>k (.mk c0 y c2 c3 c4 c5 c6 c7)) t v k)) (.mk (λt=>(q3 n).g t.c2) (λ {Z} t v k=>L4.rec (motive:=λ_=>AV->(L4->Z)->Z) (λc0 c1 c2 c3 c4 c5 c6 c7 v k=>(q3 n).s c2 v λy=>k (.mk c0 c1 y c3 c4 c5 c6 c7)) t v k)) (.mk (λt=>(q3 n).g t.c3) (λ {Z} t v k=>L4.rec (motive:=λ_=>AV->(L4->Z)->Z) (λc0 c1 c2 c3 c4 c5 c6 c7 v k=>(q3 n).s c3 v λy=>k (.mk c0 c1 c2 y c4 c5 c6 c7)) t v k)) (.mk (λt=>(q3 n).g t.c4) (λ {Z} t v k=>L4.rec (motive:=λ_=>AV->(L4->Z)->Z) (λc0 c1 c2 c3 c4 c5 c6 c7 v k=>(q3 n).s c4 v λy=>k (.mk c0 c1 c2 c3 y c5 c6 c7)) t v k)) (.mk (λt=>(q3 n).g t.c5) (λ {Z} t v k=>L4.rec (motive:=λ_=>AV->(L4->Z)->Z) (λc0 c1 c2 c3 c4 c5 c6 c7 v k=>(q3 n).s c5 v λy=>k (.mk c0 c1 c2 c3 c4 y c6 c7)) t v k)) (.mk (λt=>(q3 n).g t.c6) (λ {Z} t v k=>L4.rec (motive:=λ_=>AV->(L4->Z)->Z) (λc0 c1 c2 c3 c4 c5 c6 c7 v k=>(q3 n).s c6 v λy=>k (.mk c0 c1 c2 c3 c4 c5 y c7)) t v k)) (.mk (λt=>(q3 n).g t.c7) (λ {Z} t v k=>L4.rec (motive:=λ_=>AV->(L4->Z)->Z) (λc0 c1 c2 c3 c4 c5 c6 c7 v k=>(q3 n).s c7 v λy=>k (.mk c0 c1 c2 c3 c4 c5 c6 y)) t v k)) (dg4 n)
structure P1 where
 mk::(g:H1->B) (s : {Z:Type}->H1->B->(H1->Z)->Z)
def p1 (n:Nat):P1:=D.rec (motive:=λ_=>P1) (.mk (λt=>t.c0) (λ {Z} t v k=>H1.rec (motive:=λ_=>B->(H1->Z)->Z) (λc0 c1 c2 c3 c4 c5 c6 c7 v k=>k (.mk v c1 c2 c3 c4 c5 c6 c7)) t v k)) (.mk (λt=>t.c1) (λ {Z} t v k=>H1.rec (motive:=λ_=>B->(H1->Z)->Z) (λc0 c1 c2 c3 c4 c5 c6 c7 v k=>k (.mk c0 v c2 c3 c4 c5 c6 c7)) t v k)) (.mk (λt=>t.c2) (λ {Z} t v k=>H1.rec (motive:=λ_=>B->(H1->Z)->Z) (λc0 c1 c2 c3 c4 c5 c6 c7 v k=>k (.mk c0 c1 v c3 c4 c5 c6 c7)) t v k)) (.mk (λt=>t.c3) (λ {Z} t v k=>H1.rec (motive:=λ_=>B->(H1->Z)->Z) (λc0 c1 c2 c3 c4 c5 c6 c7 v k=>k (.mk c0 c1 c2 v c4 c5 c6 c7)) t v k)) (.mk (λt=>t.c4) (λ {Z} t v k=>H1.rec (motive:=λ_=>B->(H1->Z)->Z) (λc0 c1 c2 c3 c4 c5 c6 c7 v k=>k (.mk c0 c1 c2 c3 v c5 c6 c7)) t v k)) (.mk (λt=>t.c5) (λ {Z} t v k=>H1.rec (motive:=λ_=>B->(H1->Z)->Z) (λc0 c1 c2 c3 c4 c5 c6 c7 v k=>k (.mk c0 c1 c2 c3 c4 v c6 c7)) t v k)) (.mk (λt=>t.c6) (λ {Z} t v k=>H1.rec (motive:=λ_=>B->(H1->Z)->Z) (λc0 c1 c2 c3 c4 c5 c6 c7 v k=>k (.mk c0 c1 c2 c3 c4 c5 v c7)) t v k)) (.mk (λt=>t.c7) (λ {Z} t v k=>H1.rec (motive:=λ_=>B->(H1->Z)->Z) (λc0 c1 c2 c3 c4 c5 c6 c7 v k=>k (.mk c0 c1 c2 c3 c4 c5 c6 v)) t v k)) (dg1 n)
structure P2 where
 mk::(g:H2->B) (s : {Z:Type}->H2->B->(H2->Z)->Z)
def p2 (n:Nat):P2:=D.rec (motive:=λ_=>P2) (.mk (λt=>(p1 n).g t.c0) (λ {Z} t v k=>H2.rec (motive:=λ_=>B->(H2->Z)->Z) (λc0 c1 c2 c3 c4 c5 c6 c7 v k=>(p1 n).s c0 v λy=>k (.mk y c1 c2 c3 c4 c5 c6 c7)) t v k)) (.mk (λt=>(p1 n).g t.c1) (λ {Z} t v k=>H2.rec (motive:=λ_=>B->(H2->Z)->Z) (λc0 c1 c2 c3 c4 c5 c6 c7 v k=>(p1 n).s c1 v λy=>k (.mk c0 y c2 c3 c4 c5 c6 c7)) t v k)) (.mk (λt=>(p1 n).g t.c2) (λ {Z} t v k=>H2.rec (motive:=λ_=>B->(H2->Z)->Z) (λc0 c1 c2 c3 c4 c5 c6 c7 v k=>(p1 n).s c2 v λy=>k (.mk c0 c1 y c3 c4 c5 c6 c7)) t v k)) (.mk (λt=>(p1 n).g t.c3) (λ {Z} t v k=>H2.rec (motive:=λ_=>B->(H2->Z)->Z) (λc0 c1 c2 c3 c4 c5 c6 c7 v k=>(p1 n).s c3 v λy=>k (.mk c0 c1 c2 y c4 c5 c6 c7)) t v k)) (.mk (λt=>(p1 n).g t.c4) (λ {Z} t v k=>H2.rec (motive:=λ_=>B->(H2->Z)->Z) (λc0 c1 c2 c3 c4 c5 c6 c7 v k=>(p1 n).s c4 v λy=>k (.mk c0 c1 c2 c3 y c5 c6 c7)) t v k)) (.mk (λt=>(p1 n).g t.c5) (λ {Z} t v k=>H2.rec (motive:=λ_=>B->(H2->Z)->Z) (λc0 c1 c2 c3 c4 c5 c6 c7 v k=>(p1 n).s c5 v λy=>k (.mk c0 c1 c2 c3 c4 y c6 c7)) t v k)) (.mk (λt=>(p1 n).g t.c6) (λ {Z} t v k=>H2.rec (motive:=λ_=>B->(H2->Z)->Z) (λc0 c1 c2 c3 c4 c5 c6 c7 v k=>(p1 n).s c6 v λy=>k (.mk c0 c1 c2 c3 c4 c5 y c7)) t v k)) (.mk (λt=>(p1 n).g t.c7) (λ {Z} t v k=>H2.rec (motive:=λ_=>B->(H2->Z)->Z) (λc0 c1 c2 c3 c4 c5 c6 c7 v k=>(p1 n).s c7 v λy=>k (.mk c0 c1 c2 c3 c4 c5 c6 y)) t v k)) (dg2 n)
structure P3 where
 mk::(g:H3->B) (s : {Z:Type}->H3->B->(H3->Z)->Z)
def p3 (n:Nat):P3:=D.rec (motive:=λ_=>P3) (.mk (λt=>(p2 n).g t.c0) (λ {Z} t v k=>H3.rec (motive:=λ_=>B->(H3->Z)->Z) (λc0 c1 c2 c3 c4 c5 c6 c7 v k=>(p2 n).s c0 v λy=>k (.mk y c1 c2 c3 c4 c5 c6 c7)) t v k)) (.mk (λt=>(p2 n).g t.c1) (λ {Z} t v k=>H3.rec (motive:=λ_=>B->(H3->Z)->Z) (λc0 c1 c2 c3 c4 c5 c6 c7 v k=>(p2 n).s c1 v λy=>k (.mk c0 y c2 c3 c4 c5 c6 c7)) t v k)) (.mk (λt=>(p2 n).g t.c2) (λ {Z} t v k=>H3.rec (motive:=λ_=>B->(H3->Z)->Z) (λc0 c1 c2 c3 c4 c5 c6 c7 v k=>(p2 n).s c2 v λy=>k (.mk c0 c1 y c3 c4 c5 c6 c7)) t v k)) (.mk (λt=>(p2 n).g t.c3) (λ {Z} t v k=>H3.rec (motive:=λ_=>B->(H3->Z)->Z) (λc0 c1 c2 c3 c4 c5 c6 c7 v k=>(p2 n).s c3 v λy=>k (.mk c0 c1 c2 y c4 c5 c6 c7)) t v k)) (.mk (λt=>(p2 n).g t.c4) (λ {Z} t v k=>H3.rec (motive:=λ_=>B->(H3->Z)->Z) (λc0 c1 c2 c3 c4 c5 c6 c7 v k=>(p2 n).s c4 v λy=>k (.mk c0 c1 c2 c3 y c5 c6 c7)) t v k)) (.mk (λt=>(p2 n).g t.c5) (λ {Z} t v k=>H3.rec (motive:=λ_=>B->(H3->Z)->Z) (λc0 c1 c2 c3 c4 c5 c6 c7 v k=>(p2 n).s c5 v λy=>k (.mk c0 c1 c2 c3 c4 y c6 c7)) t v k)) (.mk (λt=>(p2 n).g t.c6) (λ {Z} t v k=>H3.rec (motive:=λ_=>B->(H3->Z)->Z) (λc0 c1 c2 c3 c4 c5 c6 c7 v k=>(p2 n).s c6 v λy=>k (.mk c0 c1 c2 c3 c4 c5 y c7)) t v k)) (.mk (λt=>(p2 n).g t.c7) (λ {Z} t v k=>H3.rec (motive:=λ_=>B->(H3->Z)->Z) (λc0 c1 c2 c3 c4 c5 c6 c7 v k=>(p2 n).s c7 v λy=>k (.mk c0 c1 c2 c3 c4 c5 c6 y)) t v k)) (dg3 n)
structure P4 where
 mk::(g:H4->B) (s : {Z:Type}->H4->B->(H4->Z)->Z)
def p4 (n:Nat):P4:=D.rec (motive:=λ_=>P4) (.mk (λt=>(p3 n).g t.c0) (λ {Z} t v k=>H4.rec (motive:=λ_=>B->(H4->Z)->Z) (λc0 c1 c2 c3 c4 c5 c6 c7 v k=>(p3 n).s c0 v λy=>k (.mk y c1 c2 c3 c4 c5 c6 c7)) t v k)) (.mk (λt=>(p3 n).g t.c1) (λ {Z} t v k=>H4.rec (motive:=λ_=>B->(H4->Z)->Z) (λc0 c1 c2 c3 c4 c5 c6 c7 v k=>(p3 n).s c1 v λy=>k (.mk c0 y c2 c3 c4 c5 c6 c7)) t v k)) (.mk (λt=>(p3 n).g t.c2) (λ {Z} t v k=>H4.rec (motive:=λ_=>B->(H4->Z)->Z) (λc0 c1 c2 c3 c4 c5 c6 c7 v k=>(p3 n).s c2 v λy=>k (.mk c0 c1 y c3 c4 c5 c6 c7)) t v k)) (.mk (λt=>(p3 n).g t.c3) (λ {Z} t v k=>H4.rec (motive:=λ_=>B->(H4->Z)->Z) (λc0 c1 c2 c3 c4 c5 c6 c7 v k=>(p3 n).s c3 v λy=>k (.mk c0 c1 c2 y c4 c5 c6 c7)) t v k)) (.mk (λt=>(p3 n).g t.c4) (λ {Z} t v k=>H4.rec (motive:=λ_=>B->(H4->Z)->Z) (λc0 c1 c2 c3 c4 c5 c6 c7 v k=>(p3 n).s c4 v λy=>k (.mk c0 c1 c2 c3 y c5 c6 c7)) t v k)) (.mk (λt=>(p3 n).g t.c5) (λ {Z} t v k=>H4.rec (motive:=λ_=>B->(H4->Z)->Z) (λc0 c1 c2 c3 c4 c5 c6 c7 v k=>(p3 n).s c5 v λy=>k (.mk c0 c1 c2 c3 c4 y c6 c7)) t v k)) (.mk (λt=>(p3 n).g t.c6) (λ {Z} t v k=>H4.rec (motive:=λ_=>B->(H4->Z)->Z) (λc0 c1 c2 c3 c4 c5 c6 c7 v k=>(p3 n).s c6 v λy=>k (.mk c0 c1 c2 c3 c4 c5 y c7)) t v k)) (.mk (λt=>(p3 n).g t.c7) (λ {Z} t v k=>H4.rec (motive:=λ_=>B->(H4->Z)->Z) (λc0 c1 c2 c3 c4 c5 c6 c7 v k=>(p3 n).s c7 v λy=>k (.mk c0 c1 c2 c3 c4 c5 c6 y)) t v k)) (dg4 n)
structure P5 where
 mk::(g:H5->B) (s : {Z:Type}->H5->B->(H5->Z)->Z)
def p5 (n:Nat):P5:=D.rec (motive:=λ_=>P5) (.mk (λt=>(p4 n).g t.c0) (λ {Z} t v k=>H5.rec (motive:=λ_=>B->(H5->Z)->Z) (λc0 c1 c2 c3 c4 c5 c6 c7 v k=>(p4 n).s c0 v λy=>k (.mk y c1 c2 c3 c4 c5 c6 c7)) t v k)) (.mk (λt=>(p4 n).g t.c1) (λ {Z} t v k=>H5.rec (motive:=λ_=>B->(H5->Z)->Z) (λc0 c1 c2 c3 c4 c5 c6 c7 v k=>(p4 n).s c1 v λy=>k (.mk c0 y c2 c3 c4 c5 c6 c7)) t v k)) (.mk (λt=>(p4 n).g t.c2) (λ {Z} t v k=>H5.rec (motive:=λ_=>B->(H5->Z)->Z) (λc0 c1 c2 c3 c4 c5 c6 c7 v k=>(p4 n).s c2 v λy=>k (.mk c0 c1 y c3 c4 c5 c6 c7)) t v k)) (.mk (λt=>(p4 n).g t.c3) (λ {Z} t v k=>H5.rec (motive:=λ_=>B->(H5->Z)->Z) (λc0 c1 c2 c3 c4 c5 c6 c7 v k=>(p4 n).s c3 v λy=>k (.mk c0 c1 c2 y c4 c5 c6 c7)) t v k)) (.mk (λt=>(p4 n).g t.c4) (λ {Z} t v k=>H5.rec (motive:=λ_=>B->(H5->Z)->Z) (λc0 c1 c2 c3 c4 c5 c6 c7 v k=>(p4 n).s c4 v λy=>k (.mk c0 c1 c2 c3 y c5 c6 c7)) t v k)) (.mk (λt=>(p4 n).g t.c5) (λ {Z} t v k=>H5.rec (motive:=λ_=>B->(H5->Z)->Z) (λc0 c1 c2 c3 c4 c5 c6 c7 v k=>(p4 n).s c5 v λy=>k (.mk c0 c1 c2 c3 c4 y c6 c7)) t v k)) (.mk (λt=>(p4 n).g t.c6) (λ {Z} t v k=>H5.rec (motive:=λ_=>B->(H5->Z)->Z) (λc0 c1 c2 c3 c4 c5 c6 c7 v k=>(p4 n).s c6 v λy=>k (.mk c0 c1 c2 c3 c4 c5 y c7)) t v k)) (.mk (λt=>(p4 n).g t.c7) (λ {Z} t v k=>H5.rec (motive:=λ_=>B->(H5->Z)->Z) (λc0 c1 c2 c3 c4 c5 c6 c7 v k=>(p4 n).s c7 v λy=>k (.mk c0 c1 c2 c3 c4 c5 c6 y)) t v k)) (dg5 n)
def TV.get (t:TV) (n:Nat):AV:=TV.rec (motive:=λ_=>Nat->AV) (λx n=>(q1 n).g x) (λx n=>(q2 n).g x) (λx n=>(q3 n).g x) (λx n=>(q4 n).g x) t n
def TV.set {Z:Type} (t:TV) (n:Nat) (v:AV) (k:TV->Z):Z:=TV.rec (motive:=λ_=>Nat->AV->(TV->Z)->Z) (λx n v k=>(q1 n).s x v λy=>k (.s y)) (λx n v k=>(q2 n).s x v λy=>k (.t y)) (λx n v k=>(q3 n).s x v λy=>k (.m y)) (λx n v k=>(q4 n).s x v λy=>k (.l y)) t n v k
def TV.emp {Z:Type} (n:Nat) (k:TV->Option Z):Option Z:=
 Bool.rec (motive:=λ_=>Option Z) (Bool.rec (motive:=λ_=>Option Z) (Bool.rec (motive:=λ_=>Option Z) (Bool.rec (motive:=λ_=>Option Z) none (k (.l L4.e)) (Nat.ble n 4096)) (k (.m L3.e)) (Nat.ble n 512)) (k (.t L2.e)) (Nat.ble n 64)) (k (.s L1.e)) (Nat.ble n 8)
open Go.Lw
@[irreducible] noncomputable def Pr:Program:=Go.Proofs.Tryz.prog
abbrev KV:=AV->H->R
/-! ### Values -/
def of1 (v:Value):Option Sc:=match v with | .int k n=>some (.i k n) | .bool b=>some (.b b) | .agg _=>none | .tuple _=>none | v=>some (.o (.c v))
def ofL:List Value->Option (List Sc)
 | []=>some []
 | v::l=>match of1 v,ofL l with | some s,some r=>some (s::r) | _,_=>none
def ofV (v:Value):AV:=match v with | .int k n=>.x (.i k n) | .bool b=>.x (.b b) | .agg cs=>(match ofL cs.toList with | some l=>.a l | none=>.u) | .tuple _=>.u | v=>.x (.o (.c v))
def obn {Y Z:Type} (o:Option Y) (k:Y->Option Z):Option Z:=Option.rec (motive:=λ_=>Option Z) none (λy=>k y) o
def gd {Z:Type} (b:Bool) (x:Option Z):Option Z:=Bool.rec (motive:=λ_=>Option Z) none x b
def jV {Z:Type} (b:Bool) (x y:Option Z):Option Z:=Bool.rec (motive:=λ_=>Option Z) y x b
def asI_s {Z:Type} (s:Sc):(IntKind->Int->Option Z)->Option Z:=Sc.rec (motive:=λ_=>(IntKind->Int->Option Z)->Option Z) (λk n K=>K k n) (λ_ _=>none) (λ_ _ _=>none) (λ_ _=>none) s
def asI {Z:Type} (v:AV):(IntKind->Int->Option Z)->Option Z:=AV.rec (motive:=λ_=>(IntKind->Int->Option Z)->Option Z) (λs=>asI_s s) (λ_ _=>none) (λ_ _=>none) v
def asB_s {Z:Type} (s:Sc):(Bool->Option Z)->Option Z:=Sc.rec (motive:=λ_=>(Bool->Option Z)->Option Z) (λ_ _ _=>none) (λb K=>K b) (λ_ _ _=>none) (λ_ _=>none) s
def asB {Z:Type} (v:AV):(Bool->Option Z)->Option Z:=AV.rec (motive:=λ_=>(Bool->Option Z)->Option Z) (λs=>asB_s s) (λ_ _=>none) (λ_ _=>none) v
def asP_s {Z:Type} (s:Sc):(Nat->Nat->Option Z)->Option Z:=Sc.rec (motive:=λ_=>(Nat->Nat->Option Z)->Option Z) (λ_ _ _=>none) (λ_ _=>none) (λi o K=>K i o) (λ_ _=>none) s
def asP {Z:Type} (v:AV):(Nat->Nat->Option Z)->Option Z:=AV.rec (motive:=λ_=>(Nat->Nat->Option Z)->Option Z) (λs=>asP_s s) (λ_ _=>none) (λ_ _=>none) v
def asO_s {Z:Type} (s:Sc):(So->Option Z)->Option Z:=Sc.rec (motive:=λ_=>(So->Option Z)->Option Z) (λ_ _ _=>none) (λ_ _=>none) (λ_ _ _=>none) (λx K=>K x) s
def asO {Z:Type} (v:AV):(So->Option Z)->Option Z:=AV.rec (motive:=λ_=>(So->Option Z)->Option Z) (λs=>asO_s s) (λ_ _=>none) (λ_ _=>none) v
def asA {Z:Type} (v:AV):(List Sc->Option Z)->Option Z:=AV.rec (motive:=λ_=>(List Sc->Option Z)->Option Z) (λ_ _=>none) (λl K=>K l) (λ_ _=>none) v
def asT {Z:Type} (v:AV):(List (Sc ⊕ List Sc)->Option Z)->Option Z:=AV.rec (motive:=λ_=>(List (Sc ⊕ List Sc)->Option Z)->Option Z) (λ_ _=>none) (λ_ _=>none) (λl K=>K l) v
def frc_s {Z:Type} (s:Sc):(Sc->Z)->Z:=Sc.rec (motive:=λ_=>(Sc->Z)->Z) (λk n K=>K (.i k n)) (λb K=>K (.b b)) (λi o K=>K (.p i o)) (λx K=>K (.o x)) s
def frc {Z:Type} (v:AV):(AV->Z)->Z:=AV.rec (motive:=λ_=>(AV->Z)->Z) (λs K=>K (.x s)) (λl K=>K (.a l)) (λl K=>K (.t l)) v
def cel {Z:Type} (s:Sc):(Sc->Option Z)->Option Z:=Sc.rec (motive:=λ_=>(Sc->Option Z)->Option Z) (λk n K=>K (.i k n)) (λb K=>K (.b b)) (λi o K=>K (.p i o)) (λx K=>gd (So.rec (motive:=λ_=>Bool) false false (λ_ _ _ _=>true) (λ_ _ _ _=>true) (λ_=>true) (λ_=>true) (λ_=>true) true (λ_=>true) x) (K (.o x))) s
structure Ev where
 mk::(v:L3->AV)
def evO (x:Operand):Ev:=Operand.rec (motive:=λ_=>Ev) (λt=>.mk λτ=>(q3 t).g τ) (λv=>.mk λ_=>ofV v) (λg=>.mk λ_=>.u) (λf=>.mk λ_=>.x (.o (.c (.func (.func f) #[] #[])))) x
/-! ### Numbers -/
def kNo (k:IntKind):Nat:=IntKind.rec (motive:=λ_=>Nat) 0 1 2 3 4 5 6 7 k
def lim (k:IntKind):Nat:=IntKind.rec (motive:=λ_=>Nat) 128 32768 2147483648 9223372036854775808 256 65536 4294967296 18446744073709551616 k
def bts (k:IntKind):Nat:=IntKind.rec (motive:=λ_=>Nat) 8 16 32 64 8 16 32 64 k
def sgn (k:IntKind):Bool:=IntKind.rec (motive:=λ_=>Bool) true true true true false false false false k
def frcI (k:IntKind) (n:Int):Option AV:=Int.rec (motive:=λ_=>IntKind->Option AV) (λm k=>nat m λm=>some (.i k (.ofNat m))) (λm k=>nat m λm=>some (.i k (.negSucc m))) n k
def mkI (k:IntKind) (n:Int):Option AV:=
 Int.rec (motive:=λ_=>IntKind->Option AV)
  (λm k=>nat m λm=>jV (Nat.blt m (lim k)) (some (.i k (.ofNat m))) (frcI k (k.wrap (.ofNat m))))
  (λm k=>nat m λm=>jV (sgn k && Nat.blt m (lim k)) (some (.i k (.negSucc m))) (frcI k (k.wrap (.negSucc m)))) n k
def qO (x y:Int):Bool:=Int.rec (motive:=λ_=>Int->Bool) (λa y=>Int.rec (motive:=λ_=>Nat->Bool) (λb a=>Nat.ble a b) (λ_ _=>false) y a) (λa y=>Int.rec (motive:=λ_=>Nat->Bool) (λ_ _=>true) (λb a=>Nat.ble b a) y a) x y
def ieqB (x y:Int):Bool:=Int.rec (motive:=λ_=>Int->Bool) (λa y=>Int.rec (motive:=λ_=>Nat->Bool) (λb a=>Nat.beq a b) (λ_ _=>false) y a) (λa y=>Int.rec (motive:=λ_=>Nat->Bool) (λ_ _=>false) (λb a=>Nat.beq a b) y a) x y
def bl (b:Bool):Option AV:=Bool.rec (motive:=λ_=>Option AV) (some (.b false)) (some (.b true)) b
def blN (b:Bool):Option AV:=Bool.rec (motive:=λ_=>Option AV) (some (.b true)) (some (.b false)) b
def two {Z:Type} (x y:AV) (K:IntKind->Int->Int->Option Z):Option Z:=asI x λk a=>asI y λk' b=>gd (Nat.beq (kNo k) (kNo k')) (K k a b)
def nn {Z:Type} (a:Int) (K:Nat->Option Z):Option Z:=Int.rec (motive:=λ_=>(Nat->Option Z)->Option Z) (λa K=>K a) (λ_ _=>none) a K
def bitE (f:(n:Nat)->BitVec n->BitVec n->BitVec n) (k:IntKind) (a b:Int):Option AV:=frcI k (k.wrap ((f k.bits (BitVec.ofInt k.bits a) (BitVec.ofInt k.bits b)).toNat:Int))
/-! ### Equality -/
def lvF (g:TypeId->Option (List Nat)):List Field->Option (List Nat)
 | []=>some []
 | f::fs=>match tkB Pr f.type,g f.type,lvF g fs with
  | some z,some l,some r=>gd (f.name != "_" && l.all (λi=>Nat.blt i z.2)) (some (l.map (f.offset + ·)++r))
  | _,_,_=>none
def lvs:Nat->TypeId->Option (List Nat)
 | 0,_=>none
 | d+1,t=>match Pr.underlying t with
  | some (.int _)=>some [0]
  | some (.struct fs)=>jV (Pr.stoodInHeld t) none (lvF (lvs d) fs.toList)
  | some (.array n E)=>(match tkB Pr E,lvs d E with
   | some z,some l=>gd (l.all λi=>Nat.blt i z.2) (some ((List.range n).flatMap λi=>l.map (i*z.2 + ·)))
   | _,_=>none)
  | _=>none
def agB (t:TypeId):Option Nat:=match tkB Pr t with | some z=>(match lvs 8 t with | some l=>gd (z.1 && l == List.range z.2 && !Pr.eqGuardType Pr.depth t) (some z.2) | none=>none) | none=>none
inductive Cl | ag (n:Nat) | pt | sl | st
def clsB (t:TypeId):Option Cl:=match Pr.underlying t with
 | some (.pointer E)=>(match tkB Pr E with | some z=>jV (Nat.beq z.2 0) none (some .pt) | none=>none)
 | some (.slice _)=>some .sl
 | some .string=>some .st
 | some (.struct _)=>(agB t).map .ag
 | some (.array _ _)=>(agB t).map .ag
 | _=>none
def eqI (x y:Sc) (K:Bool->Option Bool):Option Bool:=Sc.rec (motive:=λ_=>Option Bool) (λk a=>Sc.rec (motive:=λ_=>Option Bool) (λk' b=>gd (Nat.beq (kNo k) (kNo k')) (K (ieqB a b))) (λ_=>none) (λ_ _=>none) (λ_=>none) y) (λ_=>none) (λ_ _=>none) (λ_=>none) x
def eqL (n:Nat) (l m:List Sc):Option Bool:=
 Nat.rec (motive:=λ_=>List Sc->List Sc->Option Bool) (λl m=>List.rec (motive:=λ_=>Option Bool) (List.rec (motive:=λ_=>Option Bool) (some true) (λ_ _ _=>none) m) (λ_ _ _=>none) l)
  (λ_ ih l m=>List.rec (motive:=λ_=>Option Bool) none (λx l _=>List.rec (motive:=λ_=>Option Bool) none (λy m _=>eqI x y λb=>jV b (ih l m) (some false)) m) l) n l m
def len {α:Type} (l:List α):Nat:=List.rec (motive:=λ_=>Nat) 0 (λ_ _ n=>Nat.succ n) l
def eqP (x y:Sc):Option Bool:=match x,y with
 | .p i o,.p j q=>gd (Nat.beq i j && Nat.beq o q) (some true)
 | .p ..,.o (.c (.pointer none))=>some false
 | .o (.c (.pointer none)),.p ..=>some false
 | .o (.c (.pointer none)),.o (.c (.pointer none))=>some true
 | _,_=>none
def eqS (x y:Sc):Option Bool:=match x,y with
 | .o (.s ..),.o (.c (.slice none _ _))=>some false
 | .o (.w ..),.o (.c (.slice none _ _))=>some false
 | .o (.c (.slice none _ _)),.o (.c (.slice none _ _))=>some true
 | _,_=>none
def eqT (x y:Sc):Option Bool:=match x,y with
 | .o (.c (.string s)),.o (.c (.string t))=>some (s == t)
 | _,_=>none
structure Be where
 mk::(g:AV->AV->Option Bool)
def xx (x y:AV) (K:Sc->Sc->Option Bool):Option Bool:=AV.rec (motive:=λ_=>Option Bool) (λx=>AV.rec (motive:=λ_=>Option Bool) (λy=>K x y) (λ_=>none) (λ_=>none) y) (λ_=>none) (λ_=>none) x
def eqE (t:TypeId):Be:=Option.rec (motive:=λ_=>Be) (.mk λx y=>xx x y λx y=>eqI x y some)
 (λc=>Cl.rec (motive:=λ_=>Be) (λn=>.mk λx y=>asA x λl=>asA y λm=>gd (Nat.beq (len l) n && Nat.beq (len m) n) (eqL n l m)) (.mk λx y=>xx x y eqP) (.mk λx y=>xx x y eqS) (.mk λx y=>xx x y eqT) c) (clsB t)
structure Bi where
 mk::(g:AV->AV->Option AV)
def addS (x y:AV):Option AV:=match x,y with
 | .x (.o (.c (.string s))),.x (.o (.c (.string t)))=>gd (Nat.blt (s.size+t.size) 9223372036854775808) (some (.x (.o (.c (.string (s++t))))))
 | x,y=>two x y λk a b=>mkI k (a+b)
def isSt (t:TypeId):Bool:=match Pr.underlying t with | some .string=>true | _=>false
def binE (op:BinOp) (t:TypeId):Bi:=BinOp.rec (motive:=λ_=>Bi) (Bool.rec (motive:=λ_=>Bi) (.mk λx y=>two x y λk a b=>mkI k (a+b)) (.mk addS) (isSt t)) (.mk λx y=>two x y λk a b=>mkI k (a-b)) (.mk λx y=>two x y λk a b=>mkI k (a*b)) (.mk λx y=>two x y λk a b=>gd (!ieqB b 0) (mkI k (Int.tdiv a b))) (.mk λx y=>two x y λk a b=>gd (!ieqB b 0) (frcI k (Int.tmod a b))) (.mk λx y=>two x y λk a b=>bitE (λ_ a b=>a &&& b) k a b) (.mk λx y=>two x y λk a b=>bitE (λ_ a b=>a ||| b) k a b) (.mk λx y=>two x y λk a b=>bitE (λ_ a b=>a ^^^ b) k a b) (.mk λx y=>asI x λk a=>asI y λ_ b=>nn a λa=>nn b λb=>gd (Nat.ble b (bts k)) (mkI k (.ofNat (Nat.shiftLeft a b)))) (.mk λx y=>asI x λk a=>asI y λ_ b=>nn a λa=>nn b λb=>gd (Nat.ble b (bts k)) (frcI k (.ofNat (Nat.shiftRight a b)))) (.mk λx y=>two x y λk a b=>bitE (λ_ a b=>a &&& ~~~b) k a b) (.mk λx y=>obn ((eqE t).g x y) bl) (.mk λx y=>obn ((eqE t).g x y) blN) (.mk λx y=>two x y λk a b=>blN (qO b a)) (.mk λx y=>two x y λk a b=>bl (qO a b)) (.mk λx y=>two x y λk a b=>blN (qO a b)) (.mk λx y=>two x y λk a b=>bl (qO b a)) op
structure Un where
 mk::(g:AV->Option AV)
def unE (op:UnOp):Un:=UnOp.rec (motive:=λ_=>Un) (.mk λx=>asI x λk a=>mkI k (0-a)) (.mk λ_=>none) (.mk λx=>asB x λb=>blN b) (.mk λ_=>none) op
/-! ### Memory -/
def hget (h:H) (id:Nat):B:=(p5 id).g h.t
def jd {Z:Type} (h:H) (id:Nat):(Nat->Nat->TV->Option Z)->Option Z:=B.rec (motive:=λ_=>(Nat->Nat->TV->Option Z)->Option Z) (λ_=>none) (λE n t K=>K E n t) (λE n t K=>K E n t) (λ_ _=>none) (hget h id)
def rowK (h:H) (id:Nat):(Nat->Nat->TV->R)->R:=B.rec (motive:=λ_=>(Nat->Nat->TV->R)->R) (λ_=>none) (λ_ _ _ _=>none) (λE n t K=>K E n t) (λ_ _=>none) (hget h id)
def blkO {Z:Type} (h:H) (id:Nat):(BO->Option Z)->Option Z:=B.rec (motive:=λ_=>(BO->Option Z)->Option Z) (λ_=>none) (λ_ _ _ _=>none) (λ_ _ _ _=>none) (λb K=>K b) (hget h id)
def editB (h:H) (id:Nat):(Nat->TV->(TV->B)->R)->R:=B.rec (motive:=λ_=>(Nat->TV->(TV->B)->R)->R) (λ_=>none) (λE n t K=>K n t (.c E n)) (λE n t K=>K n t (.r E n)) (λ_ _=>none) (hget h id)
def kF (h:H) (id:Nat) (b:B) (K:H->R):R:=H.rec (motive:=λ_=>R) (λnxt lo ac t=>(p5 id).s t b λt=>K (.mk nxt (bif Nat.ble lo id then lo else id) ac t)) h
def jc (h:H) (id:Nat) (b:B) (K:H->R):R:=H.rec (motive:=λ_=>R) (λnxt lo ac t=>(p5 id).s t b λt=>K (.mk nxt lo ac t)) h
def newB (h:H) (b:B) (K:Nat->H->R):R:=H.rec (motive:=λ_=>R) (λnxt lo ac t=>nat nxt λn=>jV (Nat.blt n 32768) ((p5 n).s t b λt=>K n (.mk (Nat.succ n) lo ac t)) none) h
def shut {Z:Type} (h:H) (a:Nat×Nat) (K:Nat->Nat->H->Z):Z:=H.rec (motive:=λ_=>Z) (λnxt lo ac t=>nat nxt λn=>K n lo (.mk n n a t)) h
def setLo {Z:Type} (h:H) (f:Nat->Nat) (a:Nat×Nat) (K:H->Z):Z:=H.rec (motive:=λ_=>Z) (λnxt lo _ t=>nat (f lo) λlo=>K (.mk nxt lo a t)) h
def okW (h:H) (id:Nat):Bool:=Nat.ble h.lo id || Nat.beq h.ac.1 (Nat.succ id) || Nat.beq h.ac.2 (Nat.succ id)
def scal {Z:Type} (v:AV) (K:Sc->Option Z):Option Z:=AV.rec (motive:=λ_=>(Sc->Option Z)->Option Z) (λs K=>frc_s s K) (λ_ _=>none) (λ_ _=>none) v K
def getL {Z:Type} (t:TV) (off n:Nat) (K:List Sc->Option Z):Option Z:=
 Nat.rec (motive:=λ_=>TV->Nat->(List Sc->Option Z)->Option Z) (λ_ _ K=>K []) (λ_ ih t off K=>nat off λoff=>scal (t.get off) λv=>ih t (Nat.succ off) λl=>K (v::l)) n t off K
def setL {Z:Type} (l:List Sc) (t:TV) (off:Nat) (K:TV->Option Z):Option Z:=
 List.rec (motive:=λ_=>TV->Nat->(TV->Option Z)->Option Z) (λt _ K=>K t) (λv _ ih t off K=>nat off λoff=>t.set off (.x v) λt=>ih t (Nat.succ off) K) l t off K
def cellsOf {Z:Type} (v:AV):(List Sc->Option Z)->Option Z:=AV.rec (motive:=λ_=>(List Sc->Option Z)->Option Z) (λs K=>cel s λs=>K [s]) (λl K=>K l) (λ_ _=>none) v
structure Ld where
 mk::(g:AV->H->Option AV)
def loadE (T:TypeId):Ld:=
 Option.rec (motive:=λ_=>Ld) (.mk λ_ _=>none) (λz=>Bool.rec (motive:=λ_=>Ld) (.mk λx h=>asP x λid off=>jd h id λE n t=>gd (Nat.blt off n) (scal (t.get off) λv=>some (.x v)))
  (.mk λx h=>asP x λid off=>jd h id λE n t=>gd (Nat.ble (off+z.2) n) (getL t off z.2 λl=>some (.a l))) z.1) (tkB Pr T)
structure St where
 mk::(g:AV->AV->H->(H->R)->R)
def storeE (T:TypeId):St:=Option.rec (motive:=λ_=>St) (.mk λ_ _ _ _=>none) (λz=>.mk λx v h K=>
 asP x λid off=>editB h id λn t mk=>cellsOf v λl=>gd (Nat.beq (len l) z.2 && Nat.ble (off+z.2) n) (setL l t off λt=>kF h id (mk t) K)) (tkB Pr T)
structure Al where
 mk::(b:B) (v:Nat->AV)
def cellsN (E:TypeId) (l:List Sc):Option B:=nat (len l) λn=>TV.emp n λt=>setL l t 0 λt=>some (.c E n t)
def rowN (E:TypeId) (l:List Sc):Option B:=nat (len l) λn=>TV.emp n λt=>setL l t 0 λt=>some (.r E n t)
structure Zr where
 mk::(g:Option (List Sc))
def zeroE (T:TypeId):Zr:=Option.rec (motive:=λ_=>Zr) (.mk none) (λv=>.mk (cellsOf (ofV v) some)) (zK Pr T)
structure Az where
 mk::(g:Option Al)
def allocE (E:TypeId):Az:=Option.rec (motive:=λ_=>Az) (.mk none) (λl=>Option.rec (motive:=λ_=>Az) (.mk none) (λb=>.mk (some (.mk b λid=>.x (.p id 0)))) (cellsN E l)) (zeroE E).g
def boxE (E:TypeId) (v:AV):Option Al:=cellsOf v λl=>obn (cellsN E l) λb=>some (.mk b λid=>.x (.p id 0))
def jE (S f:Nat):Un:=Option.rec (motive:=λ_=>Un) (.mk λ_=>none) (λk=>.mk λx=>asP x λid off=>nat (off+k) λo=>some (.x (.p id o))) (foB Pr S f)
def elB (X:TypeId):Option (Nat×Nat):=match Pr.underlying X with
 | some (.slice E)=>(tkB Pr E).map λz=>(E,z.2)
 | _=>none
def arB (X:TypeId):Option (Nat×Nat×Nat×Bool):=match Pr.underlying X with
 | some (.array n E)=>(tkB Pr E).map λz=>(n,E,z.2,z.1)
 | _=>none
def paB (X:TypeId):Option (Nat×Nat×Nat×Bool):=match Pr.underlying X with
 | some (.pointer A)=>arB A
 | _=>arB X
def idx {Z:Type} (i:Int) (len:Nat) (K:Nat->Option Z):Option Z:=Int.rec (motive:=λ_=>Nat->(Nat->Option Z)->Option Z) (λj len K=>gd (Nat.blt j len) (K j)) (λ_ _ _=>none) i len K
def el {Z:Type} (X:TypeId) (K:Nat->Nat->Option Z):Option Z:=Option.rec (motive:=λ_=>(Nat->Nat->Option Z)->Option Z) (λ_=>none) (λz K=>K z.1 z.2) (elB X) K
def ar {Z:Type} (X:TypeId) (K:Nat×Nat×Nat×Bool->Option Z):Option Z:=Option.rec (motive:=λ_=>(Nat×Nat×Nat×Bool->Option Z)->Option Z) (λ_=>none) (λz K=>K z) (arB X) K
def pa {Z:Type} (X:TypeId) (K:Nat×Nat×Nat×Bool->Option Z):Option Z:=Option.rec (motive:=λ_=>(Nat×Nat×Nat×Bool->Option Z)->Option Z) (λ_=>none) (λz K=>K z) (paB X) K
def iaO (x:So):TypeId->Int->Option AV:=So.rec (motive:=λ_=>TypeId->Int->Option AV) (λ_ _=>none) (λ_ _=>none) (λid off n _ X j=>el X λ_ s=>idx j n λj=>nat (off+j*s) λo=>some (.x (.p id o))) (λid off n _ X j=>el X λ_ s=>idx j n λj=>nat (off+j*s) λo=>some (.x (.p id o))) (λ_ _ _=>none) (λ_ _ _=>none) (λ_ _ _=>none) (λ_ _=>none) (λ_ _ _=>none) x
def iaS (x:Sc):TypeId->Int->Option AV:=Sc.rec (motive:=λ_=>TypeId->Int->Option AV) (λ_ _ _ _=>none) (λ_ _ _=>none) (λid off X j=>ar X λq=>idx j q.1 λj=>nat (off+j*q.2.2.1) λo=>some (.x (.p id o))) (λx=>iaO x) x
def iaE (x:AV):TypeId->Int->Option AV:=AV.rec (motive:=λ_=>TypeId->Int->Option AV) (λs=>iaS s) (λ_ _ _=>none) (λ_ _ _=>none) x
def indexAddrE (X:TypeId) (x y:AV):Option AV:=asI y λ_ j=>iaE x X j
def drp {α:Type} (l:List α) (n:Nat):List α:=Nat.rec (motive:=λ_=>List α->List α) (λl=>l) (λ_ ih l=>List.rec (motive:=λ_=>List α) [] (λ_ l _=>ih l) l) n l
def tke {Z:Type} (l:List Sc) (n:Nat) (K:List Sc->Option Z):Option Z:=Nat.rec (motive:=λ_=>List Sc->(List Sc->Option Z)->Option Z) (λ_ K=>K []) (λ_ ih l K=>List.rec (motive:=λ_=>Option Z) none (λv l _=>ih l λr=>K (v::r)) l) n l K
def hdE (l:List Sc):Option AV:=List.rec (motive:=λ_=>Option AV) none (λv _ _=>frc_s v λv=>some (.x v)) l
def prt (ag:Bool) (off s:Nat) (l:List Sc):Option AV:=
 Bool.rec (motive:=λ_=>Nat->Nat->List Sc->Option AV) (λoff _ l=>hdE (drp l off)) (λoff s l=>tke (drp l off) s λr=>some (.a r)) ag off s l
def fdB (S f:Nat):Option (Nat×Bool×Nat):=match Pr.underlying S with
 | some (.struct fs)=>match fs[f]? with
  | some fd=>(tkB Pr fd.type).map λz=>(fd.offset,z.1,z.2)
  | none=>none
 | _=>none
def fieldE (S f:Nat):Un:=Option.rec (motive:=λ_=>Un) (.mk λ_=>none) (λz=>.mk λx=>asA x λl=>prt z.2.1 z.1 z.2.2 l) (fdB S f)
def byteAt (s:ByteArray) (j:Nat):Option Nat:=(s[j]?).map (·.toNat)
def ixV (v:Value) (j:Int):Option AV:=match v with | .string s=>idx j s.size λj=>(match byteAt s j with | some b=>nat b λb=>some (.i .u8 (.ofNat b)) | none=>none) | _=>none
def ixO (x:So):Int->Option AV:=So.rec (motive:=λ_=>Int->Option AV) (λ_=>none) (λ_=>none) (λ_ _ _ _ _=>none) (λ_ _ _ _ _=>none) (λ_ _=>none) (λ_ _=>none) (λ_ _=>none) (λ_=>none) (λv j=>ixV v j) x
def ixS (x:Sc):Int->Option AV:=Sc.rec (motive:=λ_=>Int->Option AV) (λ_ _ _=>none) (λ_ _=>none) (λ_ _ _=>none) (λx=>ixO x) x
def ixE (x:AV):TypeId->Int->Option AV:=AV.rec (motive:=λ_=>TypeId->Int->Option AV) (λs X j=>gd (isSt X) (ixS s j)) (λl X j=>ar X λq=>idx j q.1 λj=>prt q.2.2.2 (j*q.2.2.1) q.2.2.1 l) (λ_ _ _=>none) x
def indexE (X:TypeId) (x y:AV):Option AV:=asI y λ_ j=>ixE x X j
def plB (X:TypeId) (i:Nat):Option (Nat×Nat):=match Pr.underlying X with
 | some (.struct fs)=>gd (fs.toList.all λf=>(tkB Pr f.type).isSome) (match fs[i]? with | some fd=>(tkB Pr fd.type).map λz=>(fd.offset,z.2) | none=>none)
 | some (.array _ E)=>(tkB Pr E).map λz=>(i*z.2,z.2)
 | some (.slice E)=>(tkB Pr E).map λz=>(i*z.2,z.2)
 | _=>none
def app {α:Type} (a b:List α):List α:=List.rec (motive:=λ_=>List α->List α) (λb=>b) (λv _ ih b=>v::ih b) a b
def spl {Z:Type} (off:Nat) (cs l:List Sc) (K:List Sc->Option Z):Option Z:=tke l off λa=>gd (Nat.ble (off+len cs) (len l)) (K (app a (app cs (drp l (off+len cs)))))
def fillE {Z:Type} (X:TypeId) (τ:L3) (ps:List (Nat×Operand)) (l:List Sc) (K:List Sc->Option Z):Option Z:=
 List.rec (motive:=λ_=>TypeId->L3->List Sc->(List Sc->Option Z)->Option Z) (λ_ _ l K=>K l) (λp _ ih X τ l K=>Option.rec (motive:=λ_=>Option Z) none (λz=>cellsOf ((evO p.2).v τ) λcs=>gd (Nat.beq (len cs) z.2) (spl z.1 cs l λl=>ih X τ l K)) (plB X p.1)) ps X τ l K
def aggT (t:TypeId):Bool:=match Pr.underlying t with | some (.struct fs)=>fs.toList.all λf=>(tkB Pr f.type).isSome | some (.array _ E)=>(tkB Pr E).isSome | _=>false
def buildE (X:TypeId) (ps:List (Nat×Operand)) (τ:L3):Option AV:=gd (aggT X) (obn (zeroE X).g λl=>fillE X τ ps l λl=>some (.a l))
def repL (l:List Sc) (m:Nat):List Sc:=Nat.rec (motive:=λ_=>List Sc) [] (λ_ ih=>app l ih) m
def jH (X:TypeId) (m:Nat) (ps:List (Nat×Operand)) (τ:L3):Option Al:=
 el X λE s=>gd (Nat.ble (m*s) 4096) (obn (zeroE E).g λl=>gd (Nat.beq (len l) s) (fillE X τ ps (repL l m) λl=>obn (cellsN E l) λb=>some (.mk b λid=>.x (.o (.s id 0 m m)))))
def szB (E:TypeId):Bool:=match rowB Pr E with | some t=>Nat.ble t.2.2 1073741824 && Nat.blt 0 t.2.1 && Nat.beq t.1.cells.size t.2.1 | none=>false
def makeSliceE (X:TypeId) (x y:AV):Option Al:=
 el X λE s=>asI x λ_ a=>asI y λ_ b=>nn a λa=>nn b λb=>gd (Nat.ble a b && Nat.ble b 100000 && szB E) (obn (zeroE E).g λl=>gd (Nat.beq (len l) s) (obn (cellsN E (repL l b)) λbk=>some (.mk bk λid=>.x (.o (.s id 0 a b)))))
def qf {Z:Type} (x:Option Operand) (τ:L3) (d:Nat) (K:Nat->Option Z):Option Z:=
 Option.rec (motive:=λ_=>L3->Nat->(Nat->Option Z)->Option Z) (λ_ d K=>K d) (λo τ d K=>asI ((evO o).v τ) λ_ n=>nn n λn=>K n) x τ d K
def bgn (off l m s:Nat):Nat:=off+Nat.rec (motive:=λ_=>Nat) 0 (λ_ _=>l*s) (m-l)
def cut (id off s l u m:Nat):Option AV:=nat (bgn off l m s) λo=>nat (u-l) λn=>nat (m-l) λc=>some (.x (.o (.s id o n c)))
def slV (v:Value) (X:TypeId) (lo hi mx:Option Operand) (τ:L3):Option AV:=match v with
 | .slice none 0 0=>el X λ_ _=>qf lo τ 0 λl=>qf hi τ 0 λu=>qf mx τ 0 λm=>gd (Nat.beq (l+u+m) 0) (some (.x (.o (.c (.slice none 0 0)))))
 | .string s=>gd (isSt X) (match mx with | none=>qf lo τ 0 λl=>qf hi τ s.size λu=>gd (Nat.ble l u && Nat.ble u s.size) (some (.x (.o (.c (.string (s.extract l u)))))) | some _=>none)
 | _=>none
def slO (x:So):TypeId->Option Operand->Option Operand->Option Operand->L3->Option AV:=So.rec (motive:=λ_=>TypeId->Option Operand->Option Operand->Option Operand->L3->Option AV) (λ_ _ _ _ _=>none) (λ_ _ _ _ _=>none) (λid off len cap X lo hi mx τ=>el X λ_ s=>qf lo τ 0 λl=>qf hi τ len λu=>qf mx τ cap λm=>gd (Nat.ble l u && Nat.ble u m && Nat.ble m cap) (cut id off s l u m)) (λid off len ct X lo hi mx τ=>el X λ_ s=>qf lo τ 0 λl=>qf hi τ len λu=>Option.rec (motive:=λ_=>Option AV) (gd (Nat.ble l u && Nat.ble u len) (jV (Nat.blt l len || Nat.beq l 0) (nat (off+l*s) λo=>nat (u-l) λn=>nat (ct+l) λc=>some (.x (.o (.w id o n c)))) (some (.x (.o .e))))) (λmo=>qf (some mo) τ 0 λm=>gd (Nat.ble l u && Nat.ble u m && Nat.ble m len) (cut id off s l u m)) mx) (λ_ _ _ _ _ _=>none) (λ_ _ _ _ _ _=>none) (λ_ _ _ _ _ _=>none) (λX lo hi mx τ=>el X λ_ _=>qf lo τ 0 λl=>qf hi τ 0 λu=>Option.rec (motive:=λ_=>Option AV) (gd (Nat.beq (l+u) 0) (some (.x (.o .e)))) (λ_=>none) mx) (λv X lo hi mx τ=>slV v X lo hi mx τ) x
def slS (x:Sc):TypeId->Option Operand->Option Operand->Option Operand->L3->Option AV:=Sc.rec (motive:=λ_=>TypeId->Option Operand->Option Operand->Option Operand->L3->Option AV) (λ_ _ _ _ _ _ _=>none) (λ_ _ _ _ _ _=>none) (λid off X lo hi mx τ=>pa X λq=>qf lo τ 0 λl=>qf hi τ q.1 λu=>qf mx τ q.1 λm=>gd (Nat.ble l u && Nat.ble u m && Nat.ble m q.1) (cut id off q.2.2.1 l u m)) (λx=>slO x) x
def sliceV (x:AV):TypeId->Option Operand->Option Operand->Option Operand->L3->Option AV:=AV.rec (motive:=λ_=>TypeId->Option Operand->Option Operand->Option Operand->L3->Option AV) (λs=>slS s) (λ_ _ _ _ _ _=>none) (λ_ _ _ _ _ _=>none) x
def okM (hi mx:Option Operand):Bool:=match hi,mx with | none,some _=>false | _,_=>true
def sliceE (x:AV) (X:TypeId) (lo hi mx:Option Operand) (τ:L3):Option AV:=gd (okM hi mx) (sliceV x X lo hi mx τ)
def nlV {Z:Type} (v:Value) (K:Option Z):Option Z:=match v with | .slice none 0 0=>K | _=>none
def lnV (v:Value):Option AV:=match v with | .slice none 0 0=>some (.i .i64 (.ofNat 0)) | .string s=>nat s.size λn=>gd (Nat.blt n 9223372036854775808) (some (.i .i64 (.ofNat n))) | .map none=>some (.i .i64 (.ofNat 0)) | _=>none
def iLn (n:Nat):Option AV:=gd (Nat.blt n 9223372036854775808) (some (.i .i64 (.ofNat n)))
def lnO (x:So):H->Option AV:=So.rec (motive:=λ_=>H->Option AV) (λ_=>none) (λ_=>none) (λ_ _ l _ h=>iLn l) (λ_ _ l _ h=>iLn l) (λid h=>blkO h id λb=>(match b with | .m l=>nat (len l) λn=>iLn n | _=>none)) (λ_ _=>none) (λ_ _=>none) (λ_=>iLn 0) (λv h=>lnV v) x
def cpO (x:So):Option AV:=So.rec (motive:=λ_=>Option AV) (none) (none) (λ_ _ _ c=>iLn c) (λ_ _ _ _=>none) (λ_=>none) (λ_=>none) (λ_=>none) (none) (λv=>nlV v (iLn 0)) x
def csE {Z:Type} (id off l s:Nat) (h:H) (K:Nat->List Sc->Option Z):Option Z:=Nat.rec (motive:=λ_=>Option Z) (K 0 []) (λ_ _=>jd h id λE n t=>gd (Nat.ble (off+l*s) n) (getL t off (l*s) λr=>K l r)) l
def cellsS {Z:Type} (x:So):Nat->H->(Nat->List Sc->Option Z)->Option Z:=So.rec (motive:=λ_=>Nat->H->(Nat->List Sc->Option Z)->Option Z) (λ_ _ _=>none) (λ_ _ _=>none) (λid off l _ s h K=>csE id off l s h K) (λid off l _ s h K=>csE id off l s h K) (λ_ _ _ _=>none) (λ_ _ _ _=>none) (λ_ _ _ _=>none) (λ_ _ K=>K 0 []) (λv _ h K=>nlV v (K 0 [])) x
def stV {Z:Type} (v:Value) (K:Nat->List Sc->Option Z):Option Z:=match v with | .string s=>nat s.size λn=>K n (s.toList.map λb=>.i .u8 (.ofNat b.toNat)) | _=>none
def fits (n m:Nat):Bool:=Nat.ble m 8 || (Nat.blt 8 n && Nat.ble m 64) || (Nat.blt 64 n && Nat.ble m 512) || (Nat.blt 512 n && Nat.ble m 4096)
def newV (h:H) (b:Option B) (v:Nat->AV) (K:KV):R:=obn b λb=>newB h b λid h=>K (v id) h
def apO (x:So):Nat->Nat->Nat->List Sc->H->KV->R:=So.rec (motive:=λ_=>Nat->Nat->Nat->List Sc->H->KV->R) (λ_ _ _ _ _ _=>none) (λ_ _ _ _ _ _=>none) (λid off l c E s m new h K=>jV (Nat.ble (l+m) c) (editB h id λn t mk=>gd (Nat.ble (off+(l+m)*s) n) (setL new t (off+l*s) λt=>kF h id (mk t) λh=>nat (l+m) λlm=>K (.x (.o (.s id off lm c))) h)) (csE id off l s h λ_ old=>nat (l+m) λlm=>newV h (rowN E (app old new)) (λid=>.x (.o (.w id 0 lm 0))) K)) (λid off l c E s m new h K=>rowK h id λE' n t=>gd (Nat.beq E' E && Nat.beq off (c*s) && Nat.blt 0 s) (jV (Nat.ble (off+(l+m)*s) n) (setL new t (off+l*s) λt=>kF h id (.r E n t) λh=>nat (l+m) λlm=>K (.x (.o (.w id off lm c))) h) (gd (Nat.beq off 0 && Nat.beq c 0 && Nat.ble (l*s) n) (kF h id .x λh=>nat ((l+m)*s) λn'=>Bool.rec (motive:=λ_=>R) (TV.emp n' λt'=>getL t 0 (l*s) λold=>setL old t' 0 λt=>setL new t (l*s) λt=>newB h (.r E n' t) λid h=>nat (l+m) λlm=>K (.x (.o (.w id 0 lm 0))) h) (setL new t n λt=>newB h (.r E n' t) λid h=>nat (l+m) λlm=>K (.x (.o (.w id 0 lm 0))) h) (Nat.beq (l*s) n && fits n n'))))) (λ_ _ _ _ _ _ _=>none) (λ_ _ _ _ _ _ _=>none) (λ_ _ _ _ _ _ _=>none) (λ_ _ _ _ _ _=>none) (λv E s m new h K=>nlV v (nat m λm=>newV h (rowN E new) (λid=>.x (.o (.w id 0 m 0))) K)) x
def apZ (x:So):H->KV->R:=So.rec (motive:=λ_=>H->KV->R) (λ_ _=>none) (λ_ _=>none) (λid off l c h K=>gd (Nat.ble l c) (K (.x (.o (.s id off l c))) h)) (λid off l c h K=>K (.x (.o (.w id off l c))) h) (λ_ _ _=>none) (λ_ _ _=>none) (λ_ _ _=>none) (λh K=>K (.x (.o .e)) h) (λv h K=>nlV v (K (.x (.o (.c v))) h)) x
def appW (E s:Nat) (x:AV) (m:Nat) (new:List Sc) (h:H) (K:KV):R:=Nat.rec (motive:=λ_=>R) (asO x λx=>apZ x h K) (λ_ _=>gd (Nat.ble (m*s) 4096) (asO x λx=>apO x E s m new h K)) m
def isB (E:TypeId):Bool:=match Pr.underlying E with | some (.int .u8)=>true | _=>false
structure Ap where
 mk::(g:AV->AV->H->KV->R)
def apK (Y:TypeId):Nat:=match Pr.underlying Y with | some (.int _)=>0 | some .string=>1 | some (.slice _)=>2 | _=>3
def apdE (X Y:TypeId):Ap:=Option.rec (motive:=λ_=>Ap) (.mk λ_ _ _ _=>none) (λe=>Bool.rec (motive:=λ_=>Ap) (.mk λ_ _ _ _=>none) (
 Nat.rec (motive:=λ_=>Ap) (Option.rec (motive:=λ_=>Ap) (.mk λ_ _ _ _=>none) (λz=>.mk λx y h K=>asI y λ_ n=>nn n λm=>gd (Nat.beq (len z) e.2 && Nat.blt 0 m && Nat.ble (m*e.2) 4096) (asO x λx=>(match x with | .c v=>nlV v (nat m λm=>newV h (rowN e.1 (repL z m)) (λid=>.x (.o (.w id 0 m 0))) K) | _=>none))) (zeroE e.1).g)
  (λk _=>Nat.rec (motive:=λ_=>Ap) (.mk λx y h K=>gd (isB e.1 && Nat.beq e.2 1) (asO y λy=>(match y with | .c v=>stV v λm new=>appW e.1 e.2 x m new h K | _=>none)))
   (λk _=>Nat.rec (motive:=λ_=>Ap) (.mk λx y h K=>asO y λy=>cellsS y e.2 h λm new=>appW e.1 e.2 x m new h K) (λ_ _=>.mk λ_ _ _ _=>none) k) k) (apK Y)) (szB e.1)) (elB X)
def storeL (id off:Nat) (l:List Sc) (h:H) (K:H->R):R:=editB h id λn t mk=>gd (Nat.ble (off+len l) n) (setL l t off λt=>kF h id (mk t) K)
def cpE (id off l m s:Nat) (new:List Sc) (h:H) (K:KV):R:=nat (bif Nat.ble l m then l else m) λq=>Nat.rec (motive:=λ_=>R) (obn (iLn 0) λv=>K v h) (λ_ _=>tke new (q*s) λnew=>storeL id off new h λh=>obn (iLn q) λv=>K v h) q
def cpyO (x:So):Nat->Nat->List Sc->H->KV->R:=So.rec (motive:=λ_=>Nat->Nat->List Sc->H->KV->R) (λ_ _ _ _ _=>none) (λ_ _ _ _ _=>none) (λid off l _ s m new h K=>cpE id off l m s new h K) (λid off l _ s m new h K=>cpE id off l m s new h K) (λ_ _ _ _ _ _=>none) (λ_ _ _ _ _ _=>none) (λ_ _ _ _ _ _=>none) (λ_ _ _ _ _=>none) (λv s m new h K=>nlV v (obn (iLn 0) λv=>K v h)) x
def copyE (X:TypeId) (x y:AV) (h:H) (K:KV):R:=el X λE s=>asO y λy=>cellsS y s h λm new=>asO x λx=>cpyO x s m new h K
def clE (id off l:Nat) (X:TypeId) (h:H) (K:KV):R:=el X λE s=>obn (zeroE E).g λq=>Nat.rec (motive:=λ_=>R) (K (.t []) h) (λ_ _=>gd (Nat.beq (len q) s) (storeL id off (repL q l) h λh=>K (.t []) h)) l
def clO (x:So):TypeId->H->KV->R:=So.rec (motive:=λ_=>TypeId->H->KV->R) (λ_ _ _=>none) (λ_ _ _=>none) (λid off l _ X h K=>clE id off l X h K) (λid off l _ X h K=>clE id off l X h K) (λ_ _ _ _=>none) (λ_ _ _ _=>none) (λ_ _ _ _=>none) (λ_ _ _=>none) (λv X h K=>nlV v (el X λ_ _=>K (.t []) h)) x
/-! ### Maps -/
def kyB (X:TypeId):Option (TypeId×TypeId):=match Pr.underlying X with | some (.map K V)=>some (K,V) | _=>none
structure My where
 mk::(n:Nat) (eq:AV->AV->Option Bool) (z:AV)
def kiB (t:TypeId):Option Nat:=match Pr.underlying t with | some (.int _)=>some 0 | _=>(agB t).map (· + 1)
def jT (n:Nat) (x y:AV):Option Bool:=Nat.rec (motive:=λ_=>Option Bool) (xx x y λx y=>eqI x y some) (λn _=>asA x λl=>asA y λm=>gd (Nat.beq (len l) n && Nat.beq (len m) n) (eqL n l m)) n
def nums (l:List Sc):Bool:=List.rec (motive:=λ_=>Bool) true (λs _ ih=>Sc.rec (motive:=λ_=>Bool) (λ_ _=>ih) (λ_=>false) (λ_ _=>false) (λ_=>false) s) l
def ko {Z:Type} (n:Nat) (y:AV) (K:AV->Option Z):Option Z:=Nat.rec (motive:=λ_=>Option Z) (asI y λk a=>K (.i k a)) (λn _=>asA y λl=>gd (Nat.beq (len l) n && nums l) (K (.a l))) n
def mapK (X:TypeId):Option My:=Option.rec (motive:=λ_=>Option My) none (λq=>Option.rec (motive:=λ_=>Option My) none (λn=>Option.rec (motive:=λ_=>Option My) none (λz=>some (.mk n (jT n) (ofV z))) (zK Pr q.2)) (kiB q.1)) (kyB X)
def findM (eq:AV->AV->Option Bool) (k:AV) (l:List (AV×AV)):Option (Option AV):=
 List.rec (motive:=λ_=>Option (Option AV)) (some none) (λe _ ih=>obn (eq k e.1) λb=>jV b (some (some e.2)) ih) l
def putM (eq:AV->AV->Option Bool) (k v:AV) (l:List (AV×AV)):Option (List (AV×AV)):=
 List.rec (motive:=λ_=>Option (List (AV×AV))) (some [(k,v)]) (λe l ih=>obn (eq k e.1) λb=>jV b (some ((k,v)::l)) (obn ih λr=>some (e::r))) l
def delM (eq:AV->AV->Option Bool) (k:AV) (l:List (AV×AV)):Option (List (AV×AV)):=
 List.rec (motive:=λ_=>Option (List (AV×AV))) (some []) (λe l ih=>obn (eq k e.1) λb=>jV b (some l) (obn ih λr=>some (e::r))) l
def asM {Z:Type} (x:AV) (K:Nat->Option Z):Option Z:=asO x λx=>(match x with | .m id=>K id | _=>none)
def mapB {Z:Type} (h:H) (id:Nat) (K:List (AV×AV)->Option Z):Option Z:=blkO h id λb=>(match b with | .m l=>K l | _=>none)
def toSum {Z:Type} (v:AV) (K:Sc ⊕ List Sc->Option Z):Option Z:=AV.rec (motive:=λ_=>(Sc ⊕ List Sc->Option Z)->Option Z) (λs K=>K (.inl s)) (λl K=>K (.inr l)) (λ_ _=>none) v K
def lkV (ok b:Bool) (v:AV):Option AV:=jV ok (toSum v λv=>some (.t [v,.inl (.b b)])) (some v)
def lookupE (X:TypeId) (x y:AV) (ok:Bool) (h:H):Option AV:=obn (mapK X) λk=>ko k.n y λy=>asM x λid=>mapB h id λl=>obn (findM k.eq y l) λo=>Option.rec (motive:=λ_=>Option AV) (lkV ok false k.z) (λv=>lkV ok true v) o
def updE (X:TypeId) (x y v:AV) (h:H) (K:H->R):R:=obn (mapK X) λk=>ko k.n y λy=>asM x λid=>mapB h id λl=>obn (putM k.eq y v l) λl=>kF h id (.o (.m l)) K
def delE (X:TypeId) (x y:AV) (h:H) (K:H->R):R:=obn (mapK X) λk=>ko k.n y λy=>asM x λid=>blkO h id λb=>(match b with
 | .m l=>obn (delM k.eq y l) λl=>kF h id (.o (.m l)) K
 | .g key gone l=>obn (k.eq y key) λb=>gd (b && !gone && okW h id) (jc h id (.o (.g key true l)) K)
 | _=>none)
def isMp (X:TypeId):Bool:=match Pr.underlying X with | some (.map _ _)=>true | _=>false
def rangeE (x:AV) (h:H) (K:KV):R:=asM x λmid=>mapB h mid λl=>kF h mid (.o .h) λh=>newB h (.o (.i mid l)) λid h=>K (.x (.p id 0)) h
def both (a b:R):R:=obn a λl=>obn b λm=>some (app l m)
def nxF:AV:=.t [.inl (.b false)]
def nxT (k v:AV) (K:AV->R):R:=toSum k λk=>toSum v λv=>K (.t [.inl (.b true),k,v])
def eachB (pre rem:List (AV×AV)) (K:AV×AV->List (AV×AV)->R):R:=
 List.rec (motive:=λ_=>List (AV×AV)->R) (λ_=>some []) (λe r ih pre=>both (K e (app pre r)) (ih (app pre [e]))) rem pre
def stepB (id m:Nat) (l rem:List (AV×AV)) (h:H) (K:KV):R:=
 List.rec (motive:=λ_=>R) (kF h id (.o .z) λh=>kF h m (.o (.m l)) λh=>K nxF h) (λ_ _ _=>eachB [] rem λe r=>kF h id (.o (.c m e.1 e.2 l r)) λh=>nxT e.1 e.2 λv=>K v h) rem
def shpK (k:AV):Option Nat:=match k with | .x (.i _ _)=>some 0 | .a l=>some (Nat.succ (len l)) | _=>none
def neK (n:Nat) (k:AV) (l:List (AV×AV)):Bool:=List.rec (motive:=λ_=>Bool) true (λe _ ih=>match jT n k e.1,jT n e.1 k with | some false,some false=>ih | _,_=>false) l
def dstK (l:List (AV×AV)):Bool:=List.rec (motive:=λ_=>Bool) true (λe l ih=>match shpK e.1 with | some n=>neK n e.1 l && ih | none=>false) l
def eachJ (l:List ((AV×AV)×Bool)) (K:Nat->(AV×AV)×Bool->R) (E:R) (i:Nat):R:=List.rec (motive:=λ_=>Nat->R) (λ_=>E) (λe _ ih i=>both (K i e) (ih (Nat.succ i))) l i
def stay (l:List ((AV×AV)×Bool)):List (AV×AV):=List.rec (motive:=λ_=>List (AV×AV)) [] (λe _ ih=>Bool.rec (motive:=λ_=>List (AV×AV)) ih (e.1::ih) e.2) l
def nextO (id:Nat) (b:BO) (h:H) (K:KV):R:=match b with
 | .i m l=>stepB id m l l h K
 | .b m l rem=>stepB id m l rem h K
 | .c m _ _ l rem=>stepB id m l rem h K
 | .j m l x=>gd (okW h id && okW h m) (eachJ l (λi e=>jc h id (.o (.k m e.1.1 e.1.2 l e.2 x (Nat.beq x (Nat.succ i)))) λh=>jc h m (.o (.g e.1.1 false l)) λh=>nxT e.1.1 e.1.2 λv=>K v h) (Bool.rec (motive:=λ_=>R) (gd (Nat.ble x (len l)) (some [])) (jc h id (.o .z) λh=>jc h m (.o (.m (stay l))) λh=>K nxF h) (Nat.beq x 0)) 0)
 | .q m k v=>jc h id (.o (.k m k v [] true 0 false)) λh=>jc h m (.o (.g k false [])) λh=>nxT k v λv=>K v h
 | _=>none
def nextE (x:AV) (h:H) (K:KV):R:=asP x λid off=>gd (Nat.beq off 0) (blkO h id λb=>nextO id b h K)
end Go.Ev
namespace Go.Ev
structure Orc where
 mk::(g:List AV->H->KV->R)
def Mg (f:FuncId):Nat:=bif Nat.beq f 243 then 1 else bif Nat.beq f 576 then 1 else bif Nat.beq f 309 then 2 else 0
open Go.Lw
abbrev KC:=Ex->L3->H->R
structure IH where
 mk::(run:Code->L3->H->KC->R) (oc:FuncId->Option Orc)
abbrev KO:=L3->H->R
def evL {Z:Type} (l:List Operand) (τ:L3) (K:List AV->Option Z):Option Z:=
 List.rec (motive:=λ_=>L3->(List AV->Option Z)->Option Z) (λ_ K=>K []) (λo _ ih τ K=>frc ((evO o).v τ) λv=>ih τ λr=>K (v::r)) l τ K
def resE (l:List ResultVar) (τ:L3) (h:H) (K:List AV->R):R:=
 List.rec (motive:=λ_=>L3->H->(List AV->R)->R) (λ_ _ K=>K []) (λo _ ih τ h K=>ResultVar.rec (motive:=λ_=>R) (λt=>frc ((q3 t).g τ) λv=>ih τ h λr=>K (v::r)) (λt T=>obn ((loadE T).g ((q3 t).g τ) h) λv=>ih τ h λr=>K (v::r)) o) l τ h K
def sums (l:List AV) (K:List (Sc ⊕ List Sc)->R):R:=List.rec (motive:=λ_=>(List (Sc ⊕ List Sc)->R)->R) (λK=>K []) (λv _ ih K=>toSum v λs=>ih λr=>K (s::r)) l K
def one (l:List AV) (K:AV->R):R:=List.rec (motive:=λ_=>(AV->R)->R) (λK=>K (.t [])) (λv r _ K=>List.rec (motive:=λ_=>AV->(AV->R)->R) (λv K=>K v) (λx r _ v K=>sums (v::x::r) λl=>K (.t l)) r v K) l K
def retE (rs:List ResultVar) (τ:L3) (h:H) (K:KV):R:=resE rs τ h λl=>one l λv=>K v h
def setA (l:List AV) (t:L3) (i:Nat) (K:L3->R):R:=
 List.rec (motive:=λ_=>L3->Nat->(L3->R)->R) (λt _ K=>K t) (λv _ ih t i K=>nat i λi=>(q3 i).s t v λt=>ih t (Nat.succ i) K) l t i K
/-! ### What is looked at in code, once -/
def okO (n:Nat) (x:Operand):Bool:=match x with | .tmp t=>Nat.blt t n | _=>true
def okP (n:Nat) (ops:Array Oper) (o:Oper):Bool:=o.op.operands.toList.all (okO n) && o.dst.toList.all (Nat.blt · n) && Nd o && (match o.guard with | none=>true | some (g,_)=>(match ops[g]? with | some od=>(match od.dst with | some d=>Nat.blt d n | none=>false) | none=>false))
def okC (n:Nat) (c:Code):Bool:=Code.rec (motive:=λ_=>Bool) true (λ_ ops _=>ops.toList.all (okP n ops)) (λ_ _ a b=>a && b) (λc _ _ a b=>okO n c && a && b) (λ_ _ a=>a) (λ_ a=>a) (λf ps _ _ a b=>okO n f && ps.toList.all (Nat.blt · n) && a && b) (λ_=>true) (λ_ a=>a) (λ_=>true) (λ_=>true) true (λ_=>true) c
def wro (l:List Oper):List Nat:=List.rec (motive:=λ_=>List Nat) [] (λo _ ih=>Option.rec (motive:=λ_=>List Nat) ih (λd=>d::ih) o.dst) l
def wrC (c:Code):List Nat:=Code.rec (motive:=λ_=>List Nat) [] (λ_ ops _=>wro ops.toList) (λ_ _ a b=>app a b) (λ_ _ _ a b=>app a b) (λ_ _ a=>a) (λ_ a=>a) (λ_ _ _ _ _ _=>[1000]) (λ_=>[]) (λ_ a=>a) (λ_=>[]) (λ_=>[]) [] (λ_=>[]) c
def delC (c:Code):Bool:=Code.rec (motive:=λ_=>Bool) false (λ_ ops _=>ops.toList.any λo=>match o.op with | .call c=>(match c.callee with | .builtin .delete=>true | _=>false) | _=>false) (λ_ _ a b=>a || b) (λ_ _ _ a b=>a || b) (λ_ _ a=>a) (λ_ a=>a) (λ_ _ _ _ a b=>a || b) (λ_=>false) (λ_ a=>a) (λ_=>false) (λ_=>false) false (λ_=>false) c
/-! ### Calls -/
structure Fc where
 mk::(g:IH->List AV->H->KV->R)
def bodE (c:Code) (rs:List ResultVar) (n:Nat):Fc:=.mk λih args h K=>gd (Nat.ble (len args) n) (setA args L3.e 0 λt=>ih.run c t h λex τ h=>
  Ex.rec (motive:=λ_=>L3->H->KV->R) (λτ h K=>retE rs τ h K) (λ_ _ _ _=>none) (λτ h K=>retE rs τ h K) ex τ h K)
def rngN (a:Nat) (n:Nat):List Nat:=Nat.rec (motive:=λ_=>Nat->List Nat) (λ_=>[]) (λ_ ih a=>a::ih (Nat.succ a)) n a
def scB (x y:Sc):Bool:=match x,y with
 | .i k a,.i k' b=>Nat.beq (kNo k) (kNo k') && ieqB a b
 | .b a,.b b=>a == b
 | .p i a,.p j b=>Nat.beq i j && Nat.beq a b
 | .o (.s i a b c),.o (.s j a' b' c')=>Nat.beq i j && Nat.beq a a' && Nat.beq b b' && Nat.beq c c'
 | .o (.w i a b c),.o (.w j a' b' c')=>Nat.beq i j && Nat.beq a a' && Nat.beq b b' && Nat.beq c c'
 | .o (.m i),.o (.m j)=>Nat.beq i j
 | .o (.f i),.o (.f j)=>Nat.beq i j
 | .o (.y i),.o (.y j)=>Nat.beq i j
 | .o .n,.o .n=>true
 | .o (.c (.string s)),.o (.c (.string t))=>s == t
 | .o (.c (.slice none 0 0)),.o (.c (.slice none 0 0))=>true
 | .o (.c (.pointer none)),.o (.c (.pointer none))=>true
 | .o (.c (.map none)),.o (.c (.map none))=>true
 | .o (.c .nilFunc),.o (.c .nilFunc)=>true
 | .o .e,.o .e=>true
 | .o (.c (.func (.func f) a b)),.o (.c (.func (.func f') a' b'))=>Nat.beq f f' && Nat.beq (a.size+b.size) 0 && Nat.beq (a'.size+b'.size) 0
 | _,_=>false
def scL (l m:List Sc):Bool:=List.rec (motive:=λ_=>List Sc->Bool) (λm=>List.rec (motive:=λ_=>Bool) true (λ_ _ _=>false) m) (λx _ ih m=>List.rec (motive:=λ_=>Bool) false (λy m _=>scB x y && ih m) m) l m
def sumB (x y:Sc ⊕ List Sc):Bool:=match x,y with | .inl x,.inl y=>scB x y | .inr l,.inr m=>scL l m | _,_=>false
def sumL (l m:List (Sc ⊕ List Sc)):Bool:=List.rec (motive:=λ_=>List (Sc ⊕ List Sc)->Bool) (λm=>List.rec (motive:=λ_=>Bool) true (λ_ _ _=>false) m) (λx _ ih m=>List.rec (motive:=λ_=>Bool) false (λy m _=>sumB x y && ih m) m) l m
def avB (x y:AV):Bool:=match x,y with | .x x,.x y=>scB x y | .a l,.a m=>scL l m | .t l,.t m=>sumL l m | _,_=>false
def tvL (t u:TV) (n off:Nat):Bool:=Nat.rec (motive:=λ_=>Nat->Bool) (λ_=>true) (λ_ ih off=>avB (t.get off) (u.get off) && ih (Nat.succ off)) n off
def kU (t:TV):Nat:=TV.rec (motive:=λ_=>Nat) (λ_=>8) (λ_=>64) (λ_=>512) (λ_=>4096) t
def blB (a b:B):Bool:=match a,b with
 | .c E n t,.c E' n' u=>Nat.beq E E' && Nat.beq n n' && Nat.ble n (kU u) && tvL t u n 0
 | .r E n t,.r E' n' u=>Nat.beq E E' && Nat.beq n n' && Nat.ble n (kU u) && tvL t u n 0
 | _,_=>false
def agree (i:Nat) (b:B) (rs:List (AV×H)):Bool:=List.rec (motive:=λ_=>Bool) true (λr _ ih=>blB (hget r.2 i) b && ih) rs
def layM (fl:Bool) (l:List Nat) (r:H) (rs:List (AV×H)) (h:H) (K:H->R):R:=List.rec (motive:=λ_=>H->R) (λh=>K h) (λi _ ih h=>Bool.rec (motive:=λ_=>R) (newB h .x λ_ h=>ih h) (newB h (hget r i) λ_ h=>ih h) (fl && agree i (hget r i) rs)) l h
def isX (b:B):Bool:=B.rec (motive:=λ_=>Bool) true (λ_ _ _=>false) (λ_ _ _=>false) (λ_=>false) b
def leH (l:List Nat) (g h:H):Bool:=List.rec (motive:=λ_=>Bool) true (λi _ ih=>(isX (hget h i) || blB (hget g i) (hget h i)) && ih) l
def mrgE (fl:Bool) (c:Fc):Fc:=.mk λih args h K=>shut h (0,0) λnx lo h1=>
 obn (c.g ih args h1 λv h=>some [(v,h)]) λrs=>List.rec (motive:=λ_=>R) none (λr _ _=>
  layM fl (rngN nx (r.2.nxt-nx)) r.2 rs h1 λhm=>obn (c.g ih args h1 λv g=>gd (avB v r.1 && Nat.beq g.nxt hm.nxt && Nat.beq g.lo nx && leH (rngN nx (hm.nxt-nx)) g hm) (some [])) λ_=>frc r.1 λv=>setLo hm (λ_=>lo) h.ac λh=>K v h) rs
def mgE (m:Nat) (c:Fc):Fc:=Nat.rec (motive:=λ_=>Fc) c (λm _=>Nat.rec (motive:=λ_=>Fc) (mrgE false c) (λ_ _=>mrgE true c) m) m
def okR (n:Nat) (r:ResultVar):Bool:=match r with | .tmp t=>Nat.blt t n | .cell t _=>Nat.blt t n
def fncB (f:FuncId):Fc:=
 Option.rec (motive:=λ_=>Fc) (.mk λ_ _ _ _=>none) (λfn=>Option.rec (motive:=λ_=>Fc) (.mk λ_ _ _ _=>none) (λc=>Bool.rec (motive:=λ_=>Fc) (.mk λ_ _ _ _=>none)
  (mgE (Mg f) (bodE c fn.results.toList fn.ntmps))
  (Nat.ble fn.ntmps 512 && okC fn.ntmps c && fn.results.toList.all (okR fn.ntmps) && !(fn.name == "runtime.NumGoroutine"))) fn.body) Pr.funcs[f]?
def fncE (f:FuncId):Fc:=.mk λih args h K=>Option.rec (motive:=λ_=>R) ((fncB f).g ih args h K) (λo=>o.g args h K) (ih.oc f)
def bindE (ps:List Nat) (args:List AV) (t:L3) (K:L3->R):R:=
 List.rec (motive:=λ_=>List AV->L3->(L3->R)->R) (λargs t K=>List.rec (motive:=λ_=>R) (K t) (λ_ _ _=>none) args) (λp _ ih args t K=>List.rec (motive:=λ_=>R) none (λv args _=>(q3 p).s t v λt=>ih args t K) args) ps args t K
def loB (id lo:Nat):Nat:=bif Nat.ble lo id then lo else id
def rndE (ps:List Nat) (assign body:Code) (t0:L3) (ih:IH) (id:Nat) (args:List AV) (h:H) (K:KV):R:=
 jc h id (.o (.v false ps assign body t0)) λh=>bindE ps args t0 λt=>ih.run assign t h λex t h=>
  Ex.rec (motive:=λ_=>R) (jc h id (.o (.v true ps assign body t0)) λh=>ih.run body t h λex _ h=>Ex.rec (motive:=λ_=>R) (jc h id (.o (.l ps assign body t0)) λh=>K (.b true) h) (λi=>setLo h (loB id) h.ac λh=>jc h id (.o (.d (.x i))) λh=>K (.b false) h) (setLo h (loB id) h.ac λh=>jc h id (.o (.d .r)) λh=>K (.b false) h) ex) (λ_=>none) none ex
def lendE (id:Nat) (τ:L3) (h:H) (K:KC):R:=blkO h id λb=>kF h id .x λh=>(match b with | .l _ _ _ _=>K .n τ h | .d ex=>K ex τ h | _=>none)
def cvE (v:Value) (ih:IH) (args:List AV) (h:H) (K:KV):R:=match v with
 | .func (.func f) fs cs=>gd (Nat.beq (fs.size+cs.size) 0) ((fncE f).g ih args h K)
 | _=>none
def callO (x:So):IH->List AV->H->KV->R:=So.rec (motive:=λ_=>IH->List AV->H->KV->R) (λ_ _ _ _=>none) (λ_ _ _ _=>none) (λ_ _ _ _ _ _ _ _=>none) (λ_ _ _ _ _ _ _ _=>none) (λ_ _ _ _ _=>none) (λid ih args h K=>blkO h id λb=>(match b with | .f f fs cs=>(fncE f).g ih (app fs (app args cs)) h K | _=>none)) (λid ih args h K=>blkO h id λb=>(match b with | .l ps a b t=>rndE ps a b t ih id args h K | _=>none)) (λ_ _ _ _=>none) (λv ih args h K=>cvE v ih args h K) x
def callV (v:AV) (ih:IH) (args:List AV) (h:H) (K:KV):R:=asO v λx=>callO x ih args h K
def mmx (mx:Bool) (x:AV) (l:List AV):Option AV:=List.rec (motive:=λ_=>AV->Option AV)
 (λx=>asI x λk a=>some (.i k a)) (λy _ ih x=>two x y λk a b=>Bool.rec (motive:=λ_=>Option AV) (ih x) (ih y) (Bool.rec (motive:=λ_=>Bool) (!qO a b) (!qO b a) mx)) l x
def jv {Z:Type} (l:List AV) (K:AV->Option Z):Option Z:=List.rec (motive:=λ_=>(AV->Option Z)->Option Z) (λ_=>none) (λx l _ K=>List.rec (motive:=λ_=>Option Z) (K x) (λ_ _ _=>none) l) l K
def jW {Z:Type} (l:List AV) (K:AV->AV->Option Z):Option Z:=List.rec (motive:=λ_=>(AV->AV->Option Z)->Option Z) (λ_=>none) (λx l _ K=>jv l (K x)) l K
inductive OK
 | p (g:L3->Option AV)
 | r (g:L3->H->Option AV)
 | a (g:L3->Option Al)
 | w (g:IH->L3->H->KV->R)
 | z
def nilE (x:AV):Option AV:=match x with
 | .x (.p i o)=>some (.x (.p i o))
 | .x (.o (.f i))=>some (.x (.o (.f i)))
 | .x (.o (.y i))=>some (.x (.o (.y i)))
 | .x (.o (.c (.func (.func f) a b)))=>some (.x (.o (.c (.func (.func f) a b))))
 | _=>none
def cvB (S T:TypeId):Option IntKind:=match Pr.underlying S,Pr.underlying T with
 | some (.int _),some (.int k)=>some k
 | _,_=>none
def convE (S T:TypeId):Un:=Option.rec (motive:=λ_=>Un) (.mk λ_=>none) (λk=>.mk λx=>asI x λ_ n=>mkI k n) (cvB S T)
def extT (l:List (Sc ⊕ List Sc)) (j:Nat):Option AV:=List.rec (motive:=λ_=>Option AV) none (λs _ _=>Sum.rec (motive:=λ_=>Option AV) (λs=>frc_s s λs=>some (.x s)) (λl=>some (.a l)) s) (drp l j)
def extE (x:AV) (j:Nat):Option AV:=asT x λl=>extT l j
def entryE (x:AV) (h:H):Option AV:=asP x λid off=>gd (Nat.beq off 0) (blkO h id λb=>(match b with
 | .c _ k v _ _=>toSum k λk=>toSum v λv=>some (.t [k,v])
 | .k m k v _ _ _ _=>blkO h m λb=>(match b with | .g _ false _=>toSum k λk=>toSum v λv=>some (.t [k,v]) | _=>none)
 | _=>none))
def lenK (T:TypeId) (l:List Operand):OK:=match Pr.underlying T with
 | some (.map _ _)=>.r λτ h=>evL l τ λus=>jv us λx=>asO x λx=>(match x with | .m id=>lnO x h | .c (.map none)=>iLn 0 | _=>none)
 | some (.slice _)=>.p λτ=>evL l τ λus=>jv us λx=>asO x λx=>(match x with | .s _ _ n _=>iLn n | .w _ _ n _=>iLn n | .e=>iLn 0 | .c (.slice none 0 0)=>iLn 0 | _=>none)
 | some .string=>.p λτ=>evL l τ λus=>jv us λx=>asO x λx=>(match x with | .c (.string s)=>lnV (.string s) | _=>none)
 | _=>.z
def sliceT (T:TypeId):Bool:=match Pr.underlying T with | some (.slice _)=>true | _=>false
def bltE (b:Builtin) (ts:List TypeId) (l:List Operand):OK:=match b with
 | .len=>args' ts λT=>lenK T l
 | .cap=>args' ts λT=>bif sliceT T then .p λτ=>evL l τ λus=>jv us λx=>asO x λx=>cpO x else .z
 | .append=>(match ts with | X::Y::_=>.w λ_ τ h K=>evL l τ λus=>jW us λx y=>(apdE X Y).g x y h K | _=>.z)
 | .copy=>args' ts λT=>.w λ_ τ h K=>evL l τ λus=>jW us λx y=>copyE T x y h K
 | .clear=>args' ts λT=>.w λ_ τ h K=>evL l τ λus=>jv us λx=>asO x λx=>clO x T h K
 | .delete=>args' ts λT=>.w λ_ τ h K=>evL l τ λus=>jW us λx y=>delE T x y h λh=>K (.t []) h
 | .max=>.p λτ=>evL l τ λus=>(match us with | x::r=>mmx true x r | []=>none)
 | .min=>.p λτ=>evL l τ λus=>(match us with | x::r=>mmx false x r | []=>none)
 | _=>.z
 where args' (ts:List TypeId) (k:TypeId->OK):OK:=match ts with | T::_=>k T | []=>.z
def calE (c:Callee) (ts:List TypeId) (l:List Operand):OK:=match c with
 | .value f=>(match f with
  | .tmp t=>.w λih τ h K=>evL l τ λargs=>callV ((q3 t).g τ) ih args h K
  | .const v=>.w λih τ h K=>evL l τ λargs=>cvE v ih args h K
  | .func f=>.w λih τ h K=>evL l τ λargs=>(fncE f).g ih args h K
  | .global _=>.z)
 | .invoke _ _=>.z
 | .builtin b=>bltE b ts l
def mkfE (fn:Fn) (fs cs:List Operand):OK:=match fn with
 | .func f=>.a λτ=>evL fs τ λfs=>evL cs τ λcs=>some (.mk (.o (.f f fs cs)) λid=>.x (.o (.f id)))
 | _=>.z
def opK (o:Op):OK:=Op.rec (motive:=λ_=>OK)
 (λx=>.p λτ=>frc ((evO x).v τ) some)
 (λx=>.w λ_ τ h K=>frc ((evO x).v τ) λv=>K v h)
 (λc a b=>.p λτ=>asB ((evO c).v τ) λz=>Bool.rec (motive:=λ_=>L3->Option AV) (λτ=>frc ((evO b).v τ) some) (λτ=>frc ((evO a).v τ) some) z τ)
 (λE=>.a λ_=>(allocE E).g)
 (λE x=>.a λτ=>boxE E ((evO x).v τ))
 (λX ps=>.p λτ=>buildE X ps.toList τ)
 (λX m ps=>.a λτ=>jH X m ps.toList τ)
 (λX m k v=>.w λ_ τ h K=>frc ((evO k).v τ) λk=>frc ((evO v).v τ) λv=>updE X ((evO m).v τ) k v h λh=>K .n h)
 (λT x=>.r λτ h=>(loadE T).g ((evO x).v τ) h)
 (λT x y=>.w λ_ τ h K=>(storeE T).g ((evO x).v τ) ((evO y).v τ) h λh=>K .n h)
 (λ_=>.z)
 (λ_=>.z)
 (λx=>.p λτ=>nilE ((evO x).v τ))
 (λop X x y _=>.p λτ=>(binE op X).g ((evO x).v τ) ((evO y).v τ))
 (λop X x=>.p λτ=>(unE op).g ((evO x).v τ))
 (λS T x=>.p λτ=>(convE S T).g ((evO x).v τ))
 (λ_ _=>.z)
 (λ_ _=>.z)
 (λfn fs cs=>mkfE fn fs.toList cs.toList)
 (λT r=>Option.rec (motive:=λ_=>OK) (.a λ_=>some (.mk (.o (.m [])) λid=>.x (.o (.m id)))) (λ_=>.z) r)
 (λ_ _=>.z)
 (λX x y=>.a λτ=>makeSliceE X ((evO x).v τ) ((evO y).v τ))
 (λX x lo hi mx=>.p λτ=>sliceE ((evO x).v τ) X lo hi mx τ)
 (λS x f=>.p λτ=>(jE S f).g ((evO x).v τ))
 (λS x f=>.p λτ=>(fieldE S f).g ((evO x).v τ))
 (λX x y=>.p λτ=>indexAddrE X ((evO x).v τ) ((evO y).v τ))
 (λX x y=>.p λτ=>indexE X ((evO x).v τ) ((evO y).v τ))
 (λX x y ok=>.r λτ h=>lookupE X ((evO x).v τ) ((evO y).v τ) ok h)
 (λX m k v=>.w λ_ τ h K=>frc ((evO k).v τ) λk=>frc ((evO v).v τ) λv=>updE X ((evO m).v τ) k v h λh=>K .n h)
 (λ_ _ _=>.z)
 (λ_ _ _ _=>.z)
 (λX x=>.w λ_ τ h K=>gd (isMp X) (rangeE ((evO x).v τ) h K))
 (λx s=>Bool.rec (motive:=λ_=>OK) (.w λ_ τ h K=>nextE ((evO x).v τ) h K) .z s)
 (λx=>.r λτ h=>entryE ((evO x).v τ) h)
 (λ_ _ _ _=>.z)
 (λx j=>.p λτ=>extE ((evO x).v τ) j)
 (λc=>calE c.callee c.argTypes.toList c.args.toList)
 (λ_=>.z)
 (λ_=>.z)
 (λ_=>.z)
 (λ_ _=>.z)
 (λ_ _ _=>.z)
 (λ_ _=>.z) o
def dstOf (ops:List Oper) (j:Nat):Option Nat:=Nat.rec (motive:=λ_=>List Oper->Option Nat) (λl=>List.rec (motive:=λ_=>Option Nat) none (λo _ _=>o.dst) l) (λ_ ih l=>List.rec (motive:=λ_=>Option Nat) none (λ_ l _=>ih l) l) j ops
structure Re where
 mk::(g:IH->L3->H->KO->R)
def putE (d:Option Nat) (v:AV) (τ:L3) (h:H) (K:KO):R:=Option.rec (motive:=λ_=>R) (K τ h) (λd=>(q3 d).s τ v λτ=>K τ h) d
def stpE (k:OK) (d:Option Nat):Re:=OK.rec (motive:=λ_=>Re)
 (λg=>.mk λ_ τ h K=>obn (g τ) λv=>putE d v τ h K)
 (λg=>.mk λ_ τ h K=>obn (g τ h) λv=>putE d v τ h K)
 (λg=>.mk λ_ τ h K=>obn (g τ) λa=>newB h a.b λid h=>putE d (a.v id) τ h K)
 (λg=>.mk λih τ h K=>g ih τ h λv h=>putE d v τ h K)
 (.mk λ_ _ _ _=>none) k
def skpE (d:Option Nat):Re:=.mk λ_ τ h K=>putE d .n τ h K
def wantB (want:Bool) (v:AV):Option Bool:=match v with
 | .x (.b c)=>some (c == want)
 | .x (.o .n)=>some false
 | _=>none
def operE (all:List Oper) (o:Oper):Re:=
 Option.rec (motive:=λ_=>Re) (stpE (opK o.op) o.dst) (λg=>Option.rec (motive:=λ_=>Re) (.mk λ_ _ _ _=>none) (λd=>
  .mk λih τ h K=>obn (wantB g.2 ((q3 d).g τ)) λb=>Bool.rec (motive:=λ_=>IH->L3->H->KO->R) (λih τ h K=>(skpE o.dst).g ih τ h K) (λih τ h K=>(stpE (opK o.op) o.dst).g ih τ h K) b ih τ h K) (dstOf all g.1)) o.guard
def opsE (all l:List Oper):Re:=
 List.rec (motive:=λ_=>List Oper->Re) (λ_=>.mk λ_ τ h K=>K τ h) (λo l ih all=>.mk λi τ h K=>(operE all o).g i τ h λτ h=>(ih all).g i τ h K) l all
/-! ### Regions whose order is drawn -/
def kdO (k:OK):Nat:=OK.rec (motive:=λ_=>Nat) (λ_=>0) (λ_=>1) (λ_=>2) (λ_=>3) 3 k
structure Rw where
 i:Nat
 o:Oper
 wt:Nat
 lk:Nat
 ds:Nat
 kd:Nat
def nth:List Nat->Nat->Nat
 | [],_=>0
 | x::_,0=>x
 | _::l,n+1=>nth l n
def wtO (o:Oper) (i:Nat) (done:List Nat):Nat:=o.after.toList.foldr (λe m=>bif Region.binds .any e && Nat.blt e.on i then Nat.lor m (Nat.lor (Nat.shiftLeft 1 e.on) (nth done e.on))else m) 0
def rows (ops:Array Oper):List Oper->Nat->List Nat->List Rw
 | [],_,_=>[]
 | o::l,i,done=>nat (wtO o i done) λm=>{ i:=i,o:=o,wt:=m,lk:=bitsOf (o.looksAt ops),ds:=bitsOf o.dst.toList,kd:=kdO (opK o.op) }::rows ops l (i+1) (done++[m])
def rdyB (m:Nat) (r:Rw):Bool:=!Nat.testBit m r.i && Nat.beq (Nat.land r.wt m) r.wt
def pick1 (l:List Rw) (m:Nat):Option Rw:=List.rec (motive:=λ_=>Option Rw) none (λr _ ih=>bif !Nat.beq r.kd 3 && rdyB m r then some r else ih) l
def pick2 (l:List Rw) (m:Nat):Option Rw:=List.rec (motive:=λ_=>Option Rw) none (λr _ ih=>bif rdyB m r then some r else ih) l
def ordE (l:List Rw):Nat->Nat->List Rw
 | 0,_=>[]
 | n+1,m=>match pick1 l m with
  | some r=>r::ordE l n (Nat.lor m (Nat.shiftLeft 1 r.i))
  | none=>(match pick2 l m with | some r=>r::ordE l n (Nat.lor m (Nat.shiftLeft 1 r.i)) | none=>[])
def okPair (r s:Rw):Bool:=
 !Nat.beq r.i s.i && (!Nat.beq r.kd 3 || Nat.testBit s.wt r.i) && (Nat.beq (Nat.land s.lk r.ds) 0 || Nat.testBit s.wt r.i) && (Nat.beq (Nat.land r.lk s.ds) 0 || (Nat.beq s.kd 3 && Nat.testBit s.wt r.i)) && Nat.beq (Nat.land r.ds s.ds) 0
def okRow (r:Rw):Bool:=(Nat.beq r.kd 3 || Nat.beq (Nat.land r.lk r.ds) 0) && r.o.after.toList.all (λe=>!Region.binds .any e || Nat.testBit r.wt e.on)
def okPlan:List Rw->Nat->Bool
 | [],_=>true
 | r::l,m=>okRow r && Nat.beq (Nat.land r.wt m) r.wt && l.all (okPair r) && okPlan l (Nat.lor m (Nat.shiftLeft 1 r.i))
structure Rk where
 mk::(g:L3->H->Bool)
def rdK (k:OK) (d:Option Nat):Rk:=match k,d with
 | .r g,some d=>.mk λτ h=>Option.rec (motive:=λ_=>Bool) false (λv=>avB v ((q3 d).g τ)) (g τ h)
 | _,_=>.mk λ_ _=>false
def rckE (all:List Oper) (o:Oper):Rk:=match o.guard with
 | none=>rdK (opK o.op) o.dst
 | some g=>(match dstOf all g.1 with
  | some d=>.mk λτ h=>Option.rec (motive:=λ_=>Bool) false (λb=>Bool.rec (motive:=λ_=>Bool) true ((rdK (opK o.op) o.dst).g τ h) b) (wantB g.2 ((q3 d).g τ))
  | none=>.mk λ_ _=>false)
def rcksE (all:List Oper) (l:List Rw):Rk:=List.rec (motive:=λ_=>Rk) (.mk λ_ _=>true) (λr _ ih=>.mk λτ h=>(rckE all r.o).g τ h && ih.g τ h) l
def pend (r:Rw) (done:List Rw):List Rw:=List.rec (motive:=λ_=>List Rw) [] (λs _ ih=>bif Nat.beq s.kd 1 && !Nat.testBit r.wt s.i then s::ih else ih) done
def runP (all:List Oper) (l:List Rw):List Rw->Re:=
 List.rec (motive:=λ_=>List Rw->Re) (λ_=>.mk λ_ τ h K=>K τ h) (λr _ ih done=>Bool.rec (motive:=λ_=>Re)
  (.mk λi τ h K=>(operE all r.o).g i τ h λτ h=>(ih (r::done)).g i τ h K)
  (.mk λi τ h K=>(operE all r.o).g i τ h λτ h=>gd ((rcksE all (pend r done)).g τ h) ((ih (r::done)).g i τ h K)) (Nat.beq r.kd 3)) l
def planE (ops:Array Oper):List Rw:=ordE (rows ops ops.toList 0 []) ops.size 0
def regE (ops:Array Oper) (draw:Bool):Re:=Bool.rec (motive:=λ_=>Re) (opsE ops.toList ops.toList)
 (Bool.rec (motive:=λ_=>Re) (.mk λ_ _ _ _=>none) (runP ops.toList (planE ops) []) (((List.range ops.size).all λi=>(planE ops).any λr=>Nat.beq r.i i) && okPlan (planE ops) 0)) draw
/-! ### Code -/
def loopE (n:Nat) (g:L3->H->KC->R):L3->H->KC->R:=
 Nat.rec (motive:=λ_=>(L3->H->KC->R)->L3->H->KC->R) (λ_ _ _ _=>none) (λ_ lp g τ h K=>g τ h λex τ h=>Ex.rec (motive:=λ_=>R) (lp g τ h K) (λid=>K (.x id) τ h) (K .r τ h) ex) n g
def fgt (l:List Nat) (τ:L3) (K:L3->R):R:=List.rec (motive:=λ_=>L3->(L3->R)->R) (λτ K=>K τ) (λd _ ih τ K=>(q3 d).s τ .u λτ=>ih τ K) l τ K
def yldC (c:Code):Bool:=Code.rec (motive:=λ_=>Bool) false (λ_ ops _=>ops.toList.any λo=>match o.op with | .call c=>(match c.callee with | .value (.tmp _)=>true | _=>false) | _=>false) (λ_ _ a b=>a || b) (λ_ _ _ a b=>a || b) (λ_ _ a=>a) (λ_ a=>a) (λ_ _ _ _ a b=>a || b) (λ_=>false) (λ_ a=>a) (λ_=>false) (λ_=>false) false (λ_=>false) c
def mrC (c:Code):Option Nat:=match c with | .seq (.region _ ops _) _=>(match ops.toList with | o::_=>(match o.op with | .next (.tmp t) false=>bif delC c || yldC c then some t else none | _=>none) | []=>none) | _=>none
def entE (g:L3->H->KC->R) (τ:L3) (h:H) (id mid:Nat) (l:List (AV×AV)):Option (List ((AV×AV)×Bool)):=
 List.rec (motive:=λ_=>Option (List ((AV×AV)×Bool))) (some []) (λe _ ih=>obn (jc h id (.o (.q mid e.1 e.2)) λh=>jc h mid (.o .h) λh=>g τ h λex _ h=>
  blkO h mid λb=>(match b with | .g _ gone _=>some [(.b gone,.mk 0 0 (0,0) H5.e)] | _=>none))
  λrs=>List.rec (motive:=λ_=>Option (List ((AV×AV)×Bool))) none (λr _ _=>asB r.1 λgone=>obn ih λm=>some ((e,Bool.rec (motive:=λ_=>Bool) true false gone)::m)) rs) l
def lvE (g:L3->H->KC->R) (τ:L3) (h:H) (id mid:Nat) (l:List (AV×AV)) (i:Nat):Nat:=
 List.rec (motive:=λ_=>Nat->Nat) (λ_=>0) (λe _ ih i=>Option.rec (motive:=λ_=>Nat) (ih (Nat.succ i)) (λ_=>Nat.succ i) (jc h id (.o (.q mid e.1 e.2)) λh=>jc h mid (.o .h) λh=>g τ h λex _ h=>Ex.rec (motive:=λ_=>R) none (λ_=>some []) (some []) ex)) l i
def rndJ (id lo:Nat) (h:H):R:=blkO h id λb=>(match b with | .k m _ _ _ keep _ cur=>blkO h m λb=>(match b with | .g _ gone _=>gd (xor gone keep && !cur && Nat.beq h.lo lo) (some []) | _=>none) | _=>none)
def outJ (lo' lh:Nat):Nat:=bif Nat.ble lo' lh then lo' else lh
def mapLoop (t:Nat) (ws:List Nat) (y:Bool) (g:L3->H->KC->R) (τ:L3) (h:H) (K:KC):R:=
 asP ((q3 t).g τ) λid off=>gd (Nat.beq off 0 && !ws.contains t && !ws.contains 1000 && Nat.ble h.lo id) (blkO h id λb=>(match b with
  | .i mid l=>gd (Nat.ble h.lo mid && dstK l) (shut h (Nat.succ id,Nat.succ mid) λnx lo h1=>fgt ws τ λτ=>obn (entE g τ h1 id mid l) λr=>
   jc h1 id (.o (.j mid r (Bool.rec (motive:=λ_=>Nat) 0 (lvE g τ h1 id mid l 0) y))) λhJ=>jc hJ mid (.o .h) λhJ=>g τ hJ λex τ' h'=>
    Ex.rec (motive:=λ_=>R) (rndJ id nx h') (λi=>setLo h' (outJ lo) h.ac λh'=>jc h' id (.o .z) λh'=>K (.x i) τ' h') (setLo h' (outJ lo) h.ac λh'=>jc h' id (.o .z) λh'=>K .r τ' h') ex)
  | _=>none))
def notY (v:AV):Bool:=match v with | .x (.o (.y _))=>false | _=>true
structure Ce where
 mk::(g:IH->Nat->L3->H->KC->R)
def codeE (c:Code):Ce:=Code.rec (motive:=λ_=>Ce)
 (.mk λ_ _ τ h K=>K .n τ h)
 (λ_ ops dr=>.mk λih _ τ h K=>(regE ops dr).g ih τ h λτ h=>K .n τ h)
 (λ_ _ ga gb=>.mk λih n τ h K=>ga.g ih n τ h λex τ h=>Ex.rec (motive:=λ_=>R) (gb.g ih n τ h K) (λid=>K (.x id) τ h) (K .r τ h) ex)
 (λc _ _ ga gb=>.mk λih n τ h K=>asB ((evO c).v τ) λb=>Bool.rec (motive:=λ_=>IH->Nat->L3->H->KC->R) (λih n τ h K=>gb.g ih n τ h K) (λih n τ h K=>ga.g ih n τ h K) b ih n τ h K)
 (λid _ g=>.mk λih n τ h K=>g.g ih n τ h λex τ h=>Ex.rec (motive:=λ_=>R) (K .n τ h) (λi=>Bool.rec (motive:=λ_=>R) (K (.x i) τ h) (K .n τ h) (Nat.beq i id)) (K .r τ h) ex)
 (λc g=>Option.rec (motive:=λ_=>Ce) (.mk λih n τ h K=>loopE n (g.g ih n) τ h K) (λt=>.mk λih n τ h K=>mapLoop t (wrC c) (yldC c) (g.g ih n) τ h K) (mrC c))
 (λf ps assign body _ _=>.mk λih _ τ h K=>newB h (.o .t) λ_ h=>newB h (.o (.l ps.toList assign body τ)) λid h=>gd (notY ((evO f).v τ)) (callV ((evO f).v τ) ih [.x (.o (.y id))] h λ_ h=>lendE id τ h K))
 (λid=>.mk λ_ _ τ h K=>K (.x id) τ h)
 (λ_ g=>.mk λih n τ h K=>g.g ih n τ h K)
 (λ_=>.mk λ_ _ τ h K=>K .n τ h)
 (λ_=>.mk λ_ _ _ _ _=>none)
 (.mk λ_ _ τ h K=>K .r τ h)
 (λ_=>.mk λ_ _ _ _ _=>none) c
def runC (O:FuncId->Option Orc) (n:Nat):Code->L3->H->KC->R:=Nat.rec (motive:=λ_=>Code->L3->H->KC->R) (λ_ _ _ _=>none) (λ_ ih c τ h K=>(codeE c).g (.mk ih O) 100000 τ h K) n
def fuel (O:FuncId->Option Orc) (n:Nat):IH:=.mk (runC O n) O
def run (O:FuncId->Option Orc) (f:FuncId) (args:List AV) (h:H) (K:KV):R:=(fncB f).g (fuel O 1000) args h K
def O0 (f:FuncId):Option Orc:=none
def isT (r:R):Bool:=match r with | some _=>true | none=>false
def H.e:H:=.mk 0 0 (0,0) H5.e
def runs (O:FuncId->Option Orc) (f:FuncId):Bool:=isT (run O f [] H.e λv h=>asB v λb=>gd b (some []))
end Go.Ev
namespace Go.Ev
theorem dOf_inj:∀ {a b:Nat},a<8->b<8->dOf a=dOf b->a=b:=by
 intro a b ha hb;have h:∀ a:Fin 8,∀ b:Fin 8,dOf a.1=dOf b.1->a=b:=by
  intro a b;rcases a with ⟨a,ha⟩;rcases b with ⟨b,hb⟩
  match a,ha,b,hb with
  | 0,_,0,_=>exact λ_=>rfl
  | 0,_,1,_=>exact λh=>by cases(show D.d0=D.d1 from h)
  | 0,_,2,_=>exact λh=>by cases(show D.d0=D.d2 from h)
  | 0,_,3,_=>exact λh=>by cases(show D.d0=D.d3 from h)
  | 0,_,4,_=>exact λh=>by cases(show D.d0=D.d4 from h)
  | 0,_,5,_=>exact λh=>by cases(show D.d0=D.d5 from h)
  | 0,_,6,_=>exact λh=>by cases(show D.d0=D.d6 from h)
  | 0,_,7,_=>exact λh=>by cases(show D.d0=D.d7 from h)
  | 1,_,0,_=>exact λh=>by cases(show D.d1=D.d0 from h)
  | 1,_,1,_=>exact λ_=>rfl
  | 1,_,2,_=>exact λh=>by cases(show D.d1=D.d2 from h)
  | 1,_,3,_=>exact λh=>by cases(show D.d1=D.d3 from h)
  | 1,_,4,_=>exact λh=>by cases(show D.d1=D.d4 from h)
  | 1,_,5,_=>exact λh=>by cases(show D.d1=D.d5 from h)
  | 1,_,6,_=>exact λh=>by cases(show D.d1=D.d6 from h)
  | 1,_,7,_=>exact λh=>by cases(show D.d1=D.d7 from h)
  | 2,_,0,_=>exact λh=>by cases(show D.d2=D.d0 from h)
  | 2,_,1,_=>exact λh=>by cases(show D.d2=D.d1 from h)
  | 2,_,2,_=>exact λ_=>rfl
  | 2,_,3,_=>exact λh=>by cases(show D.d2=D.d3 from h)
  | 2,_,4,_=>exact λh=>by cases(show D.d2=D.d4 from h)
  | 2,_,5,_=>exact λh=>by cases(show D.d2=D.d5 from h)
  | 2,_,6,_=>exact λh=>by cases(show D.d2=D.d6 from h)
  | 2,_,7,_=>exact λh=>by cases(show D.d2=D.d7 from h)
  | 3,_,0,_=>exact λh=>by cases(show D.d3=D.d0 from h)
  | 3,_,1,_=>exact λh=>by cases(show D.d3=D.d1 from h)
  | 3,_,2,_=>exact λh=>by cases(show D.d3=D.d2 from h)
  | 3,_,3,_=>exact λ_=>rfl
  | 3,_,4,_=>exact λh=>by cases(show D.d3=D.d4 from h)
  | 3,_,5,_=>exact λh=>by cases(show D.d3=D.d5 from h)
  | 3,_,6,_=>exact λh=>by cases(show D.d3=D.d6 from h)
  | 3,_,7,_=>exact λh=>by cases(show D.d3=D.d7 from h)
  | 4,_,0,_=>exact λh=>by cases(show D.d4=D.d0 from h)
  | 4,_,1,_=>exact λh=>by cases(show D.d4=D.d1 from h)
  | 4,_,2,_=>exact λh=>by cases(show D.d4=D.d2 from h)
  | 4,_,3,_=>exact λh=>by cases(show D.d4=D.d3 from h)
  | 4,_,4,_=>exact λ_=>rfl
  | 4,_,5,_=>exact λh=>by cases(show D.d4=D.d5 from h)
  | 4,_,6,_=>exact λh=>by cases(show D.d4=D.d6 from h)
  | 4,_,7,_=>exact λh=>by cases(show D.d4=D.d7 from h)
  | 5,_,0,_=>exact λh=>by cases(show D.d5=D.d0 from h)
  | 5,_,1,_=>exact λh=>by cases(show D.d5=D.d1 from h)
  | 5,_,2,_=>exact λh=>by cases(show D.d5=D.d2 from h)
  | 5,_,3,_=>exact λh=>by cases(show D.d5=D.d3 from h)
  | 5,_,4,_=>exact λh=>by cases(show D.d5=D.d4 from h)
  | 5,_,5,_=>exact λ_=>rfl
  | 5,_,6,_=>exact λh=>by cases(show D.d5=D.d6 from h)
  | 5,_,7,_=>exact λh=>by cases(show D.d5=D.d7 from h)
  | 6,_,0,_=>exact λh=>by cases(show D.d6=D.d0 from h)
  | 6,_,1,_=>exact λh=>by cases(show D.d6=D.d1 from h)
  | 6,_,2,_=>exact λh=>by cases(show D.d6=D.d2 from h)
  | 6,_,3,_=>exact λh=>by cases(show D.d6=D.d3 from h)
  | 6,_,4,_=>exact λh=>by cases(show D.d6=D.d4 from h)
  | 6,_,5,_=>exact λh=>by cases(show D.d6=D.d5 from h)
  | 6,_,6,_=>exact λ_=>rfl
  | 6,_,7,_=>exact λh=>by cases(show D.d6=D.d7 from h)
  | 7,_,0,_=>exact λh=>by cases(show D.d7=D.d0 from h)
  | 7,_,1,_=>exact λh=>by cases(show D.d7=D.d1 from h)
  | 7,_,2,_=>exact λh=>by cases(show D.d7=D.d2 from h)
  | 7,_,3,_=>exact λh=>by cases(show D.d7=D.d3 from h)
  | 7,_,4,_=>exact λh=>by cases(show D.d7=D.d4 from h)
  | 7,_,5,_=>exact λh=>by cases(show D.d7=D.d5 from h)
  | 7,_,6,_=>exact λh=>by cases(show D.d7=D.d6 from h)
  | 7,_,7,_=>exact λ_=>rfl
 intro e;have:=h ⟨a,ha⟩ ⟨b,hb⟩ e;simpa using this
theorem kw (n:Nat):Nat.land n 7=n % 8:=by
 have:=Nat.and_two_pow_sub_one_eq_mod n 3
 simpa using this
theorem dg1_eq {i j:Nat} (h:dg1 i=dg1 j):i % 8=j % 8:=by
 have:=dOf_inj (by rw[kw];omega) (by rw[kw];omega) h
 rwa[kw,kw]at this
theorem dg2_eq {i j:Nat} (h:dg2 i=dg2 j):i / 8 % 8=j / 8 % 8:=by
 have:=dOf_inj (by rw[kw];omega) (by rw[kw];omega) h
 rw[kw,kw]at this;have e:∀ n,Nat.shiftRight n 3=n / 8:=λn=>by have:=Nat.shiftRight_eq_div_pow n 3;simpa using this
 rwa[e,e]at this
theorem dg3_eq {i j:Nat} (h:dg3 i=dg3 j):i / 64 % 8=j / 64 % 8:=by
 have:=dOf_inj (by rw[kw];omega) (by rw[kw];omega) h
 rw[kw,kw]at this;have e:∀ n,Nat.shiftRight n 6=n / 64:=λn=>by have:=Nat.shiftRight_eq_div_pow n 6;simpa using this
 rwa[e,e]at this
theorem dg4_eq {i j:Nat} (h:dg4 i=dg4 j):i / 512 % 8=j / 512 % 8:=by
 have:=dOf_inj (by rw[kw];omega) (by rw[kw];omega) h
 rw[kw,kw]at this;have e:∀ n,Nat.shiftRight n 9=n / 512:=λn=>by have:=Nat.shiftRight_eq_div_pow n 9;simpa using this
 rwa[e,e]at this
theorem dg5_eq {i j:Nat} (h:dg5 i=dg5 j):i / 4096 % 8=j / 4096 % 8:=by
 have:=dOf_inj (by rw[kw];omega) (by rw[kw];omega) h
 rw[kw,kw]at this;have e:∀ n,Nat.shiftRight n 12=n / 4096:=λn=>by have:=Nat.shiftRight_eq_div_pow n 12;simpa using this
 rwa[e,e]at this
theorem p1_dig {i j:Nat} (t:H1) (h:dg1 j=dg1 i):(p1 j).g t=(p1 i).g t:=by unfold p1;rw[h]
theorem p2_dig {i j:Nat} (t:H2) (h:dg2 j=dg2 i/\dg1 j=dg1 i):(p2 j).g t=(p2 i).g t:=by obtain⟨h,h1⟩:=h;unfold p2;rw[h];generalize dg2 i=d;cases d<;>exact p1_dig _ h1
theorem p3_dig {i j:Nat} (t:H3) (h:dg3 j=dg3 i/\dg2 j=dg2 i/\dg1 j=dg1 i):(p3 j).g t=(p3 i).g t:=by obtain⟨h,h2,h1⟩:=h;unfold p3;rw[h];generalize dg3 i=d;cases d<;>exact p2_dig _ ⟨h2,h1⟩
theorem p4_dig {i j:Nat} (t:H4) (h:dg4 j=dg4 i/\dg3 j=dg3 i/\dg2 j=dg2 i/\dg1 j=dg1 i):(p4 j).g t=(p4 i).g t:=by obtain⟨h,h3,h2,h1⟩:=h;unfold p4;rw[h];generalize dg4 i=d;cases d<;>exact p3_dig _ ⟨h3,h2,h1⟩
theorem p5_dig {i j:Nat} (t:H5) (h:dg5 j=dg5 i/\dg4 j=dg4 i/\dg3 j=dg3 i/\dg2 j=dg2 i/\dg1 j=dg1 i):(p5 j).g t=(p5 i).g t:=by obtain⟨h,h4,h3,h2,h1⟩:=h;unfold p5;rw[h];generalize dg5 i=d;cases d<;>exact p4_dig _ ⟨h4,h3,h2,h1⟩
theorem q1_law (i:Nat) (t:L1) (v:AV):∃ t',(∀ {Z:Type} (k:L1->Z),(q1 i).s t v k=k t')/\(∀ j,dg1 j=dg1 i->(q1 j).g t'=v)/\∀ j,¬ (dg1 j=dg1 i)->(q1 j).g t'=(q1 j).g t:=by obtain⟨c0,c1,c2,c3,c4,c5,c6,c7⟩:=t;unfold q1;generalize dg1 i=d;cases d<;>exact⟨_,λk=>rfl,λj h=>by rw[h],λj h=>by generalize dg1 j=e at *;cases e<;>first | rfl | exact absurd rfl h⟩
theorem q2_law (i:Nat) (t:L2) (v:AV):∃ t',(∀ {Z:Type} (k:L2->Z),(q2 i).s t v k=k t')/\(∀ j,dg2 j=dg2 i/\dg1 j=dg1 i->(q2 j).g t'=v)/\∀ j,¬ (dg2 j=dg2 i/\dg1 j=dg1 i)->(q2 j).g t'=(q2 j).g t:=by
 obtain⟨c0,c1,c2,c3,c4,c5,c6,c7⟩:=t;unfold q2;generalize dg2 i=d;have K:=λc=>q1_law i c v;cases d;all_goals first | obtain⟨y,h1,h2,h3⟩:=K c0;refine⟨_,λk=>h1 _,?_,?_⟩ | obtain⟨y,h1,h2,h3⟩:=K c1;refine⟨_,λk=>h1 _,?_,?_⟩ | obtain⟨y,h1,h2,h3⟩:=K c2;refine⟨_,λk=>h1 _,?_,?_⟩ | obtain⟨y,h1,h2,h3⟩:=K c3;refine⟨_,λk=>h1 _,?_,?_⟩ | obtain⟨y,h1,h2,h3⟩:=K c4;refine⟨_,λk=>h1 _,?_,?_⟩ | obtain⟨y,h1,h2,h3⟩:=K c5;refine⟨_,λk=>h1 _,?_,?_⟩ | obtain⟨y,h1,h2,h3⟩:=K c6;refine⟨_,λk=>h1 _,?_,?_⟩ | obtain⟨y,h1,h2,h3⟩:=K c7;refine⟨_,λk=>h1 _,?_,?_⟩
 all_goals intro j h;first | obtain⟨h,h'⟩:=h;rw[h];exact h2 j h' | generalize dg2 j=e at *;cases e<;>first | rfl | exact h3 j λh'=>h ⟨rfl,h'⟩
theorem q3_law (i:Nat) (t:L3) (v:AV):∃ t',(∀ {Z:Type} (k:L3->Z),(q3 i).s t v k=k t')/\(∀ j,dg3 j=dg3 i/\dg2 j=dg2 i/\dg1 j=dg1 i->(q3 j).g t'=v)/\∀ j,¬ (dg3 j=dg3 i/\dg2 j=dg2 i/\dg1 j=dg1 i)->(q3 j).g t'=(q3 j).g t:=by
 obtain⟨c0,c1,c2,c3,c4,c5,c6,c7⟩:=t;unfold q3;generalize dg3 i=d;have K:=λc=>q2_law i c v;cases d;all_goals first | obtain⟨y,h1,h2,h3⟩:=K c0;refine⟨_,λk=>h1 _,?_,?_⟩ | obtain⟨y,h1,h2,h3⟩:=K c1;refine⟨_,λk=>h1 _,?_,?_⟩ | obtain⟨y,h1,h2,h3⟩:=K c2;refine⟨_,λk=>h1 _,?_,?_⟩ | obtain⟨y,h1,h2,h3⟩:=K c3;refine⟨_,λk=>h1 _,?_,?_⟩ | obtain⟨y,h1,h2,h3⟩:=K c4;refine⟨_,λk=>h1 _,?_,?_⟩ | obtain⟨y,h1,h2,h3⟩:=K c5;refine⟨_,λk=>h1 _,?_,?_⟩ | obtain⟨y,h1,h2,h3⟩:=K c6;refine⟨_,λk=>h1 _,?_,?_⟩ | obtain⟨y,h1,h2,h3⟩:=K c7;refine⟨_,λk=>h1 _,?_,?_⟩
 all_goals intro j h;first | obtain⟨h,h'⟩:=h;rw[h];exact h2 j h' | generalize dg3 j=e at *;cases e<;>first | rfl | exact h3 j λh'=>h ⟨rfl,h'⟩
theorem q4_law (i:Nat) (t:L4) (v:AV):∃ t',(∀ {Z:Type} (k:L4->Z),(q4 i).s t v k=k t')/\(∀ j,dg4 j=dg4 i/\dg3 j=dg3 i/\dg2 j=dg2 i/\dg1 j=dg1 i->(q4 j).g t'=v)/\∀ j,¬ (dg4 j=dg4 i/\dg3 j=dg3 i/\dg2 j=dg2 i/\dg1 j=dg1 i)->(q4 j).g t'=(q4 j).g t:=by
 obtain⟨c0,c1,c2,c3,c4,c5,c6,c7⟩:=t;unfold q4;generalize dg4 i=d;have K:=λc=>q3_law i c v;cases d;all_goals first | obtain⟨y,h1,h2,h3⟩:=K c0;refine⟨_,λk=>h1 _,?_,?_⟩ | obtain⟨y,h1,h2,h3⟩:=K c1;refine⟨_,λk=>h1 _,?_,?_⟩ | obtain⟨y,h1,h2,h3⟩:=K c2;refine⟨_,λk=>h1 _,?_,?_⟩ | obtain⟨y,h1,h2,h3⟩:=K c3;refine⟨_,λk=>h1 _,?_,?_⟩ | obtain⟨y,h1,h2,h3⟩:=K c4;refine⟨_,λk=>h1 _,?_,?_⟩ | obtain⟨y,h1,h2,h3⟩:=K c5;refine⟨_,λk=>h1 _,?_,?_⟩ | obtain⟨y,h1,h2,h3⟩:=K c6;refine⟨_,λk=>h1 _,?_,?_⟩ | obtain⟨y,h1,h2,h3⟩:=K c7;refine⟨_,λk=>h1 _,?_,?_⟩
 all_goals intro j h;first | obtain⟨h,h'⟩:=h;rw[h];exact h2 j h' | generalize dg4 j=e at *;cases e<;>first | rfl | exact h3 j λh'=>h ⟨rfl,h'⟩
theorem p1_law (i:Nat) (t:H1) (v:B):∃ t',(∀ {Z:Type} (k:H1->Z),(p1 i).s t v k=k t')/\(∀ j,dg1 j=dg1 i->(p1 j).g t'=v)/\∀ j,¬ (dg1 j=dg1 i)->(p1 j).g t'=(p1 j).g t:=by obtain⟨c0,c1,c2,c3,c4,c5,c6,c7⟩:=t;unfold p1;generalize dg1 i=d;cases d<;>exact⟨_,λk=>rfl,λj h=>by rw[h],λj h=>by generalize dg1 j=e at *;cases e<;>first | rfl | exact absurd rfl h⟩
theorem p2_law (i:Nat) (t:H2) (v:B):∃ t',(∀ {Z:Type} (k:H2->Z),(p2 i).s t v k=k t')/\(∀ j,dg2 j=dg2 i/\dg1 j=dg1 i->(p2 j).g t'=v)/\∀ j,¬ (dg2 j=dg2 i/\dg1 j=dg1 i)->(p2 j).g t'=(p2 j).g t:=by
 obtain⟨c0,c1,c2,c3,c4,c5,c6,c7⟩:=t;unfold p2;generalize dg2 i=d;have K:=λc=>p1_law i c v;cases d;all_goals first | obtain⟨y,h1,h2,h3⟩:=K c0;refine⟨_,λk=>h1 _,?_,?_⟩ | obtain⟨y,h1,h2,h3⟩:=K c1;refine⟨_,λk=>h1 _,?_,?_⟩ | obtain⟨y,h1,h2,h3⟩:=K c2;refine⟨_,λk=>h1 _,?_,?_⟩ | obtain⟨y,h1,h2,h3⟩:=K c3;refine⟨_,λk=>h1 _,?_,?_⟩ | obtain⟨y,h1,h2,h3⟩:=K c4;refine⟨_,λk=>h1 _,?_,?_⟩ | obtain⟨y,h1,h2,h3⟩:=K c5;refine⟨_,λk=>h1 _,?_,?_⟩ | obtain⟨y,h1,h2,h3⟩:=K c6;refine⟨_,λk=>h1 _,?_,?_⟩ | obtain⟨y,h1,h2,h3⟩:=K c7;refine⟨_,λk=>h1 _,?_,?_⟩
 all_goals intro j h;first | obtain⟨h,h'⟩:=h;rw[h];exact h2 j h' | generalize dg2 j=e at *;cases e<;>first | rfl | exact h3 j λh'=>h ⟨rfl,h'⟩
theorem p3_law (i:Nat) (t:H3) (v:B):∃ t',(∀ {Z:Type} (k:H3->Z),(p3 i).s t v k=k t')/\(∀ j,dg3 j=dg3 i/\dg2 j=dg2 i/\dg1 j=dg1 i->(p3 j).g t'=v)/\∀ j,¬ (dg3 j=dg3 i/\dg2 j=dg2 i/\dg1 j=dg1 i)->(p3 j).g t'=(p3 j).g t:=by
 obtain⟨c0,c1,c2,c3,c4,c5,c6,c7⟩:=t;unfold p3;generalize dg3 i=d;have K:=λc=>p2_law i c v;cases d;all_goals first | obtain⟨y,h1,h2,h3⟩:=K c0;refine⟨_,λk=>h1 _,?_,?_⟩ | obtain⟨y,h1,h2,h3⟩:=K c1;refine⟨_,λk=>h1 _,?_,?_⟩ | obtain⟨y,h1,h2,h3⟩:=K c2;refine⟨_,λk=>h1 _,?_,?_⟩ | obtain⟨y,h1,h2,h3⟩:=K c3;refine⟨_,λk=>h1 _,?_,?_⟩ | obtain⟨y,h1,h2,h3⟩:=K c4;refine⟨_,λk=>h1 _,?_,?_⟩ | obtain⟨y,h1,h2,h3⟩:=K c5;refine⟨_,λk=>h1 _,?_,?_⟩ | obtain⟨y,h1,h2,h3⟩:=K c6;refine⟨_,λk=>h1 _,?_,?_⟩ | obtain⟨y,h1,h2,h3⟩:=K c7;refine⟨_,λk=>h1 _,?_,?_⟩
 all_goals intro j h;first | obtain⟨h,h'⟩:=h;rw[h];exact h2 j h' | generalize dg3 j=e at *;cases e<;>first | rfl | exact h3 j λh'=>h ⟨rfl,h'⟩
theorem p4_law (i:Nat) (t:H4) (v:B):∃ t',(∀ {Z:Type} (k:H4->Z),(p4 i).s t v k=k t')/\(∀ j,dg4 j=dg4 i/\dg3 j=dg3 i/\dg2 j=dg2 i/\dg1 j=dg1 i->(p4 j).g t'=v)/\∀ j,¬ (dg4 j=dg4 i/\dg3 j=dg3 i/\dg2 j=dg2 i/\dg1 j=dg1 i)->(p4 j).g t'=(p4 j).g t:=by
 obtain⟨c0,c1,c2,c3,c4,c5,c6,c7⟩:=t;unfold p4;generalize dg4 i=d;have K:=λc=>p3_law i c v;cases d;all_goals first | obtain⟨y,h1,h2,h3⟩:=K c0;refine⟨_,λk=>h1 _,?_,?_⟩ | obtain⟨y,h1,h2,h3⟩:=K c1;refine⟨_,λk=>h1 _,?_,?_⟩ | obtain⟨y,h1,h2,h3⟩:=K c2;refine⟨_,λk=>h1 _,?_,?_⟩ | obtain⟨y,h1,h2,h3⟩:=K c3;refine⟨_,λk=>h1 _,?_,?_⟩ | obtain⟨y,h1,h2,h3⟩:=K c4;refine⟨_,λk=>h1 _,?_,?_⟩ | obtain⟨y,h1,h2,h3⟩:=K c5;refine⟨_,λk=>h1 _,?_,?_⟩ | obtain⟨y,h1,h2,h3⟩:=K c6;refine⟨_,λk=>h1 _,?_,?_⟩ | obtain⟨y,h1,h2,h3⟩:=K c7;refine⟨_,λk=>h1 _,?_,?_⟩
 all_goals intro j h;first | obtain⟨h,h'⟩:=h;rw[h];exact h2 j h' | generalize dg4 j=e at *;cases e<;>first | rfl | exact h3 j λh'=>h ⟨rfl,h'⟩
theorem p5_law (i:Nat) (t:H5) (v:B):∃ t',(∀ {Z:Type} (k:H5->Z),(p5 i).s t v k=k t')/\(∀ j,dg5 j=dg5 i/\dg4 j=dg4 i/\dg3 j=dg3 i/\dg2 j=dg2 i/\dg1 j=dg1 i->(p5 j).g t'=v)/\∀ j,¬ (dg5 j=dg5 i/\dg4 j=dg4 i/\dg3 j=dg3 i/\dg2 j=dg2 i/\dg1 j=dg1 i)->(p5 j).g t'=(p5 j).g t:=by
 obtain⟨c0,c1,c2,c3,c4,c5,c6,c7⟩:=t;unfold p5;generalize dg5 i=d;have K:=λc=>p4_law i c v;cases d;all_goals first | obtain⟨y,h1,h2,h3⟩:=K c0;refine⟨_,λk=>h1 _,?_,?_⟩ | obtain⟨y,h1,h2,h3⟩:=K c1;refine⟨_,λk=>h1 _,?_,?_⟩ | obtain⟨y,h1,h2,h3⟩:=K c2;refine⟨_,λk=>h1 _,?_,?_⟩ | obtain⟨y,h1,h2,h3⟩:=K c3;refine⟨_,λk=>h1 _,?_,?_⟩ | obtain⟨y,h1,h2,h3⟩:=K c4;refine⟨_,λk=>h1 _,?_,?_⟩ | obtain⟨y,h1,h2,h3⟩:=K c5;refine⟨_,λk=>h1 _,?_,?_⟩ | obtain⟨y,h1,h2,h3⟩:=K c6;refine⟨_,λk=>h1 _,?_,?_⟩ | obtain⟨y,h1,h2,h3⟩:=K c7;refine⟨_,λk=>h1 _,?_,?_⟩
 all_goals intro j h;first | obtain⟨h,h'⟩:=h;rw[h];exact h2 j h' | generalize dg5 j=e at *;cases e<;>first | rfl | exact h3 j λh'=>h ⟨rfl,h'⟩
theorem q1_set {i:Nat} (t:L1) (v:AV) (hi:i<8):∃ t',(∀ {Z:Type} (k:L1->Z),(q1 i).s t v k=k t')/\∀ j,j<8->(q1 j).g t'=if j=i then v else (q1 j).g t:=by
 obtain⟨t',h1,h2,h3⟩:=q1_law i t v;refine⟨t',h1,λj hj=>?_⟩;by_cases e:j=i
 ·subst e;rw[if_pos rfl];exact h2 j rfl
 ·rw[if_neg e];exact h3 j λh=>by have h1:=h;exact e (by have:=dg1_eq h1;omega)
theorem q2_set {i:Nat} (t:L2) (v:AV) (hi:i<64):∃ t',(∀ {Z:Type} (k:L2->Z),(q2 i).s t v k=k t')/\∀ j,j<64->(q2 j).g t'=if j=i then v else (q2 j).g t:=by
 obtain⟨t',h1,h2,h3⟩:=q2_law i t v;refine⟨t',h1,λj hj=>?_⟩;by_cases e:j=i
 ·subst e;rw[if_pos rfl];exact h2 j ⟨rfl,rfl⟩
 ·rw[if_neg e];exact h3 j λh=>by obtain⟨h2,h1⟩:=h;exact e (by have:=dg1_eq h1;have:=dg2_eq h2;omega)
theorem q3_set {i:Nat} (t:L3) (v:AV) (hi:i<512):∃ t',(∀ {Z:Type} (k:L3->Z),(q3 i).s t v k=k t')/\∀ j,j<512->(q3 j).g t'=if j=i then v else (q3 j).g t:=by
 obtain⟨t',h1,h2,h3⟩:=q3_law i t v;refine⟨t',h1,λj hj=>?_⟩;by_cases e:j=i
 ·subst e;rw[if_pos rfl];exact h2 j ⟨rfl,rfl,rfl⟩
 ·rw[if_neg e];exact h3 j λh=>by obtain⟨h3,h2,h1⟩:=h;exact e (by have:=dg1_eq h1;have:=dg2_eq h2;have:=dg3_eq h3;omega)
theorem q4_set {i:Nat} (t:L4) (v:AV) (hi:i<4096):∃ t',(∀ {Z:Type} (k:L4->Z),(q4 i).s t v k=k t')/\∀ j,j<4096->(q4 j).g t'=if j=i then v else (q4 j).g t:=by
 obtain⟨t',h1,h2,h3⟩:=q4_law i t v;refine⟨t',h1,λj hj=>?_⟩;by_cases e:j=i
 ·subst e;rw[if_pos rfl];exact h2 j ⟨rfl,rfl,rfl,rfl⟩
 ·rw[if_neg e];exact h3 j λh=>by obtain⟨h4,h3,h2,h1⟩:=h;exact e (by have:=dg1_eq h1;have:=dg2_eq h2;have:=dg3_eq h3;have:=dg4_eq h4;omega)
theorem p5_set {i:Nat} (t:H5) (v:B) (hi:i<32768):∃ t',(∀ {Z:Type} (k:H5->Z),(p5 i).s t v k=k t')/\∀ j,j<32768->(p5 j).g t'=if j=i then v else (p5 j).g t:=by
 obtain⟨t',h1,h2,h3⟩:=p5_law i t v;refine⟨t',h1,λj hj=>?_⟩;by_cases e:j=i
 ·subst e;rw[if_pos rfl];exact h2 j ⟨rfl,rfl,rfl,rfl,rfl⟩
 ·rw[if_neg e];exact h3 j λh=>by obtain⟨h5,h4,h3,h2,h1⟩:=h;exact e (by have:=dg1_eq h1;have:=dg2_eq h2;have:=dg3_eq h3;have:=dg4_eq h4;have:=dg5_eq h5;omega)
open Go.Lw Go.RowKit
structure Env where
 dom:Nat->Prop
 blk:Nat->Nat
 cap:Nat->Nat
 clo:Nat->Value
 gh:Nat->Nat
structure Ext (e e':Env):Prop where
 dom:∀ id,e.dom id->e'.dom id
 blk:∀ id,e.dom id->e'.blk id=e.blk id
 cap:∀ id,e.dom id->e'.cap id=e.cap id
 clo:∀ id,e.dom id->e'.clo id=e.clo id
 gh:∀ id,e.dom id->e'.gh id=e.gh id
theorem Ext.refl (e:Env):Ext e e:=⟨λ_ h=>h,λ_ _=>rfl,λ_ _=>rfl,λ_ _=>rfl,λ_ _=>rfl⟩
theorem Ext.trans {a b c:Env} (h:Ext a b) (k:Ext b c):Ext a c:=
 ⟨λi hi=>k.dom i (h.dom i hi),λi hi=>(k.blk i (h.dom i hi)).trans (h.blk i hi),λi hi=>(k.cap i (h.dom i hi)).trans (h.cap i hi),λi hi=>(k.clo i (h.dom i hi)).trans (h.clo i hi),λi hi=>(k.gh i (h.dom i hi)).trans (h.gh i hi)⟩
def adr (e:Env) (id off:Nat):Addr:=⟨e.blk id,off,none⟩
def DnO (e:Env) (x:So) (v:Value):Prop:=match x with
 | .u=>True
 | .n=>v=undef
 | .s id off len cap=>e.dom id/\v=.slice (some (adr e id off)) len cap
 | .w id off len ct=>e.dom id/\v=.slice (some (adr e id off)) len (e.cap id-ct)/\len+ct<=e.cap id
 | .m id=>e.dom id/\v=.map (some (e.blk id))
 | .f id=>e.dom id/\v=e.clo id/\∃ fn a b,v=.func (.func fn) a b
 | .y id=>e.dom id/\v=.func (.yield (e.blk id)) #[] #[]
 | .e=>∃ a cap,v=.slice a 0 cap
 | .c u=>v=u/\u.oneCell'=true
def DnS (e:Env) (s:Sc) (v:Value):Prop:=match s with
 | .i k n=>v=.int k n
 | .b b=>v=.bool b
 | .p id off=>e.dom id/\v=.pointer (some (adr e id off))
 | .o x=>DnO e x v
def DnC (e:Env) (s:Sc) (v:Value):Prop:=DnS e s v/\v.oneCell'=true
def zB {α β:Type} (p:α->β->Prop):List α->List β->Prop
 | [],[]=>True
 | x::l,y::m=>p x y/\zB p l m
 | _,_=>False
def DnT (e:Env) (s:Sc ⊕ List Sc) (v:Value):Prop:=match s with
 | .inl s=>DnS e s v
 | .inr l=>∃ vs,v=.agg ⟨vs⟩/\zB (DnC e) l vs
def Dn (e:Env) (a:AV) (v:Value):Prop:=match a with
 | .x s=>DnS e s v
 | .a l=>∃ vs,v=.agg ⟨vs⟩/\zB (DnC e) l vs
 | .t l=>∃ vs,v=.tuple ⟨vs⟩/\zB (DnT e) l vs
section all2
variable {α β:Type} {p q:α->β->Prop}
theorem zB.mono (h:∀ x y,p x y->q x y):∀ {l:List α} {m:List β},zB p l m->zB q l m
 | [],[],_=>trivial
 | _::_,_::_,⟨a,b⟩=>⟨h _ _ a,b.mono h⟩
 | [],_::_,k=>k.elim
 | _::_,[],k=>k.elim
theorem zB.length:∀ {l:List α} {m:List β},zB p l m->l.length=m.length
 | [],[],_=>rfl
 | _::_,_::_,⟨_,b⟩=>by simp[b.length]
 | [],_::_,k=>k.elim
 | _::_,[],k=>k.elim
theorem zB.at:∀ {l:List α} {m:List β},zB p l m->∀ {j:Nat} {x:α} {y:β},l[j]? = some x->m[j]? = some y->p x y
 | [],[],_,j,x,y,h,_=>by simp at h
 | _::_,_::_,⟨a,b⟩,0,x,y,h,k=>by simp at h k;subst h;subst k;exact a
 | _::_,_::_,⟨a,b⟩,j+1,x,y,h,k=>b.at (by simpa using h) (by simpa using k)
 | [],_::_,k,_,_,_,_,_=>k.elim
 | _::_,[],k,_,_,_,_,_=>k.elim
theorem zB.of_at:∀ {l:List α} {m:List β},l.length=m.length->(∀ (j:Nat) (x:α) (y:β),l[j]? = some x->m[j]? = some y->p x y)->zB p l m
 | [],[],_,_=>trivial
 | x::l,y::m,hl,h=>⟨h 0 x y rfl rfl,zB.of_at (by simpa using hl) λj a b ha hb=>h (j+1) a b (by simpa using ha) (by simpa using hb)⟩
 | [],_::_,hl,_=>by simp at hl
 | _::_,[],hl,_=>by simp at hl
theorem zB.append:∀ {l:List α} {m:List β} {l':List α} {m':List β},zB p l m->zB p l' m'->zB p (l++l') (m++m')
 | [],[],_,_,_,h=>h
 | _::_,_::_,_,_,⟨a,b⟩,h=>⟨a,b.append h⟩
 | [],_::_,_,_,k,_=>k.elim
 | _::_,[],_,_,k,_=>k.elim
theorem zB.take:∀ {l:List α} {m:List β} (n:Nat),zB p l m->zB p (l.take n) (m.take n)
 | _,_,0,_=>by simp[zB]
 | [],[],_+1,_=>trivial
 | _::_,_::_,n+1,⟨a,b⟩=>⟨a,b.take n⟩
 | [],_::_,_+1,k=>k.elim
 | _::_,[],_+1,k=>k.elim
theorem zB.drop:∀ {l:List α} {m:List β} (n:Nat),zB p l m->zB p (l.drop n) (m.drop n)
 | _,_,0,h=>h
 | [],[],_+1,_=>trivial
 | _::_,_::_,n+1,⟨_,b⟩=>b.drop n
 | [],_::_,_+1,k=>k.elim
 | _::_,[],_+1,k=>k.elim
theorem zB.right:∀ {l:List α} {m:List β} {r:β->Prop},zB p l m->(∀ x y,p x y->r y)->∀ y∈m,r y
 | [],[],_,_,_,y,hy=>by cases hy
 | x::_,z::_,_,⟨a,b⟩,h,y,hy=>by
  rcases List.mem_cons.1 hy with rfl | hy
  ·exact h _ _ a
  ·exact b.right h y hy
 | [],_::_,_,k,_,_,_=>k.elim
 | _::_,[],_,k,_,_,_=>k.elim
end all2
section ext
variable {e e':Env} (h:Ext e e')
include h
theorem DnO.ext {x:So} {v:Value} (k:DnO e x v):DnO e' x v:=by
 cases x with
 | u=>trivial
 | n=>exact k
 | s id off len cap=>exact⟨h.dom _ k.1,by rw[k.2,adr,adr,h.blk _ k.1]⟩
 | w id off len ct=>exact⟨h.dom _ k.1,by rw[k.2.1,adr,adr,h.blk _ k.1,h.cap _ k.1],by rw[h.cap _ k.1];exact k.2.2⟩
 | m id=>exact⟨h.dom _ k.1,by rw[k.2,h.blk _ k.1]⟩
 | f id=>exact⟨h.dom _ k.1,by rw[k.2.1,h.clo _ k.1],k.2.2⟩
 | y id=>exact⟨h.dom _ k.1,by rw[k.2,h.blk _ k.1]⟩
 | e=>exact k
 | c u=>exact k
theorem DnS.ext {s:Sc} {v:Value} (k:DnS e s v):DnS e' s v:=by
 cases s with
 | i=>exact k
 | b=>exact k
 | p id off=>exact⟨h.dom _ k.1,by rw[k.2,adr,adr,h.blk _ k.1]⟩
 | o x=>exact DnO.ext h k
theorem DnC.ext {s:Sc} {v:Value} (k:DnC e s v):DnC e' s v:=⟨k.1.ext h,k.2⟩
theorem DnT.ext {s:Sc ⊕ List Sc} {v:Value} (k:DnT e s v):DnT e' s v:=by
 cases s with
 | inl s=>exact DnS.ext h k
 | inr l=>obtain⟨vs,h1,h2⟩:=k;exact⟨vs,h1,h2.mono λ_ _=>DnC.ext h⟩
theorem Dn.ext {a:AV} {v:Value} (k:Dn e a v):Dn e' a v:=by
 cases a with
 | x s=>exact DnS.ext h k
 | a l=>obtain⟨vs,h1,h2⟩:=k;exact⟨vs,h1,h2.mono λ_ _=>DnC.ext h⟩
 | t l=>obtain⟨vs,h1,h2⟩:=k;exact⟨vs,h1,h2.mono λ_ _=>DnT.ext h⟩
/-! What was known of a value before, is known of it in the smaller frame. -/
theorem DnO.back {x:So} {u v:Value} (k:DnO e x u) (k':DnO e' x v):DnO e x v:=by
 cases x with
 | u=>trivial
 | n=>exact k'
 | s id off len cap=>exact⟨k.1,by rw[k'.2,adr,adr,h.blk _ k.1]⟩
 | w id off len ct=>exact⟨k.1,by rw[k'.2.1,adr,adr,h.blk _ k.1,h.cap _ k.1],k.2.2⟩
 | m id=>exact⟨k.1,by rw[k'.2,h.blk _ k.1]⟩
 | f id=>exact⟨k.1,by rw[k'.2.1,h.clo _ k.1],k'.2.2⟩
 | y id=>exact⟨k.1,by rw[k'.2,h.blk _ k.1]⟩
 | e=>exact k'
 | c u=>exact k'
theorem DnS.back {s:Sc} {u v:Value} (k:DnS e s u) (k':DnS e' s v):DnS e s v:=by
 cases s with
 | i=>exact k'
 | b=>exact k'
 | p id off=>exact⟨k.1,by rw[k'.2,adr,adr,h.blk _ k.1]⟩
 | o x=>exact DnO.back h k k'
theorem DnC.back {s:Sc} {u v:Value} (k:DnC e s u) (k':DnC e' s v):DnC e s v:=⟨k.1.back h k'.1,k'.2⟩
theorem zB.backC:∀ {l:List Sc} {us vs:List Value},zB (DnC e) l us->zB (DnC e') l vs->zB (DnC e) l vs
 | [],[],[],_,_=>trivial
 | _::_,_::_,_::_,⟨a,b⟩,⟨a',b'⟩=>⟨a.back h a',b.backC b'⟩
 | [],_,_::_,_,k=>k.elim
 | [],_::_,_,k,_=>k.elim
 | _::_,[],_,k,_=>k.elim
 | _::_,_,[],_,k=>k.elim
theorem DnT.back {s:Sc ⊕ List Sc} {u v:Value} (k:DnT e s u) (k':DnT e' s v):DnT e s v:=by
 cases s with
 | inl s=>exact DnS.back h k k'
 | inr l=>obtain⟨us,_,h2⟩:=k;obtain⟨vs,h3,h4⟩:=k';exact⟨vs,h3,h2.backC h h4⟩
theorem zB.backT:∀ {l:List (Sc ⊕ List Sc)} {us vs:List Value},zB (DnT e) l us->zB (DnT e') l vs->zB (DnT e) l vs
 | [],[],[],_,_=>trivial
 | _::_,_::_,_::_,⟨a,b⟩,⟨a',b'⟩=>⟨a.back h a',b.backT b'⟩
 | [],_,_::_,_,k=>k.elim
 | [],_::_,_,k,_=>k.elim
 | _::_,[],_,k,_=>k.elim
 | _::_,_,[],_,k=>k.elim
theorem Dn.back {a:AV} {u v:Value} (k:Dn e a u) (k':Dn e' a v):Dn e a v:=by
 cases a with
 | x s=>exact DnS.back h k k'
 | a l=>obtain⟨us,_,h2⟩:=k;obtain⟨vs,h3,h4⟩:=k';exact⟨vs,h3,h2.backC h h4⟩
 | t l=>obtain⟨us,_,h2⟩:=k;obtain⟨vs,h3,h4⟩:=k';exact⟨vs,h3,h2.backT h h4⟩
end ext
/-! ### Frames -/
def qF (e:Env) (n:Nat) (Z:Nat->Prop) (τ:L3) (tmps:Array Value):Prop:=tmps.size=n/\n<=512/\∀ t v,tmps[t]? = some v->¬ Z t->Dn e ((q3 t).g τ) v
abbrev noZ:Nat->Prop:=λ_=>False
theorem qF.ext {e e':Env} (h:Ext e e') {n:Nat} {Z:Nat->Prop} {τ:L3} {tmps:Array Value} (k:qF e n Z τ tmps):qF e' n Z τ tmps:=⟨k.1,k.2.1,λt v hv hz=>(k.2.2 t v hv hz).ext h⟩
theorem qF.put {e:Env} {n:Nat} {Z Z':Nat->Prop} {τ τ':L3} {a:Act} (k:qF e n Z τ a.tmps) {d:Nat} (hd:d<n) {x:AV} {v:Value} (hx:Dn e x v)
  (ht:∀ j,j<512->(q3 j).g τ'=if j=d then x else (q3 j).g τ) (hz:∀ t,¬ Z' t->t≠d->¬ Z t):qF e n Z' τ' (a.put (some d) v).tmps:=by
 obtain⟨h1,h2,h3⟩:=k;refine⟨by simp[Act.put,h1],h2,λt u hu hzt=>?_⟩;simp only[Act.put]at hu;have htn:t<n:=by
  have:=(Array.getElem?_eq_some_iff.1 hu).1
  simpa [h1]using this
 rw[ht t (by omega)];split
 ·rename_i e;subst e;rw[Array.getElem?_setIfInBounds_self]at hu;simp[h1,htn]at hu;subst hu;exact hx
 ·rename_i e;rw[Array.getElem?_setIfInBounds_ne (λe'=>e e'.symm)]at hu;exact h3 t u hu (hz t hzt e)
/-! ### Memory -/
def TOk (e:Env) (n:Nat) (t:TV) (cs:List Value):Prop:=n<=cs.length/\n<=kU t/\∀ j,j<n->∃ s v,cs[j]? = some v/\t.get j=.x s/\DnC e s v
theorem TOk.ext {e e':Env} (h:Ext e e') {n:Nat} {t:TV} {cs:List Value} (k:TOk e n t cs):TOk e' n t cs:=⟨k.1,k.2.1,λj hj=>by obtain⟨s,v,h1,h2,h3⟩:=k.2.2 j hj;exact⟨s,v,h1,h2,h3.ext h⟩⟩
def DnE (e:Env) (p:AV×AV) (en:MapEntry):Prop:=Dn e p.1 en.key/\Dn e p.2 en.val
theorem DnE.ext {e e':Env} (h:Ext e e') {p:AV×AV} {en:MapEntry} (k:DnE e p en):DnE e' p en:=⟨k.1.ext h,k.2.ext h⟩
def MOk (e:Env) (l:List (AV×AV)) (es:List MapEntry) (c:Nat):Prop:=zB (DnE e) l es/\(es.map (·.born)).Nodup/\∀ en∈es,en.born<c
theorem MOk.ext {e e':Env} (h:Ext e e') {l:List (AV×AV)} {es:List MapEntry} {c:Nat} (k:MOk e l es c):MOk e' l es c:=⟨k.1.mono λ_ _=>DnE.ext h,k.2⟩
def exC:Ex->Code
 | .n=>.skip
 | .x i=>.exit i
 | .r=>.ret
def qY (seen:Array Nat) (zs:List (MapEntry×Bool)):List MapEntry:=(zs.filter λz=>z.2 || !seen.contains z.1.born).map (·.1)
def remB (seen:Array Nat) (l:List (AV×AV)) (es:List MapEntry):List (AV×AV):=((l.zip es).filter λz=>!seen.contains z.2.born).map (·.1)
def ItAt (w:World) (b r:Nat) (es:List MapEntry) (c since:Nat) (seen:Array Nat) (c0:Nat):Prop:=w.heap[b]? = some (.map ⟨es⟩ c)/\w.heap[r]? = some (.mapIter (some b) since seen c0)/\since<=c0
def Old (es:List MapEntry) (since:Nat) (seen:Array Nat) (g:Nat):Prop:=(∀ en∈es,en.born<since)/\seen.toList.Nodup/\(∀ b∈seen.toList,b∈es.map (·.born))/\seen.size=g
def UnS (x:Nat) (es:List MapEntry) (seen:Array Nat):Prop:=∀ i en,x=i+1->es[i]? = some en->seen.contains en.born=false
def OOk (e:Env) (h:H) (w:World) (id:Nat) (b:BO):Prop:=match b with
 | .m l=>∃ es c,w.heap[e.blk id]? = some (.map ⟨es⟩ c)/\MOk e l es c
 | .h=>True
 | .g key gone L=>∃ (l:List (AV×AV)) (es:List MapEntry) (c:Nat),w.heap[e.blk id]? = some (.map ⟨es⟩ c)/\MOk e l es c/\dstK l=true/\(l.Sublist (L.map (·.1))/\∃ es0,zB (DnE e) (L.map (·.1)) es0)/\(gone=false->∃ (i:Nat) (p:AV×AV),l[i]? = some p/\p.1=key)
 | .f fn fs cs=>∃ us vs,e.clo id=.func (.func fn) ⟨us⟩ ⟨vs⟩/\zB (Dn e) fs us/\zB (Dn e) cs vs
 | .l ps a b t=>∃ r:Loop,w.heap[e.blk id]? = some (.loop { r with state:=.ready,pending:=none })/\r.params.toList=ps/\r.assign=a/\r.body=b/\qF e r.tmps.size noZ t r.tmps/\(∀ p∈ps,p<r.tmps.size)/\okC r.tmps.size a=true/\okC r.tmps.size b=true/\r.tmps.size=e.gh id
 | .d ex=>∃ r:Loop,w.heap[e.blk id]? = some (.loop { r with state:=.done,pending:=some (exC ex) })
 | .i m l=>e.dom m/\hget h m=.o .h/\∃ (es:List MapEntry) (c:Nat),ItAt w (e.blk m) (e.blk id) es c c #[] c/\MOk e l es c
 | .b _ _ _=>False
 | .c m k v l rem=>e.dom m/\hget h m=.o .h/\∃ (es:List MapEntry) (c since:Nat) (seen:Array Nat) (en:MapEntry),ItAt w (e.blk m) (e.blk id) es c since (seen.push en.born) c/\MOk e l es c/\(∀ en∈es,en.born<since)/\rem=remB (seen.push en.born) l es/\en∈es/\DnE e (k,v) en
 | .j m l x=>e.dom m/\hget h m=.o .h/\∃ (es:List MapEntry) (c since:Nat) (seen:Array Nat),ItAt w (e.blk m) (e.blk id) (qY seen (es.zip (l.map (·.2)))) c since seen c/\MOk e (l.map (·.1)) es c/\Old es since seen (e.gh id)/\dstK (l.map (·.1))=true/\UnS x es seen
 | .k m key v l keep x cur=>e.dom m/\∃ gone L,hget h m=.o (.g key gone L)/\∃ (es:List MapEntry) (c since:Nat) (seen:Array Nat) (j:Nat) (en:MapEntry),es[j]? = some en/\l[j]? = some ((key,v),keep)/\
   ItAt w (e.blk m) (e.blk id) (qY (seen.push en.born) (es.zip ((l.map (·.2)).set j (!gone)))) c since (seen.push en.born) c/\MOk e (l.map (·.1)) es c/\Old es since (seen.push en.born) (e.gh id+1)/\dstK (l.map (·.1))=true/\(cur=false->UnS x es (seen.push en.born))
 | .q _ _ _=>False
 | .z=>True
 | .t=>e.gh id=0->w.heap[e.blk id]? = some (.deferred (some []))
 | .v bz ps a b t=>∃ r:Loop,w.heap[e.blk id]? = some (.loop { r with state:=if bz then .busy else .ready,pending:=none })/\r.params.toList=ps/\r.assign=a/\r.body=b/\qF e r.tmps.size noZ t r.tmps/\(∀ p∈ps,p<r.tmps.size)/\okC r.tmps.size a=true/\okC r.tmps.size b=true/\r.tmps.size=e.gh id
def BOk (e:Env) (h:H) (w:World) (id:Nat) (b:B):Prop:=match b with
 | .x=>True
 | .c E n t=>∃ cs,w.heap[e.blk id]? = some (LC cs E)/\cs.length=n/\TOk e n t cs
 | .r E n t=>∃ cs z,w.heap[e.blk id]? = some (LC cs E)/\TOk e n t cs/\tkB Pr E=some z/\cs.length=e.cap id*z.2/\e.cap id<=maxLen
 | .o b=>OOk e h w id b
def inB (b:B):Prop:=match b with
 | .x=>False
 | .o (.f ..)=>False
 | _=>True
def refM (b:B):Option Nat:=match b with
 | .o (.i m _)=>some m
 | .o (.b m _ _)=>some m
 | .o (.c m _ _ _ _)=>some m
 | .o (.j m _ _)=>some m
 | .o (.k m _ _ _ _ _ _)=>some m
 | _=>none
structure zq (w0:World) (e:Env) (h:H) (w:World):Prop where
 below:Below w0.heap.size w0 w
 top:h.nxt<=32768
 lt:∀ id,e.dom id->id<h.nxt
 ok:∀ id,e.dom id->BOk e h w id (hget h id)
 low:∀ id,e.dom id->inB (hget h id)->w0.heap.size<=e.blk id/\e.blk id<w.heap.size
 inj:∀ i j,e.dom i->e.dom j->inB (hget h i)->inB (hget h j)->e.blk i=e.blk j->i=j
 none:∀ id,id<32768->h.nxt<=id->hget h id=.x
 uniq:∀ i j m,e.dom i->e.dom j->refM (hget h i)=some m->refM (hget h j)=some m->i=j
def H.act (h:H) (id:Nat):Prop:=h.ac.1=id+1\/h.ac.2=id+1
def fixB (b:B):Prop:=match b with
 | .o .t=>True
 | .o (.v ..)=>True
 | _=>False
def jkB (m:Nat) (l:List ((AV×AV)×Bool)) (x:Nat) (b:B):Prop:=b=.o .z\/b=.o (.j m l x)\/∃ key v keep cur,b=.o (.k m key v l keep x cur)
def jU (b b':B):Prop:=match b with
 | .o .t=>b'=b
 | .o (.v ..)=>b'=b
 | .o (.j m l x)=>jkB m l x b'
 | .o (.k m _ _ l _ x _)=>jkB m l x b'
 | .o .z=>b'=.o .z
 | _=>True
theorem jU.refl (b:B):jU b b:=by
 cases b with
 | o b=>cases b<;>first | trivial | rfl | exact .inr (.inl rfl) | exact .inr (.inr ⟨_,_,_,_,rfl⟩)
 | _=>trivial
theorem jkB.trans {m x:Nat} {l:List ((AV×AV)×Bool)} {b c:B} (h:jkB m l x b) (k:jU b c):jkB m l x c:=by
 rcases h with rfl | rfl | ⟨y1,y2,y3,y4,rfl⟩
 ·exact .inl k
 ·exact k
 ·exact k
theorem jU.trans {a b c:B} (h:jU a b) (k:jU b c):jU a c:=by
 cases a with
 | o q=>
  cases q with
  | t=>have h':b=.o .t:=h;subst h';exact k
  | v bz ps x y t=>have h':b=.o (.v bz ps x y t):=h;subst h';exact k
  | z=>have h':b=.o .z:=h;subst h';exact k
  | j m l x=>exact jkB.trans h k
  | k m key v l keep x cur=>exact jkB.trans h k
  | _=>trivial
 | _=>trivial
structure Fr (e:Env) (h:H) (e':Env) (h':H):Prop where
 ext:Ext e e'
 nxt:h.nxt<=h'.nxt
 lo:h'.lo<=h.lo
 ac:h'.ac=h.ac
 new:∀ id,e'.dom id->e.dom id\/h.nxt<=id
 out:∀ id,id<h.nxt->¬ e.dom id->hget h' id=hget h id
 prot:∀ id,id<h.nxt->id<h'.lo->¬ h.act id->hget h' id=hget h id
 kp:∀ id,id<h.nxt->jU (hget h id) (hget h' id)
theorem Fr.refl (e:Env) (h:H):Fr e h e h:=⟨.refl e,Nat.le_refl _,Nat.le_refl _,rfl,λ_ h=>.inl h,λ_ _ _=>rfl,λ_ _ _ _=>rfl,λ_ _=>.refl _⟩
theorem Fr.trans {e e' e'':Env} {h h' h'':H} (a:Fr e h e' h') (b:Fr e' h' e'' h''):Fr e h e'' h'':=by
 refine⟨a.ext.trans b.ext,Nat.le_trans a.nxt b.nxt,Nat.le_trans b.lo a.lo,b.ac.trans a.ac,λid hi=>?_,λid hi hd=>?_,λid hn hi hr=>?_,λid hn=>(a.kp id hn).trans (b.kp id (Nat.lt_of_lt_of_le hn a.nxt))⟩
 ·rcases b.new id hi with h1 | h1
  ·exact a.new id h1
  ·exact .inr (Nat.le_trans a.nxt h1)
 ·have hd':¬ e'.dom id:=λk=>by
   rcases a.new id k with h1 | h1
   ·exact hd h1
   ·omega
  rw[b.out id (Nat.lt_of_lt_of_le hi a.nxt) hd',a.out id hi hd]
 ·rw[b.prot id (Nat.lt_of_lt_of_le hn a.nxt) hi (by unfold H.act at hr⊢;rw[a.ac];exact hr),a.prot id hn (Nat.lt_of_lt_of_le hi b.lo) hr]
theorem jU.fix {b c:B} (h:jU b c) (k:fixB b):c=b:=by
 cases b with
 | o q=>cases q<;>first | exact k.elim | exact h
 | _=>exact k.elim
theorem Fr.mark {e e':Env} {h h':H} (F:Fr e h e' h'):∀ id,id<h.nxt->fixB (hget h id)->hget h' id=hget h id:=λid hn hf=>(F.kp id hn).fix hf
section laws
variable {Y Z:Type} {z:Z}
theorem zA {o:Option Y} {k:Y->Option Z} (h:obn o k=some z):∃ y,o=some y/\k y=some z:=by
 cases o with
 | none=>cases h
 | some y=>exact⟨y,rfl,h⟩
theorem zk {b:Bool} {x:Option Z} (h:gd b x=some z):b=true/\x=some z:=by
 cases b with
 | true=>exact⟨rfl,h⟩
 | false=>cases h
theorem qB {v:AV} {K:IntKind->Int->Option Z} (h:asI v K=some z):∃ k n,v=.i k n/\K k n=some z:=by
 cases v with
 | x s=>
  cases s with
  | i k n=>exact⟨k,n,rfl,h⟩
  | b=>cases h
  | p=>cases h
  | o x=>cases h
 | a l=>cases h
 | t l=>cases h
theorem asB_law {v:AV} {K:Bool->Option Z} (h:asB v K=some z):∃ b,v=.b b/\K b=some z:=by
 cases v with
 | x s=>
  cases s with
  | i k n=>cases h
  | b b=>exact⟨b,rfl,h⟩
  | p=>cases h
  | o x=>cases h
 | a l=>cases h
 | t l=>cases h
theorem qW {v:AV} {K:Nat->Nat->Option Z} (h:asP v K=some z):∃ i o,v=.x (.p i o)/\K i o=some z:=by
 cases v with
 | x s=>
  cases s with
  | i k n=>cases h
  | b=>cases h
  | p i o=>exact⟨i,o,rfl,h⟩
  | o x=>cases h
 | a l=>cases h
 | t l=>cases h
theorem qj {v:AV} {K:So->Option Z} (h:asO v K=some z):∃ x,v=.x (.o x)/\K x=some z:=by
 cases v with
 | x s=>
  cases s with
  | i k n=>cases h
  | b=>cases h
  | p=>cases h
  | o x=>exact⟨x,rfl,h⟩
 | a l=>cases h
 | t l=>cases h
theorem jK {v:AV} {K:List Sc->Option Z} (h:asA v K=some z):∃ l,v=.a l/\K l=some z:=by
 cases v with
 | x s=>cases h
 | a l=>exact⟨l,rfl,h⟩
 | t l=>cases h
theorem asT_law {v:AV} {K:List (Sc ⊕ List Sc)->Option Z} (h:asT v K=some z):∃ l,v=.t l/\K l=some z:=by
 cases v with
 | x s=>cases h
 | a l=>cases h
 | t l=>exact⟨l,rfl,h⟩
theorem frc_s_eq (s:Sc) (K:Sc->Z):frc_s s K=K s:=by cases s<;>rfl
theorem kR (v:AV) (K:AV->Z):frc v K=K v:=by cases v<;>rfl
def Sc.cel (s:Sc):Prop:=match s with | .o .u=>False | .o .n=>False | _=>True
theorem cel_law {s:Sc} {K:Sc->Option Z} (h:Ev.cel s K=some z):s.cel/\K s=some z:=by
 cases s with
 | i k n=>exact⟨trivial,h⟩
 | b=>exact⟨trivial,h⟩
 | p=>exact⟨trivial,h⟩
 | o x=>cases x<;>first | exact⟨trivial,h⟩ | cases h
theorem scal_law {v:AV} {K:Sc->Option Z} (h:scal v K=some z):∃ s,v=.x s/\K s=some z:=by
 cases v with
 | x s=>exact⟨s,rfl,(frc_s_eq s K).symm.trans h⟩
 | a l=>cases h
 | t l=>cases h
theorem qz {α:Type} : ∀ l:List α,len l=l.length
 | []=>rfl
 | _::l=>congrArg Nat.succ (qz l)
theorem jJ {α:Type} : ∀ a b:List α,app a b=a++b
 | [],_=>rfl
 | x::a,b=>congrArg (x::·) (jJ a b)
theorem drp_eq {α:Type} : ∀ (n:Nat) (l:List α),drp l n=l.drop n
 | 0,l=>rfl
 | n+1,[]=>rfl
 | n+1,_::l=>drp_eq n l
theorem tke_law:∀ {n:Nat} {l:List Sc} {K:List Sc->Option Z},tke l n K=some z->n<=l.length/\K (l.take n)=some z
 | 0,l,K,h=>⟨Nat.zero_le _,by have h':K []=some z:=h;simpa using h'⟩
 | n+1,[],K,h=>by cases h
 | n+1,s::l,K,h=>by
  have:=tke_law (n:=n) (l:=l) (K:=λr=>K (s::r)) h
  exact⟨by simp;omega,by simpa using this.2⟩
theorem repL_len:∀ (m:Nat) (l:List Sc),(repL l m).length=m*l.length
 | 0,l=>by show([]:List Sc).length=_;simp
 | m+1,l=>by
  have:repL l (m+1)=app l (repL l m):=rfl
  rw[this,jJ,List.length_append,repL_len m l,Nat.add_mul];omega
theorem nn_law {a:Int} {K:Nat->Option Z} (h:nn a K=some z):∃ m:Nat,a=(m:Int)/\K m=some z:=by
 cases a with
 | ofNat m=>exact⟨m,rfl,h⟩
 | negSucc m=>cases h
theorem idx_law {i:Int} {n:Nat} {K:Nat->Option Z} (h:idx i n K=some z):∃ j:Nat,i=(j:Int)/\j<n/\K j=some z:=by
 cases i with
 | ofNat j=>
  obtain⟨h1,h2⟩:=zk h;exact⟨j,rfl,by simpa [Nat.blt_eq]using h1,h2⟩
 | negSucc m=>cases h
theorem el_law {X:TypeId} {K:Nat->Nat->Option Z} (h:el X K=some z):∃ E s ag,Pr.underlying X=some (.slice E)/\tkB Pr E=some (ag,s)/\K E s=some z:=by
 unfold el elB at h;split at h
 ·rename_i E hu;cases ht:tkB Pr E with
  | none=>rw[ht]at h;cases h
  | some q=>rw[ht]at h;exact⟨E,q.2,q.1,hu,ht,h⟩
 ·cases h
theorem ar_law {X:TypeId} {K:Nat×Nat×Nat×Bool->Option Z} (h:ar X K=some z):∃ n E s ag,Pr.underlying X=some (.array n E)/\tkB Pr E=some (ag,s)/\K (n,E,s,ag)=some z:=by
 unfold ar arB at h;split at h
 ·rename_i n E hu;cases ht:tkB Pr E with
  | none=>rw[ht]at h;cases h
  | some q=>rw[ht]at h;exact⟨n,E,q.2,q.1,hu,ht,h⟩
 ·cases h
theorem qJ {h:H} {id:Nat} {K:BO->Option Z} (hh:blkO h id K=some z):∃ b,hget h id=.o b/\K b=some z:=by
 unfold blkO at hh;cases hb:hget h id with
 | x=>rw[hb]at hh;cases hh
 | c=>rw[hb]at hh;cases hh
 | r=>rw[hb]at hh;cases hh
 | o b=>rw[hb]at hh;exact⟨b,rfl,hh⟩
theorem qI {h:H} {id:Nat} {K:Nat->Nat->TV->Option Z} (hh:jd h id K=some z):∃ E n t,(hget h id=.c E n t\/hget h id=.r E n t)/\K E n t=some z:=by
 unfold jd at hh;cases hb:hget h id with
 | x=>rw[hb]at hh;cases hh
 | c E n t=>rw[hb]at hh;exact⟨E,n,t,.inl rfl,hh⟩
 | r E n t=>rw[hb]at hh;exact⟨E,n,t,.inr rfl,hh⟩
 | o b=>rw[hb]at hh;cases hh
theorem asM_law {v:AV} {K:Nat->Option Z} (h:asM v K=some z):∃ id,v=.x (.o (.m id))/\K id=some z:=by obtain⟨x,rfl,Hn⟩:=qj h;clear h;have h:=Hn;clear Hn;cases x<;>first | exact⟨_,rfl,h⟩ | cases h
theorem mapB_law {h:H} {id:Nat} {K:List (AV×AV)->Option Z} (hh:mapB h id K=some z):∃ l,hget h id=.o (.m l)/\K l=some z:=by obtain⟨b,h1,h2⟩:=qJ hh;cases b<;>first | exact⟨_,h1,h2⟩ | cases h2
theorem toSum_law {v:AV} {K:Sc ⊕ List Sc->Option Z} (h:toSum v K=some z):(∃ s,v=.x s/\K (.inl s)=some z)\/(∃ l,v=.a l/\K (.inr l)=some z):=by
 cases v with
 | x s=>exact .inl ⟨s,rfl,h⟩
 | a l=>exact .inr ⟨l,rfl,h⟩
 | t l=>cases h
theorem jm {l:List AV} {K:AV->Option Z} (h:jv l K=some z):∃ x,l=[x]/\K x=some z:=by
 cases l with
 | nil=>cases h
 | cons x l=>cases l with
  | nil=>exact⟨x,rfl,h⟩
  | cons y l=>cases h
theorem jL {l:List AV} {K:AV->AV->Option Z} (h:jW l K=some z):∃ x y,l=[x,y]/\K x y=some z:=by
 cases l with
 | nil=>cases h
 | cons x l=>obtain⟨y,rfl,Hn⟩:=jm (l:=l) (K:=K x) h;clear h;have h:=Hn;clear Hn;exact⟨x,y,rfl,h⟩
theorem qV {τ:L3} : ∀ {l:List Operand} {K:List AV->Option Z},evL l τ K=some z->K (l.map λo=>(evO o).v τ)=some z
 | [],K,h=>h
 | o::l,K,h=>by
  have h':(frc ((evO o).v τ) λv=>evL l τ λr=>K (v::r))=some z:=h
  rw[kR]at h';exact qV (l:=l) (K:=λr=>K ((evO o).v τ::r)) h'
end laws
/-! ### Cells -/
theorem TV.set_law (t:TV) {i:Nat} (hi:i<kU t) (v:AV):∃ t',kU t'=kU t/\(∀ {Z:Type} (k:TV->Z),t.set i v k=k t')/\∀ j,j<kU t->t'.get j=if j=i then v else t.get j:=by
 cases t with
 | s x=>obtain⟨y,h1,h2⟩:=q1_set x v hi;exact⟨.s y,rfl,λk=>h1 _,λj hj=>h2 j hj⟩
 | t x=>obtain⟨y,h1,h2⟩:=q2_set x v hi;exact⟨.t y,rfl,λk=>h1 _,λj hj=>h2 j hj⟩
 | m x=>obtain⟨y,h1,h2⟩:=q3_set x v hi;exact⟨.m y,rfl,λk=>h1 _,λj hj=>h2 j hj⟩
 | l x=>obtain⟨y,h1,h2⟩:=q4_set x v hi;exact⟨.l y,rfl,λk=>h1 _,λj hj=>h2 j hj⟩
theorem TV.emp_law {Z:Type} {z:Z} {n:Nat} {k:TV->Option Z} (h:TV.emp n k=some z):∃ t,n<=kU t/\k t=some z:=by
 unfold TV.emp at h;cases h1:Nat.ble n 8 with
 | true=>rw[h1]at h;exact⟨.s L1.e,(Nat.le_of_ble_eq_true h1:n<=8),h⟩
 | false=>
  rw[h1]at h;cases h2:Nat.ble n 64 with
  | true=>rw[h2]at h;exact⟨.t L2.e,(Nat.le_of_ble_eq_true h2:n<=64),h⟩
  | false=>
   rw[h2]at h;cases h3:Nat.ble n 512 with
   | true=>rw[h3]at h;exact⟨.m L3.e,(Nat.le_of_ble_eq_true h3:n<=512),h⟩
   | false=>
    rw[h3]at h;cases h4:Nat.ble n 4096 with
    | true=>rw[h4]at h;exact⟨.l L4.e,(Nat.le_of_ble_eq_true h4:n<=4096),h⟩
    | false=>rw[h4]at h;cases h
theorem kQ {Z:Type} {z:Z} {t:TV} : ∀ {n off:Nat} {K:List Sc->Option Z},getL t off n K=some z->∃ l,l.length=n/\(∀ j s,l[j]? = some s->t.get (off+j)=.x s)/\K l=some z
 | 0,off,K,h=>⟨[],rfl,λj s hj=>by simp at hj,h⟩
 | n+1,off,K,h=>by
  have h':(nat off λoff=>scal (t.get off) λv=>getL t (Nat.succ off) n λl=>K (v::l))=some z:=h
  rw[nat_eq]at h';obtain⟨s,h1,h2⟩:=scal_law h';obtain⟨l,h3,h4,h5⟩:=kQ h2;refine⟨s::l,by simp[h3],λj u hj=>?_,h5⟩;cases j with
  | zero=>simp at hj;subst hj;exact h1
  | succ j=>
   have:=h4 j u (by simpa using hj)
   rw[<-this];congr 1;simp only[Nat.succ_eq_add_one];omega
theorem setL_law {Z:Type} {z:Z} : ∀ {l:List Sc} {t:TV} {off:Nat} {K:TV->Option Z},setL l t off K=some z->off+l.length<=kU t->
  ∃ t',kU t'=kU t/\K t'=some z/\(∀ j s,l[j]? = some s->t'.get (off+j)=.x s)/\∀ j,j<kU t->(j<off\/off+l.length<=j)->t'.get j=t.get j
 | [],t,off,K,h,_=>⟨t,rfl,h,λj s hj=>by simp at hj,λ_ _ _=>rfl⟩
 | s::l,t,off,K,h,hc=>by
  have h':(nat off λoff=>t.set off (.x s) λt=>setL l t (Nat.succ off) K)=some z:=h
  rw[nat_eq]at h';simp only[List.length_cons]at hc;obtain⟨t1,c1,e1,g1⟩:=TV.set_law t (i:=off) (by omega) (.x s);rw[e1]at h';obtain⟨t2,c2,e2,g2,g3⟩:=setL_law h' (by rw[c1];simp only[Nat.succ_eq_add_one];omega);refine⟨t2,c2.trans c1,e2,λj u hj=>?_,λj hj hn=>?_⟩
  ·cases j with
   | zero=>
    simp at hj;subst hj;rw[g3 _ (by rw[c1];omega) (by simp only[Nat.succ_eq_add_one];omega),g1 _ (by omega)];simp
   | succ j=>
    have:=g2 j u (by simpa using hj)
    rw[<-this];congr 1;simp only[Nat.succ_eq_add_one];omega
  ·simp only[List.length_cons]at hn;rw[g3 j (by rw[c1];exact hj) (by simp only[Nat.succ_eq_add_one];omega),g1 j hj,if_neg (by omega)]
theorem TOk.read {e:Env} {n:Nat} {t:TV} {cs:List Value} (h:TOk e n t cs):∀ {l:List Sc} {off:Nat},(∀ j s,l[j]? = some s->t.get (off+j)=.x s)->off+l.length<=n->zB (DnC e) l ((cs.drop off).take l.length)
 | [],off,_,_=>by simp[zB]
 | s::l,off,hl,hn=>by
  simp only[List.length_cons]at hn;obtain⟨s',v,h1,h2,h3⟩:=h.2.2 off (by omega);have hlt:=(List.getElem?_eq_some_iff.1 h1).1;have hv:=(List.getElem?_eq_some_iff.1 h1).2;rw[List.drop_eq_getElem_cons hlt,List.length_cons,List.take_succ_cons,hv];refine⟨?_,h.read (l:=l) (off:=off+1) (λj u hj=>?_) (by omega)⟩
  ·have:=hl 0 s rfl
   rw[Nat.add_zero,h2]at this;cases this;exact h3
  ·have:=hl (j+1) u (by simpa using hj)
   rw[<-this];congr 1;omega
theorem TOk.write {e:Env} {n:Nat} {t t':TV} {cs us:List Value} {l:List Sc} {off:Nat} (h:TOk e n t cs) (hu:zB (DnC e) l us) (hc:kU t'=kU t) (h1:∀ j s,l[j]? = some s->t'.get (off+j)=.x s)
  (h2:∀ j,j<kU t->(j<off\/off+l.length<=j)->t'.get j=t.get j) (hn:off+l.length<=n):TOk e n t' (cs.take off++us++cs.drop (off+us.length)):=by
 have hul:=hu.length
 have hcl:=h.1
 refine⟨by simp;omega,by rw[hc];exact h.2.1,λj hj=>?_⟩;by_cases c1:j<off
 ·obtain⟨s,v,a,b,c⟩:=h.2.2 j hj;refine⟨s,v,?_,by rw[h2 j (by have:=h.2.1;omega) (.inl c1)];exact b,c⟩;rw[List.append_assoc,List.getElem?_append_left (by simp;omega),List.getElem?_take,if_pos c1];exact a
 ·by_cases c2:j<off+l.length
  ·have hl:j-off<l.length:=by omega
   have hus:j-off<us.length:=by omega
   refine⟨l[j-off],us[j-off],?_,?_,hu.at (List.getElem?_eq_getElem hl) (List.getElem?_eq_getElem hus)⟩
   ·rw[List.append_assoc,List.getElem?_append_right (by simp;omega),List.getElem?_append_left (by simp;omega)];rw[List.length_take,Nat.min_eq_left (by omega)];exact List.getElem?_eq_getElem hus
   ·have:=h1 (j-off) _ (List.getElem?_eq_getElem hl)
    rw[<-this];congr 1;omega
  ·obtain⟨s,v,a,b,c⟩:=h.2.2 j hj;refine⟨s,v,?_,by rw[h2 j (by have:=h.2.1;omega) (.inr (by omega))];exact b,c⟩;rw[List.append_assoc,List.getElem?_append_right (by simp;omega),List.getElem?_append_right (by simp;omega)];rw[List.getElem?_drop,List.length_take,Nat.min_eq_left (by omega)];rw[<-a];congr 1;omega
theorem TOk.fresh {e:Env} {n:Nat} {t':TV} {us:List Value} {l:List Sc} (hu:zB (DnC e) l us) (hn:n=l.length) (hc:n<=kU t') (h1:∀ j s,l[j]? = some s->t'.get (0+j)=.x s):TOk e n t' us:=by
 have hul:=hu.length
 refine⟨by omega,hc,λj hj=>?_⟩;have hl:j<l.length:=by omega
 have hus:j<us.length:=by omega
 refine⟨l[j],us[j],List.getElem?_eq_getElem hus,?_,hu.at (List.getElem?_eq_getElem hl) (List.getElem?_eq_getElem hus)⟩;have:=h1 j _ (List.getElem?_eq_getElem hl);rwa[Nat.zero_add]at this
/-! ### Values' cells -/
theorem DnS.one {e:Env} {s:Sc} {v:Value} (h:DnS e s v) (hc:s.cel):v.oneCell'=true:=by
 cases s with
 | i k n=>rw[show v=_ from h];rfl
 | b b=>rw[show v=_ from h];rfl
 | p i o=>rw[h.2];rfl
 | o x=>
  cases x with
  | u=>exact hc.elim
  | n=>exact hc.elim
  | s=>rw[h.2];rfl
  | w=>rw[h.2.1];rfl
  | m=>rw[h.2];rfl
  | f=>obtain⟨fn,a,b,h⟩:=h.2.2;rw[h];rfl
  | y=>rw[h.2];rfl
  | e=>obtain⟨a,c,h⟩:=h;rw[h];rfl
  | c u=>rw[h.1];exact h.2
theorem cells_one {v:Value} (h:v.oneCell'=true):v.cells=#[v]:=by cases v<;>first | rfl | cases h
theorem cellsOf_law {Z:Type} {z:Z} {e:Env} {x:AV} {v:Value} {K:List Sc->Option Z} (h:cellsOf x K=some z) (hv:Dn e x v):∃ l us,K l=some z/\v.cells=⟨us⟩/\zB (DnC e) l us:=by
 cases x with
 | x s=>
  obtain⟨h1,h2⟩:=cel_law h;have h3:=hv.one h1;exact⟨[s],[v],h2,cells_one h3,⟨hv,h3⟩,trivial⟩
 | a l=>
  obtain⟨us,rfl,h2⟩:=hv;exact⟨l,us,h,rfl,h2⟩
 | t l=>cases h
theorem zB.one {e:Env} {l:List Sc} {us:List Value} (h:zB (DnC e) l us):∀ u∈us,u.oneCell'=true:=h.right λ_ _ h=>h.2
theorem of1_law {e:Env} {v:Value} {s:Sc} (h:of1 v=some s):DnC e s v:=by cases v<;>simp only[of1,Option.some.injEq,reduceCtorEq]at h<;>subst h<;>first | exact⟨rfl,rfl⟩ | exact⟨⟨rfl,rfl⟩,rfl⟩
theorem ofL_law {e:Env} : ∀ {l:List Value} {m:List Sc},ofL l=some m->zB (DnC e) m l
 | [],m,h=>by simp only[ofL,Option.some.injEq]at h;subst h;trivial
 | v::l,m,h=>by
  simp only[ofL]at h;split at h
  ·rename_i s r h1 h2;cases h;exact⟨of1_law h1,ofL_law h2⟩
  ·cases h
theorem ofV_law (e:Env) (v:Value):Dn e (ofV v) v:=by
 cases v<;>simp only[ofV]<;>first | exact⟨rfl,rfl⟩ | exact rfl | skip
 ·rename_i cs;split
  ·rename_i l h;exact⟨cs.toList,rfl,ofL_law h⟩
  ·exact trivial
 ·exact trivial
/-! ### Operands -/
theorem evO_law {e:Env} {n:Nat} {Z:Nat->Prop} {τ:L3} {a:Act} (h:qF e n Z τ a.tmps) {x:Operand} (hn:okO n x=true) (hz:∀ t,x=.tmp t->¬ Z t):Dn e ((evO x).v τ) (a.eval x):=by
 cases x with
 | tmp t=>
  have ht:t<a.tmps.size:=by rw[h.1];simpa [okO,Nat.blt_eq]using hn
  have hv:a.tmps[t]? = some (a.eval (.tmp t)):=by simp[Act.eval,ht]
  exact h.2.2 t _ hv (hz t rfl)
 | const v=>exact ofV_law e v
 | global g=>exact trivial
 | func f=>exact⟨rfl,rfl⟩
structure Put (h:H) (id:Nat) (b:B) (h':H):Prop where
 nxt:h'.nxt=h.nxt
 lo:h'.lo=h.lo
 ac:h'.ac=h.ac
 get:∀ j,j<32768->hget h' j=if j=id then b else hget h j
structure New (h:H) (b:B) (h':H):Prop where
 lt:h.nxt<32768
 nxt:h'.nxt=h.nxt+1
 lo:h'.lo=h.lo
 ac:h'.ac=h.ac
 get:∀ j,j<32768->hget h' j=if j=h.nxt then b else hget h j
 keep:hget h h.nxt=.x->∀ j,hget h j≠.x->hget h' j=hget h j
theorem qN {h:H} {id:Nat} {b:B} {K:H->R} {z:List (AV×H)} (hh:jc h id b K=some z) (hi:id<32768):∃ h',Put h id b h'/\K h'=some z:=by obtain⟨nxt,lo,ac,t⟩:=h;obtain⟨t',h1,h2⟩:=p5_set t b hi;have hh':((p5 id).s t b λt=>K (.mk nxt lo ac t))=some z:=hh;rw[h1]at hh';exact⟨⟨nxt,lo,ac,t'⟩,⟨rfl,rfl,rfl,λj hj=>h2 j hj⟩,hh'⟩
abbrev lowH (h:H) (id:Nat):H:=.mk h.nxt (bif Nat.ble h.lo id then h.lo else id) h.ac h.t
theorem lowH_le (h:H) (id:Nat):(lowH h id).lo<=h.lo/\(lowH h id).lo<=id:=by
 show(bif Nat.ble h.lo id then h.lo else id)<=h.lo/\(bif Nat.ble h.lo id then h.lo else id)<=id
 cases hb:Nat.ble h.lo id with
 | true=>have:=Nat.le_of_ble_eq_true hb;simp[this]
 | false=>
  have h:¬ h.lo<=id:=λk=>by rw[Nat.ble_eq_true_of_le k]at hb;cases hb
  simp only[cond_false];omega
theorem jS {h:H} {id:Nat} {b:B} {K:H->R} {z:List (AV×H)} (hh:kF h id b K=some z) (hi:id<32768):(lowH h id).lo<=id/\∃ h',Put (lowH h id) id b h'/\K h'=some z:=by obtain⟨nxt,lo,ac,t⟩:=h;have hh':jc (lowH ⟨nxt,lo,ac,t⟩ id) id b K=some z:=hh;exact⟨(lowH_le _ _).2,qN hh' hi⟩
theorem fr_low (e:Env) (h:H) (id:Nat):Fr e h e (lowH h id):=
 ⟨.refl e,Nat.le_refl _,(lowH_le h id).1,rfl,λ_ k=>.inl k,λ_ _ _=>rfl,λ_ _ _ _=>rfl,λ_ _=>.refl _⟩
theorem newB_law {h:H} {b:B} {K:Nat->H->R} {z:List (AV×H)} (hh:newB h b K=some z):∃ h',New h b h'/\K h.nxt h'=some z:=by
 obtain⟨nxt,lo,ac,t⟩:=h;have hh':(nat nxt λn=>jV (Nat.blt n 32768) ((p5 n).s t b λt=>K n (.mk (Nat.succ n) lo ac t)) none)=some z:=hh;rw[nat_eq]at hh';cases hc:Nat.blt nxt 32768 with
 | false=>rw[hc]at hh';cases hh'
 | true=>
  rw[hc]at hh';have hi:nxt<32768:=by simpa [Nat.blt_eq]using hc
  obtain⟨t',h1,h2⟩:=p5_set t b hi;obtain⟨t2,k1,k2,k3⟩:=p5_law nxt t b;have et:t2=t':=(k1 λt=>t).symm.trans (h1 λt=>t);have hh2:((p5 nxt).s t b λt=>K nxt (.mk (Nat.succ nxt) lo ac t))=some z:=hh';rw[h1]at hh2;refine⟨⟨nxt+1,lo,ac,t'⟩,⟨hi,rfl,rfl,rfl,λj hj=>h2 j hj,λhx j hj=>?_⟩,hh2⟩;subst et;exact k3 j λhd=>hj ((p5_dig t hd).trans hx)
theorem shut_eq {Z:Type} (h:H) (a:Nat×Nat) (K:Nat->Nat->H->Z):shut h a K=K h.nxt h.lo (.mk h.nxt h.nxt a h.t):=by obtain⟨nxt,lo,ac,t⟩:=h;show(nat nxt λn=>K n lo (.mk n n a t))=_;rw[nat_eq]
theorem setLo_eq {Z:Type} (h:H) (f:Nat->Nat) (a:Nat×Nat) (K:H->Z):setLo h f a K=K (.mk h.nxt (f h.lo) a h.t):=by obtain⟨nxt,lo,ac,t⟩:=h;show(nat (f lo) λlo=>K (.mk nxt lo a t))=_;rw[nat_eq]
theorem okW_law {h:H} {id:Nat} (hh:okW h id=true):h.lo<=id\/h.act id:=by
 unfold okW at hh;simp only[Bool.or_eq_true]at hh;rcases hh with (k | k) | k
 ·exact .inl (Nat.le_of_ble_eq_true k)
 ·exact .inr (.inl (Nat.eq_of_beq_eq_true k))
 ·exact .inr (.inr (Nat.eq_of_beq_eq_true k))
def hidK (b:B):Prop:=match b with
 | .o .h=>True
 | .o (.g ..)=>True
 | _=>False
theorem BOk.step {e e':Env} {h h':H} {w w':World} {id:Nat} {b:B} (hid:e.dom id) (x:Ext e e') (hb:w'.heap[e.blk id]? = w.heap[e.blk id]?)
  (hm:∀ m,refM b=some m->e.dom m->hidK (hget h m)->hget h' m=hget h m/\w'.heap[e.blk m]? = w.heap[e.blk m]?) (k:BOk e h w id b):BOk e' h' w' id b:=by
 have eb:=x.blk id hid
 have ec:=x.cap id hid
 cases b with
 | x=>trivial
 | c E n t=>
  obtain⟨cs,h1,h2,h3⟩:=k;exact⟨cs,by rw[eb,hb];exact h1,h2,h3.ext x⟩
 | r E n t=>
  obtain⟨cs,z,h1,h2,h3,h4,h5⟩:=k;exact⟨cs,z,by rw[eb,hb];exact h1,h2.ext x,h3,by rw[ec];exact h4,by rw[ec];exact h5⟩
 | o b=>
  cases b with
  | m l=>
   obtain⟨es,c,h1,h2⟩:=k;exact⟨es,c,by rw[eb,hb];exact h1,h2.ext x⟩
  | h=>trivial
  | g key gone L=>
   obtain⟨l,es,c,h1,h2,h3,⟨h4,es0,h5⟩,h6⟩:=k;exact⟨l,es,c,by rw[eb,hb];exact h1,h2.ext x,h3,⟨h4,es0,h5.mono λ_ _=>DnE.ext x⟩,h6⟩
  | f fn fs cs=>
   obtain⟨us,vs,h1,h2,h3⟩:=k;exact⟨us,vs,by rw[x.clo id hid];exact h1,h2.mono λ_ _=>Dn.ext x,h3.mono λ_ _=>Dn.ext x⟩
  | l ps a b t=>
   obtain⟨r,h1,h2,h3,h4,h5,h6⟩:=k;exact⟨r,by rw[eb,hb];exact h1,h2,h3,h4,h5.ext x,by rw[x.gh id hid];exact h6⟩
  | d ex=>
   obtain⟨r,h1⟩:=k;exact⟨r,by rw[eb,hb];exact h1⟩
  | i m l=>
   obtain⟨h1,h2,es,c,⟨h3,h4,h5⟩,h6⟩:=k;obtain⟨k1,k2⟩:=hm m rfl h1 (by rw[h2];trivial);exact⟨x.dom _ h1,k1.trans h2,es,c,⟨by rw[x.blk _ h1,k2];exact h3,by rw[eb,x.blk _ h1,hb];exact h4,h5⟩,h6.ext x⟩
  | b m l rem=>exact k.elim
  | c m key v l rem=>
   obtain⟨h1,h2,es,c,since,seen,en,⟨h3,h4,h5⟩,h6,h7,h8,h9,h10⟩:=k;obtain⟨k1,k2⟩:=hm m rfl h1 (by rw[h2];trivial);exact⟨x.dom _ h1,k1.trans h2,es,c,since,seen,en,⟨by rw[x.blk _ h1,k2];exact h3,by rw[eb,x.blk _ h1,hb];exact h4,h5⟩,h6.ext x,h7,h8,h9,h10.ext x⟩
  | j m l z=>
   obtain⟨h1,h2,es,c,since,seen,⟨h3,h4,h5⟩,h6,h7⟩:=k;obtain⟨k1,k2⟩:=hm m rfl h1 (by rw[h2];trivial);exact⟨x.dom _ h1,k1.trans h2,es,c,since,seen,⟨by rw[x.blk _ h1,k2];exact h3,by rw[eb,x.blk _ h1,hb];exact h4,h5⟩,h6.ext x,by rw[x.gh id hid];exact h7⟩
  | k m key v l keep z cur=>
   obtain⟨h1,gone,L,h2,es,c,since,seen,j,en,g1,g2,⟨h3,h4,h5⟩,h6,h7⟩:=k;obtain⟨k1,k2⟩:=hm m rfl h1 (by rw[h2];trivial);exact⟨x.dom _ h1,gone,L,k1.trans h2,es,c,since,seen,j,en,g1,g2,⟨by rw[x.blk _ h1,k2];exact h3,by rw[eb,x.blk _ h1,hb];exact h4,h5⟩,h6.ext x,by rw[x.gh id hid];exact h7⟩
  | q m key v=>exact k.elim
  | z=>trivial
  | t=>
   have k':e.gh id=0->w.heap[e.blk id]? = some (.deferred (some [])):=k
   show e'.gh id=0->w'.heap[e'.blk id]? = some (.deferred (some []))
   rw[eb,hb,x.gh id hid];exact k'
  | v bz ps a b t=>obtain⟨r,h1,h2,h3,h4,h5,h6⟩:=k;exact⟨r,by rw[eb,hb];exact h1,h2,h3,h4,h5.ext x,by rw[x.gh id hid];exact h6⟩
theorem hid_inB {b:B} (h:hidK b):inB b:=by
 cases b with
 | o b=>cases b<;>first | trivial | exact h.elim
 | _=>exact h.elim
section
variable {w0:World} {e:Env} {h h':H} {w w':World} {id:Nat} {b:B}
theorem below_grown {w0 w w':World} {b:Nat} (hb:Below w0.heap.size w0 w) (hg:w.grownBy w' (some b)) (hl:w0.heap.size<=b):Below w0.heap.size w0 w':=
 hb.grown hg hb.size λk hk=>by cases hk;exact hl
theorem zq.refs (R:zq w0 e h w) {j m:Nat} (hj:e.dom j) (hr:refM (hget h j)=some m):e.dom m/\hidK (hget h m):=by
 have ok:=R.ok j hj
 cases hb:hget h j with
 | x=>rw[hb]at hr;cases hr
 | c=>rw[hb]at hr;cases hr
 | r=>rw[hb]at hr;cases hr
 | o q=>
  rw[hb]at hr ok;cases q with
  | i m' l=>cases hr;obtain⟨h1,h2,_⟩:=ok;exact⟨h1,by rw[h2];trivial⟩
  | b m' l rem=>exact ok.elim
  | c m' k v l rem=>cases hr;obtain⟨h1,h2,_⟩:=ok;exact⟨h1,by rw[h2];trivial⟩
  | j m' l z=>cases hr;obtain⟨h1,h2,_⟩:=ok;exact⟨h1,by rw[h2];trivial⟩
  | k m' key v l keep z cur=>cases hr;obtain⟨h1,gone,L,h2,_⟩:=ok;exact⟨h1,by rw[h2];trivial⟩
  | _=>cases hr
theorem zq.putR (R:zq w0 e h w) (P:Put h id b h') (hid:e.dom id) (hin:inB (hget h id)) (hit:∀ j,e.dom j->j≠id->refM (hget h j)=some id->BOk e h' w' j (hget h j)) (hg:w.grownBy w' (some (e.blk id))) (hb:BOk e h' w' id b)
  (hu:∀ m,refM b=some m->∀ j,e.dom j->j≠id->refM (hget h j)≠some m):zq w0 e h' w':=by
 have lt:=R.lt id hid
 have hlow:=R.low id hid hin
 refine⟨below_grown R.below hg hlow.1,by rw[P.nxt];exact R.top,λj hj=>by rw[P.nxt];exact R.lt j hj,λj hj=>?_,λj hj hi=>?_,λi j hi hj h1 h2 he=>?_,λj hj hn=>?_,λi j m hi hj h1 h2=>?_⟩
 ·have hj':j<32768:=Nat.lt_of_lt_of_le (R.lt j hj) R.top
  rw[P.get j hj'];by_cases c:j=id
  ·rw[if_pos c];subst c;exact hb
  ·rw[if_neg c];by_cases hbj:inB (hget h j)
   ·by_cases cr:refM (hget h j)=some id
    ·exact hit j hj c cr
    ·have hne:e.blk j≠e.blk id:=λhe=>c (R.inj j id hj hid hbj hin he)
     refine BOk.step hj (.refl e) (hg.block _ (R.low j hj hbj).2 λk=>hne (Option.some.inj k)) (λm hr hm hk=>?_) (R.ok j hj);have hmid:m≠id:=λk=>cr (by rw[<-k];exact hr);have hmi:=hid_inB hk;exact⟨by rw[P.get m (Nat.lt_of_lt_of_le (R.lt m hm) R.top),if_neg hmid],hg.block _ (R.low m hm hmi).2 λk=>hmid (R.inj m id hm hid hmi hin (Option.some.inj k))⟩
   ·have:=R.ok j hj
    cases hbj':hget h j with
    | x=>trivial
    | c=>rw[hbj']at hbj;exact absurd trivial hbj
    | r=>rw[hbj']at hbj;exact absurd trivial hbj
    | o q=>cases q<;>first | (rw[hbj']at hbj;exact absurd trivial hbj) | (rw[hbj']at this;exact this)
 ·have hj':j<32768:=Nat.lt_of_lt_of_le (R.lt j hj) R.top
  rw[P.get j hj']at hi;by_cases c:j=id
  ·subst c;exact⟨hlow.1,Nat.lt_of_lt_of_le hlow.2 hg.size⟩
  ·rw[if_neg c]at hi;have:=R.low j hj hi;exact⟨this.1,Nat.lt_of_lt_of_le this.2 hg.size⟩
 ·rw[P.get i (Nat.lt_of_lt_of_le (R.lt i hi) R.top)]at h1;rw[P.get j (Nat.lt_of_lt_of_le (R.lt j hj) R.top)]at h2;refine R.inj i j hi hj ?_ ?_ he
  ·by_cases c:i=id
   ·subst c;exact hin
   ·rwa[if_neg c]at h1
  ·by_cases c:j=id
   ·subst c;exact hin
   ·rwa[if_neg c]at h2
 ·rw[P.get j hj];have hne:j≠id:=λk=>by rw[P.nxt]at hn;omega
  rw[if_neg hne];exact R.none j hj (by rw[P.nxt]at hn;exact hn)
 ·rw[P.get i (Nat.lt_of_lt_of_le (R.lt i hi) R.top)]at h1;rw[P.get j (Nat.lt_of_lt_of_le (R.lt j hj) R.top)]at h2;by_cases c:i=id
  ·by_cases c2:j=id
   ·rw[c,c2]
   ·rw[if_pos c]at h1;rw[if_neg c2]at h2;exact absurd h2 (hu m h1 j hj c2)
  ·rw[if_neg c]at h1;by_cases c2:j=id
   ·rw[if_pos c2]at h2;exact absurd h1 (hu m h2 i hi c)
   ·rw[if_neg c2]at h2;exact R.uniq i j m hi hj h1 h2
theorem zq.put (R:zq w0 e h w) (P:Put h id b h') (hid:e.dom id) (hin:inB (hget h id)) (hh:¬ hidK (hget h id)) (hg:w.grownBy w' (some (e.blk id))) (hb:BOk e h' w' id b)
  (hu:∀ m,refM b=some m->refM (hget h id)=some m:=by(intro _ k;cases k)):zq w0 e h' w':=
 R.putR P hid hin (λj hj _ hr=>absurd (R.refs hj hr).2 hh) hg hb λm hm j hj hne hr=>hne (R.uniq j id m hj hid hr (hu m hm))
theorem zq.low' (R:zq w0 e h w) (id:Nat):zq w0 e (lowH h id) w:=by refine⟨R.below,R.top,R.lt,λj hj=>?_,R.low,R.inj,R.none,R.uniq⟩;exact BOk.step (h:=h) (w:=w) hj (.refl e) rfl (λm _ _ _=>⟨rfl,rfl⟩) (R.ok j hj)
theorem zq.frPut (R:zq w0 e h w) (P:Put h id b h') (hid:e.dom id) (hlo:h.lo<=id\/h.act id) (ht:jU (hget h id) b):Fr e h e h':=by
 have lt:=R.lt id hid
 have top:=R.top
 refine⟨.refl e,by rw[P.nxt];exact Nat.le_refl _,Nat.le_of_eq P.lo,P.ac,λj hj=>.inl hj,λj hj hd=>?_,λj hn hj hr=>?_,λj hn=>?_⟩
 ·rw[P.get j (by omega),if_neg (λ(c:j=id)=>hd (by rw[c];exact hid))]
 ·rw[P.get j (by omega),if_neg (λc=>by
   subst c;have pl:=P.lo;rcases hlo with k | k
   ·omega
   ·exact hr k)]
 ·rw[P.get j (by omega)];by_cases c:j=id
  ·subst c;rw[if_pos rfl];exact ht
  ·rw[if_neg c];exact .refl _
theorem zq.world (R:zq w0 e h w) (hw:Below w.heap.size w w'):zq w0 e h w':=by
 refine⟨R.below.trans (hw.mono R.below.size),R.top,R.lt,λj hj=>?_,λj hj hi=>⟨(R.low j hj hi).1,Nat.lt_of_lt_of_le (R.low j hj hi).2 hw.size⟩,R.inj,R.none,R.uniq⟩;by_cases hbj:inB (hget h j)
 ·exact BOk.step hj (.refl e) (hw.block _ (R.low j hj hbj).2) (λm _ hm hk=>⟨rfl,hw.block _ (R.low m hm (hid_inB hk)).2⟩) (R.ok j hj)
 ·have:=R.ok j hj
  cases hbj':hget h j with
  | x=>trivial
  | c=>rw[hbj']at hbj;exact absurd trivial hbj
  | r=>rw[hbj']at hbj;exact absurd trivial hbj
  | o q=>cases q<;>first | (rw[hbj']at hbj;exact absurd trivial hbj) | (rw[hbj']at this;exact this)
theorem zq.push (R:zq w0 e h w) (N:New h b h'):zq w0 e h' w:=by
 have g:∀ j,e.dom j->hget h' j=hget h j:=λj hj=>by
  have:=R.lt j hj
  have:=N.lt
  rw[N.get j (by omega),if_neg (by omega)]
 have lt:=N.lt
 refine⟨R.below,by rw[N.nxt];omega,λj hj=>by rw[N.nxt];have:=R.lt j hj;omega,λj hj=>?_,λj hj hi=>R.low j hj (by rw[g j hj]at hi;exact hi),λi j hi hj h1 h2 he=>R.inj i j hi hj (by rw[g i hi]at h1;exact h1) (by rw[g j hj]at h2;exact h2) he,λj hj hn=>?_,λi j m hi hj h1 h2=>R.uniq i j m hi hj (by rw[g i hi]at h1;exact h1) (by rw[g j hj]at h2;exact h2)⟩
 ·rw[g j hj];exact BOk.step hj (.refl e) rfl (λm _ hm hk=>⟨g m hm,rfl⟩) (R.ok j hj)
 ·rw[N.nxt]at hn;rw[N.get j hj,if_neg (by omega)];exact R.none j hj (by omega)
theorem zq.frNew (R:zq w0 e h w) (N:New h b h'):Fr e h e h':=by
 have lt:=N.lt
 refine⟨.refl e,by rw[N.nxt];omega,Nat.le_of_eq N.lo,N.ac,λj hj=>.inl hj,λj hj _=>?_,λj hn _ _=>?_,λj hn=>?_⟩
 ·rw[N.get j (by omega),if_neg (by omega)]
 ·rw[N.get j (by omega),if_neg (by omega)]
 ·rw[N.get j (by omega),if_neg (by omega)];exact .refl _
def Env.add (e:Env) (id b c:Nat) (f:Value):Env:={ dom:=λj=>j=id\/e.dom j,blk:=λj=>if j=id then b else e.blk j,cap:=λj=>if j=id then c else e.cap j,clo:=λj=>if j=id then f else e.clo j,gh:=λj=>if j=id then c else e.gh j }
theorem kT {bk c:Nat} {f:Value} (hid:¬ e.dom id):Ext e (e.add id bk c f):=by refine⟨λj hj=>.inr hj,λj hj=>?_,λj hj=>?_,λj hj=>?_,λj hj=>?_⟩<;>exact if_neg (λ(k:j=id)=>hid (by rw[<-k];exact hj))
theorem qh {bk c:Nat} {f:Value} : (e.add id bk c f).blk id=bk:=if_pos rfl
theorem qC {bk c:Nat} {f:Value} : (e.add id bk c f).cap id=c:=if_pos rfl
theorem add_clo {bk c:Nat} {f:Value} : (e.add id bk c f).clo id=f:=if_pos rfl
theorem zq.add (R:zq w0 e h w) (hid:¬ e.dom id) (hlt:id<h.nxt) (hw:Below w.heap.size w w') {bk c:Nat} {f:Value} (hb:inB (hget h id)->w0.heap.size<=bk/\bk<w'.heap.size/\∀ j,e.dom j->inB (hget h j)->e.blk j≠bk)
  (hok:BOk (e.add id bk c f) h w' id (hget h id)) (hu:∀ m,refM (hget h id)=some m->∀ j,e.dom j->refM (hget h j)≠some m):zq w0 (e.add id bk c f) h w':=by
 have R':=R.world hw
 have x:=kT (e:=e) (bk:=bk) (c:=c) (f:=f) hid
 have hs:=R.below.size
 refine⟨R'.below,R.top,λj hj=>?_,λj hj=>?_,λj hj hi=>?_,λi j hi hj h1 h2 he=>?_,R.none,λi j m hi hj h1 h2=>?_⟩
 ·rcases hj with rfl | hj
  ·exact hlt
  ·exact R.lt j hj
 ·by_cases c1:j=id
  ·subst c1;exact hok
  ·have hj':e.dom j:=hj.resolve_left c1
   exact BOk.step hj' x rfl (λm _ hm hk=>⟨rfl,rfl⟩) (R'.ok j hj')
 ·by_cases c1:j=id
  ·subst c1;rw[qh];have:=hb hi;exact⟨this.1,this.2.1⟩
  ·have hj':e.dom j:=hj.resolve_left c1
   rw[x.blk j hj'];exact R'.low j hj' hi
 ·by_cases c1:i=id
  ·by_cases c2:j=id
   ·rw[c1,c2]
   ·have hj':e.dom j:=hj.resolve_left c2
    subst c1;rw[qh,x.blk j hj']at he;exact absurd he.symm ((hb h1).2.2 j hj' h2)
  ·have hi':e.dom i:=hi.resolve_left c1
   by_cases c2:j=id
   ·subst c2;rw[qh,x.blk i hi']at he;exact absurd he ((hb h2).2.2 i hi' h1)
   ·have hj':e.dom j:=hj.resolve_left c2
    rw[x.blk i hi',x.blk j hj']at he;exact R.inj i j hi' hj' h1 h2 he
 ·by_cases c1:i=id
  ·by_cases c2:j=id
   ·rw[c1,c2]
   ·rw[c1]at h1;exact absurd h2 (hu m h1 j (hj.resolve_left c2))
  ·by_cases c2:j=id
   ·rw[c2]at h2;exact absurd h1 (hu m h2 i (hi.resolve_left c1))
   ·exact R.uniq i j m (hi.resolve_left c1) (hj.resolve_left c2) h1 h2
theorem Fr.add {e0:Env} {h0:H} (F:Fr e0 h0 e h) (hid:¬ e.dom id) {bk c:Nat} {f:Value} (hn:h0.nxt<=id):Fr e0 h0 (e.add id bk c f) h:=
 ⟨F.ext.trans (kT hid),F.nxt,F.lo,F.ac,λj hj=>by
  rcases hj with rfl | hj
  ·exact .inr hn
  ·exact F.new j hj,F.out,F.prot,F.kp⟩
theorem zq.zN (R:zq w0 e h w) (hd:e.dom id):id<32768:=Nat.lt_of_lt_of_le (R.lt id hd) R.top
end
section
variable {w0:World} {e:Env} {h:H} {w:World} {id:Nat}
theorem zq.cells (R:zq w0 e h w) (hd:e.dom id) {E n:Nat} {t:TV} (hb:hget h id=.c E n t\/hget h id=.r E n t):∃ cs,w.heap[e.blk id]? = some (LC cs E)/\TOk e n t cs:=by
 have:=R.ok id hd
 rcases hb with k | k<;>rw[k]at this
 ·obtain⟨cs,h1,_,h3⟩:=this;exact⟨cs,h1,h3⟩
 ·obtain⟨cs,_,h1,h3,_⟩:=this;exact⟨cs,h1,h3⟩
theorem cell_at {w:World} {e:Env} {cs:List Value} {E:TypeId} (hb:w.heap[e.blk id]? = some (LC cs E)) {off:Nat} {v:Value} (hv:cs[off]? = some v):w.cell? (adr e id off)=some v:=(qP hb).trans hv
theorem je (e:Env) (id off j:Nat):(adr e id off).add j=adr e id (off+j):=Addr.add_lit _ _ _
theorem zq.row (R:zq w0 e h w) (hd:e.dom id) {E n:Nat} {t:TV} (hb:hget h id=.c E n t\/hget h id=.r E n t) {off:Nat} {l:List Sc} (hl:∀ j s,l[j]? = some s->t.get (off+j)=.x s) (hn:off+l.length<=n) :
  ∃ us,us.length=l.length/\zB (DnC e) l us/\∀ j u,us[j]? = some u->w.cell? ((adr e id off).add j)=some u:=by
 obtain⟨cs,h1,h2⟩:=R.cells hd hb;have h3:=h2.read hl hn;refine⟨_,h3.length.symm,h3,λj u hj=>?_⟩;rw[je];refine cell_at h1 ?_;rw[List.getElem?_take]at hj;split at hj
 ·rwa[List.getElem?_drop]at hj
 ·cases hj
end
theorem kNo_inj {k k':IntKind} (h:Nat.beq (kNo k) (kNo k')=true):k'=k:=by cases k<;>cases k'<;>first | rfl | cases h
theorem two_law {Z:Type} {z:Z} {x y:AV} {K:IntKind->Int->Int->Option Z} (h:two x y K=some z):∃ k a b,x=.i k a/\y=.i k b/\K k a b=some z:=by obtain⟨k,a,rfl,Hn⟩:=qB h;clear h;have h:=Hn;clear Hn;obtain⟨k',b,rfl,Hn⟩:=qB h;clear h;have h:=Hn;clear Hn;obtain⟨h1,h2⟩:=zk h;obtain rfl:=kNo_inj h1;exact⟨_,a,b,rfl,rfl,h2⟩
theorem frcI_law {k:IntKind} {n:Int} {x:AV} (h:frcI k n=some x):x=.i k n:=by
 cases n with
 | ofNat m=>
  have h':(nat m λm=>some (AV.i k (.ofNat m)))=some x:=h
  rw[nat_eq]at h';cases h';rfl
 | negSucc m=>
  have h':(nat m λm=>some (AV.i k (.negSucc m)))=some x:=h
  rw[nat_eq]at h';cases h';rfl
theorem wrap_pos {k:IntKind} {m:Nat} (h:m<lim k):k.wrap (m:Int)=m:=by
 cases k
 ·exact IntWalk.i8_in _ (by have:m<128:=h;omega)
 ·exact IntWalk.i16_in _ (by have:m<32768:=h;omega)
 ·exact IntWalk.i32_in _ (by have:m<2147483648:=h;omega)
 ·exact IntWalk.i64_in _ (by have:m<9223372036854775808:=h;omega)
 ·exact IntWalk.u8_in _ (by have:m<256:=h;omega)
 ·exact IntWalk.u16_in _ (by have:m<65536:=h;omega)
 ·exact IntWalk.u32_in _ (by have:m<4294967296:=h;omega)
 ·exact IntWalk.u64_in _ (by have:m<18446744073709551616:=h;omega)
theorem wrap_neg {k:IntKind} {m:Nat} (hs:sgn k=true) (h:m<lim k):k.wrap (Int.negSucc m)=Int.negSucc m:=by
 cases k
 ·exact IntWalk.i8_in _ (by have:m<128:=h;omega)
 ·exact IntWalk.i16_in _ (by have:m<32768:=h;omega)
 ·exact IntWalk.i32_in _ (by have:m<2147483648:=h;omega)
 ·exact IntWalk.i64_in _ (by have:m<9223372036854775808:=h;omega)
 all_goals cases hs
theorem qR {m n:Nat} (h:Nat.blt m n=true):m<n:=by simpa [Nat.blt_eq]using h
theorem mkI_law {k:IntKind} {n:Int} {x:AV} (h:mkI k n=some x):x=.i k (k.wrap n):=by
 cases n with
 | ofNat m=>
  have h':(nat m λm=>jV (Nat.blt m (lim k)) (some (AV.i k (.ofNat m))) (frcI k (k.wrap (.ofNat m))))=some x:=h
  rw[nat_eq]at h';cases hc:Nat.blt m (lim k)with
  | true=>
   rw[hc]at h';cases h';show AV.i k _=AV.i k _;rw[show(Int.ofNat m)=(m:Int)from rfl,wrap_pos (qR hc)]
  | false=>rw[hc]at h';exact frcI_law h'
 | negSucc m=>
  have h':(nat m λm=>jV (sgn k && Nat.blt m (lim k)) (some (AV.i k (.negSucc m))) (frcI k (k.wrap (.negSucc m))))=some x:=h
  rw[nat_eq]at h';cases hc:(sgn k && Nat.blt m (lim k))with
  | true=>
   rw[hc]at h';cases h';simp only[Bool.and_eq_true]at hc;show AV.i k _=AV.i k _;rw[wrap_neg hc.1 (qR hc.2)]
  | false=>rw[hc]at h';exact frcI_law h'
theorem jr (x y:Int):qO x y=decide (x<=y):=by
 cases x with
 | ofNat a=>
  cases y with
  | ofNat b=>
   show Nat.ble a b=_
   rw[Bool.eq_iff_iff,Nat.ble_eq,decide_eq_true_iff];exact Int.ofNat_le.symm
  | negSucc b=>show false=_;rw[eq_comm,decide_eq_false_iff_not];show ¬ ((a:Int)<=_);omega
 | negSucc a=>
  cases y with
  | ofNat b=>show true=_;rw[eq_comm,decide_eq_true_iff];show _<=(b:Int);omega
  | negSucc b=>
   show Nat.ble b a=_
   rw[Bool.eq_iff_iff,Nat.ble_eq,decide_eq_true_iff];omega
theorem zT (a b:Nat):Nat.beq a b=decide (a=b):=by rw[Bool.eq_iff_iff,decide_eq_true_iff];exact⟨Nat.eq_of_beq_eq_true,λh=>by rw[h];exact Nat.beq_refl b⟩
theorem ieqB_eq (x y:Int):ieqB x y=decide (x=y):=by
 cases x with
 | ofNat a=>
  cases y with
  | ofNat b=>show Nat.beq a b=_;rw[zT,decide_eq_decide];exact Int.ofNat_inj.symm
  | negSucc b=>show false=_;rw[eq_comm,decide_eq_false_iff_not];show ¬ ((a:Int)=_);omega
 | negSucc a=>
  cases y with
  | ofNat b=>show false=_;rw[eq_comm,decide_eq_false_iff_not];show ¬ (_=(b:Int));omega
  | negSucc b=>show Nat.beq a b=_;rw[zT,decide_eq_decide];omega
theorem bl_law {b:Bool} {x:AV} (h:bl b=some x):x=.b b:=by cases b<;>cases h<;>rfl
theorem blN_law {b:Bool} {x:AV} (h:blN b=some x):x=.b (!b):=by cases b<;>cases h<;>rfl
theorem beqZ (a b:Int):(a == b)=decide (a=b):=rfl
/-! ### Equality -/
theorem eqI_law {z:Bool} {e:Env} {x y:Sc} {u v:Value} {K:Bool->Option Bool} (h:eqI x y K=some z) (hx:DnS e x u) (hy:DnS e y v):∃ k a b,u=.int k a/\v=.int k b/\K (decide (a=b))=some z:=by
 cases x with
 | i k a=>
  cases y with
  | i k' b=>
   obtain⟨h1,h2⟩:=zk (x:=K (ieqB a b)) h;obtain rfl:=kNo_inj h1;rw[ieqB_eq]at h2;exact⟨_,a,b,hx,hy,h2⟩
  | _=>cases h
 | _=>cases h
theorem xx_law {z:Bool} {x y:AV} {K:Sc->Sc->Option Bool} (h:xx x y K=some z):∃ s t,x=.x s/\y=.x t/\K s t=some z:=by
 cases x with
 | x s=>cases y with
  | x t=>exact⟨s,t,rfl,rfl,h⟩
  | _=>cases h
 | _=>cases h
def jo:List Value->List Value->Option Bool
 | .int k a::l,.int k' b::m=>if k=k' then (if a=b then jo l m else some false)else none
 | [],[]=>some true
 | _,_=>none
theorem eqL_law {e:Env} : ∀ {n:Nat} {l m:List Sc} {us vs:List Value} {b:Bool},eqL n l m=some b->zB (DnC e) l us->zB (DnC e) m vs->jo us vs=some b
 | 0,[],[],us,vs,b,h,hl,hm=>by
  cases us with
  | nil=>cases vs with
   | nil=>exact h
   | cons=>exact hm.elim
  | cons=>exact hl.elim
 | 0,[],_::_,_,_,_,h,_,_=>by cases h
 | 0,_::_,_,_,_,_,h,_,_=>by cases h
 | n+1,[],_,_,_,_,h,_,_=>by cases h
 | n+1,_::_,[],_,_,_,h,_,_=>by cases h
 | n+1,x::l,y::m,us,vs,b,h,hl,hm=>by
  cases us with
  | nil=>exact hl.elim
  | cons u us=>
   cases vs with
   | nil=>exact hm.elim
   | cons v vs=>
    obtain⟨k,a,c,rfl,rfl,h2⟩:=eqI_law (K:=λb=>jV b (eqL n l m) (some false)) h hl.1.1 hm.1.1;simp only[jo,if_true];by_cases hab:a=c
    ·rw[if_pos hab];rw[decide_eq_true hab]at h2;exact eqL_law h2 hl.2 hm.2
    ·rw[if_neg hab];rw[decide_eq_false hab]at h2;exact h2
def cmp:List Nat->List Value->List Value->Option Bool
 | [],_,_=>some true
 | i::L,xs,ys=>match xs[i]?,ys[i]? with
  | some (.int k a),some (.int k' b)=>if k=k' then (if a=b then cmp L xs ys else some false)else none
  | _,_=>none
theorem cmp_cons {i:Nat} {L:List Nat} {xs ys:List Value} {r:Bool} (h:cmp (i::L) xs ys=some r):∃ k a b,xs[i]? = some (.int k a)/\ys[i]? = some (.int k b)/\((a=b/\cmp L xs ys=some r)\/(a≠b/\r=false)):=by
 simp only[cmp]at h;split at h
 ·rename_i k a k' b h1 h2;by_cases hk:k=k'
  ·subst hk;rw[if_pos rfl]at h;by_cases hab:a=b
   ·rw[if_pos hab]at h;exact⟨k,a,b,h1,h2,.inl ⟨hab,h⟩⟩
   ·rw[if_neg hab]at h;cases h;exact⟨k,a,b,h1,h2,.inr ⟨hab,rfl⟩⟩
  ·rw[if_neg hk]at h;cases h
 ·cases h
theorem cmp_app:∀ {A B:List Nat} {xs ys:List Value} {r:Bool},cmp (A++B) xs ys=some r->(cmp A xs ys=some false/\r=false)\/(cmp A xs ys=some true/\cmp B xs ys=some r)
 | [],B,xs,ys,r,h=>.inr ⟨rfl,h⟩
 | i::A,B,xs,ys,r,h=>by
  obtain⟨k,a,b,h1,h2,h3⟩:=cmp_cons (L:=A++B) h;simp only[cmp,h1,h2,if_true];rcases h3 with ⟨hab,h⟩ | ⟨hab,rfl⟩
  ·simp only[if_pos hab];exact cmp_app h
  ·exact .inl ⟨by simp[hab],rfl⟩
theorem cmp_shift {off:Nat} {xs ys xs' ys':List Value} : ∀ {L:List Nat},(∀ i∈L,xs'[i]? = xs[off+i]?)->(∀ i∈L,ys'[i]? = ys[off+i]?)->cmp L xs' ys'=cmp (L.map (off + ·)) xs ys
 | [],_,_=>rfl
 | i::L,hx,hy=>by simp only[List.map_cons,cmp,hx i (by simp),hy i (by simp)];rw[cmp_shift (L:=L) (λj hj=>hx j (by simp[hj])) (λj hj=>hy j (by simp[hj]))]
theorem cmp_same:∀ {us vs:List Value} {b:Bool} {pre pre':List Value},pre.length=pre'.length->jo us vs=some b->cmp (List.range' pre.length us.length) (pre++us) (pre'++vs)=some b
 | [],[],b,pre,pre',_,h=>by simpa [cmp,jo]using h
 | [],_::_,_,_,_,_,h=>by simp[jo]at h
 | u::us,[],_,_,_,_,h=>by cases u<;>simp[jo]at h
 | u::us,v::vs,b,pre,pre',hl,h=>by
  have e1:(pre++u::us)[pre.length]? = some u:=by rw[List.getElem?_append_right (Nat.le_refl _)];simp
  have e2:(pre'++v::vs)[pre.length]? = some v:=by rw[hl,List.getElem?_append_right (Nat.le_refl _)];simp
  rw[List.length_cons,List.range'_succ];simp only[cmp,e1,e2];cases u with
  | int k p=>
   cases v with
   | int k' q=>
    simp only[jo]at h⊢;by_cases hk:k=k'
    ·rw[if_pos hk]at h⊢;by_cases hp:p=q
     ·rw[if_pos hp]at h⊢;have:=cmp_same (pre:=pre++[.int k p]) (pre':=pre'++[.int k' q]) (by simp[hl]) h;simpa using this
     ·rw[if_neg hp]at h⊢;exact h
    ·rw[if_neg hk]at h;cases h
   | _=>simp[jo]at h
  | _=>cases v<;>simp[jo]at h
def Vt (ag:Bool) (xs:List Value) (u:Value):Prop:=match ag with
 | true=>u=.agg ⟨xs⟩
 | false=>xs[0]? = some u
theorem lvs_zero {t:TypeId} {L:List Nat} (h:lvs 0 t=some L):False:=by simp[lvs]at h
theorem lvs_int {D:Nat} {t:TypeId} {L:List Nat} {z:Nat} (h:lvs D t=some L) (ht:tkB Pr t=some (false,z)):(∃ k,Pr.underlying t=some (.int k))/\L=[0]:=by
 cases D with
 | zero=>exact(lvs_zero h).elim
 | succ D=>
  simp only[lvs]at h;unfold tkB at ht;split at h
  ·rename_i k hu;cases h;exact⟨⟨k,hu⟩,rfl⟩
  ·rename_i fs hu;rw[hu]at ht;cases hi:Pr.info? t<;>rw[hi]at ht<;>simp[aggB]at ht
  ·rename_i n E hu;rw[hu]at ht;cases hi:Pr.info? t<;>rw[hi]at ht<;>simp[aggB]at ht
  ·cases h
theorem chunk_get {xs:List Value} {off s i:Nat} (h:i<s):((xs.drop off).take s)[i]? = xs[off+i]?:=by rw[List.getElem?_take,if_pos h,List.getElem?_drop]
theorem run_part_agg {t:TypeId} {s off:Nat} {xs:List Value} {w:World} (ht:tkB Pr t=some (true,s)):(part t ⟨xs⟩ off).run Pr w=.ok (.agg ⟨(xs.drop off).take s⟩) w:=by
 have h1:=Go.Lw.run_isAgg ht w
 have h2:=Go.Lw.run_sizeOf ht w
 simp only[part,Sem.run_bind,h1,Result.andThen_ok,if_true,h2,Sem.run_pure];congr 2;apply Array.ext';rw[Array.toList_extract];simp[List.extract]
theorem run_part_one {t:TypeId} {s off:Nat} {xs:List Value} {v:Value} {w:World} (ht:tkB Pr t=some (false,s)) (hv:xs[off]? = some v):(part t ⟨xs⟩ off).run Pr w=.ok v w:=by
 have h1:=Go.Lw.run_isAgg ht w
 simp[part,Sem.run_bind,h1,hv]
theorem part_law {D:Nat} {t:TypeId} {ag:Bool} {s off:Nat} {L:List Nat} {xs ys:List Value} {r:Bool} (h:lvs D t=some L) (ht:tkB Pr t=some (ag,s)) (hb:L.all (λi=>Nat.blt i s)=true) (hc:cmp (L.map (off + ·)) xs ys=some r) :
  ∃ u v,(∀ w,(part t ⟨xs⟩ off).run Pr w=.ok u w)/\(∀ w,(part t ⟨ys⟩ off).run Pr w=.ok v w)/\Vt ag ((xs.drop off).take s) u/\Vt ag ((ys.drop off).take s) v/\cmp L ((xs.drop off).take s) ((ys.drop off).take s)=some r:=by
 have hb':∀ i∈L,i<s:=λi hi=>qR (List.all_eq_true.1 hb i hi)
 have hc':cmp L ((xs.drop off).take s) ((ys.drop off).take s)=some r:=by rw[cmp_shift (off:=off) (xs:=xs) (ys:=ys) (λi hi=>chunk_get (hb' i hi)) (λi hi=>chunk_get (hb' i hi))];exact hc
 cases ag with
 | true=>exact⟨_,_,λw=>run_part_agg ht,λw=>run_part_agg ht,rfl,rfl,hc'⟩
 | false=>obtain⟨_,rfl⟩:=lvs_int h ht;have h0:=hb' 0 (by simp);obtain⟨k,a,b,e1,e2,_⟩:=cmp_cons (L:=[]) hc';have e1':=e1;have e2':=e2;rw[chunk_get h0,Nat.add_zero]at e1' e2';exact⟨_,_,λw=>run_part_one ht e1',λw=>run_part_one ht e2',e1,e2,hc'⟩
theorem lvs_agg {D:Nat} {t:TypeId} {L:List Nat} {z:Nat} (h:lvs D t=some L) (ht:tkB Pr t=some (true,z)) :
  ∃ D',D=D'+1/\((∃ fs,Pr.underlying t=some (.struct fs)/\Pr.stoodInHeld t=false/\lvF (lvs D') fs.toList=some L)\/
   (∃ n E ag s l,Pr.underlying t=some (.array n E)/\tkB Pr E=some (ag,s)/\lvs D' E=some l/\l.all (λi=>Nat.blt i s)=true/\L=(List.range n).flatMap λi=>l.map (i*s + ·))):=by
 cases D with
 | zero=>exact(lvs_zero h).elim
 | succ D=>
  refine⟨D,rfl,?_⟩;simp only[lvs]at h;split at h
  ·rename_i k hu;unfold tkB at ht;rw[hu]at ht;cases hi:Pr.info? t<;>rw[hi]at ht<;>simp[aggB]at ht
  ·rename_i fs hu;cases hs:Pr.stoodInHeld t with
   | true=>rw[hs]at h;exact absurd (show(none:Option (List Nat))=some L from h) (by simp)
   | false=>rw[hs]at h;exact .inl ⟨fs,hu,rfl,h⟩
  ·rename_i n E hu;split at h
   ·rename_i q l h1 h2;obtain⟨h3,h4⟩:=zk h;cases h4;exact .inr ⟨n,E,q.1,q.2,l,hu,h1,h2,h3,rfl⟩
   ·cases h
  ·cases h
theorem lvF_cons {g:TypeId->Option (List Nat)} {f:Field} {fs:List Field} {L:List Nat} (h:lvF g (f::fs)=some L):∃ ag s l r,tkB Pr f.type=some (ag,s)/\g f.type=some l/\lvF g fs=some r/\f.name≠"_"/\l.all (λi=>Nat.blt i s)=true/\L=l.map (f.offset + ·)++r:=by
 simp only[lvF]at h;split at h
 ·rename_i q l r h1 h2 h3;obtain⟨h4,h5⟩:=zk h;cases h5;simp only[Bool.and_eq_true,bne_iff_ne,ne_eq]at h4;exact⟨q.1,q.2,l,r,h1,h2,h3,h4.1,h4.2,rfl⟩
 ·cases h
theorem tk_info {t:TypeId} {ag:Bool} {s:Nat} (h:tkB Pr t=some (ag,s)):∃ i,Pr.info? t=some i/\i.size=s:=by
 unfold tkB at h;cases hu:Pr.underlying t with
 | none=>rw[hu]at h;cases h
 | some d=>
  cases hi:Pr.info? t with
  | none=>rw[hu,hi]at h;cases h
  | some i=>rw[hu,hi]at h;simp at h;exact⟨i,rfl,h.2⟩
theorem eq_law (d:Nat):∀ (D:Nat) (t:TypeId) (L:List Nat) (ag:Bool) (z:Nat) (xs ys:List Value) (u v:Value) (r:Bool),lvs D t=some L->tkB Pr t=some (ag,z)->Vt ag xs u->Vt ag ys v->cmp L xs ys=some r->
  ∀ w,(Op.equalIn (d+D) t u v).run Pr w=.ok r w
 | 0,_,_,_,_,_,_,_,_,_,h,_,_,_,_=>(lvs_zero h).elim
 | D+1,t,L,false,z,xs,ys,u,v,r,h,ht,hu,hv,hc=>λw=>by
  obtain⟨⟨k,hk⟩,rfl⟩:=lvs_int h ht;obtain⟨k',a,b,e1,e2,h3⟩:=cmp_cons (L:=[]) hc;have hu':xs[0]? = some u:=hu;have hv':ys[0]? = some v:=hv;rw[e1]at hu';rw[e2]at hv';cases hu';cases hv';rw[show d+(D+1)=(d+D)+1 from rfl,run_equalIn_int w (d+D) t k' k a b hk];rcases h3 with ⟨rfl,h3⟩ | ⟨hab,rfl⟩
  ·cases h3;simp
  ·congr 1;simpa using hab
 | D+1,t,L,true,z,xs,ys,u,v,r,h,ht,hu,hv,hc=>λw=>by
  obtain rfl:u=.agg ⟨xs⟩:=hu;obtain rfl:v=.agg ⟨ys⟩:=hv;obtain⟨D',hD,hh⟩:=lvs_agg h ht;cases hD;have IH:=eq_law d D;rw[show d+(D+1)=(d+D)+1 from rfl];rcases hh with ⟨fs,hk,hs,hf⟩ | ⟨n,E,ag,s,l,hk,hE,hl,hb,rfl⟩
  ·have hfs:Pr.fieldsOf t=fs:=by simp[Program.fieldsOf,hk]
   rw[run_equalIn_struct w (d+D) t ⟨xs⟩ ⟨ys⟩ (by rw[hfs];exact hk) hs,hfs];generalize fs.toList=FS at hf;clear hk hfs h;induction FS generalizing L with
   | nil=>simp only[lvF,Option.some.injEq]at hf;subst hf;simp only[cmp,Option.some.injEq]at hc;subst hc;rfl
   | cons f FS ih=>
    obtain⟨ag,s,l,rr,h1,h2,h3,h4,h5,rfl⟩:=lvF_cons hf;have step:∀ r',cmp (l.map (f.offset + ·)) xs ys=some r'->∃ a b,(∀ w,(part f.type ⟨xs⟩ f.offset).run Pr w=.ok a w)/\(∀ w,(part f.type ⟨ys⟩ f.offset).run Pr w=.ok b w)/\∀ w,(Op.equalIn (d+D) f.type a b).run Pr w=.ok r' w:=λr' hr'=>by obtain⟨a,b,p1,p2,v1,v2,c⟩:=part_law h2 h1 h5 hr';exact⟨a,b,p1,p2,IH f.type l ag s _ _ a b r' h2 h1 v1 v2 c⟩
    rcases cmp_app hc with ⟨hc1,rfl⟩ | ⟨hc1,hc2⟩
    ·obtain⟨a,b,p1,p2,p3⟩:=step _ hc1;simp[Op.eqFields,h4,p1,p2,p3]
    ·obtain⟨a,b,p1,p2,p3⟩:=step _ hc1;have:=ih rr hc2 h3;simpa [Op.eqFields,h4,p1,p2,p3]using this
  ·obtain⟨i,hi,hsz⟩:=tk_info hE;have hcs:Pr.cellsOf E=s:=by simp[Program.cellsOf,hi,hsz]
   rw[run_equalIn_array w (d+D) ⟨xs⟩ ⟨ys⟩ hk hi,hcs];generalize List.range n=is at hc;clear h;induction is with
   | nil=>simp only[List.flatMap_nil,cmp,Option.some.injEq]at hc;subst hc;rfl
   | cons j is ih=>
    simp only[List.flatMap_cons]at hc;have step:∀ r',cmp (l.map (j*s + ·)) xs ys=some r'->∃ a b,(∀ w,(part E ⟨xs⟩ (j*s)).run Pr w=.ok a w)/\(∀ w,(part E ⟨ys⟩ (j*s)).run Pr w=.ok b w)/\∀ w,(Op.equalIn (d+D) E a b).run Pr w=.ok r' w:=λr' hr'=>by obtain⟨a,b,p1,p2,v1,v2,c⟩:=part_law hl hE hb hr';exact⟨a,b,p1,p2,IH E l ag s _ _ a b r' hl hE v1 v2 c⟩
    rcases cmp_app hc with ⟨hc1,rfl⟩ | ⟨hc1,hc2⟩
    ·obtain⟨a,b,p1,p2,p3⟩:=step _ hc1;simp[Op.eqItems,p1,p2,p3]
    ·obtain⟨a,b,p1,p2,p3⟩:=step _ hc1;have:=ih hc2;simpa [Op.eqItems,p1,p2,p3]using this
def Gives {α:Type} (s:Sem α) (q:α):Prop:=∀ w,s.run Pr w=.ok q w
theorem bts_eq (k:IntKind):bts k=k.bits:=by cases k<;>rfl
theorem agB_law {t:TypeId} {n:Nat} (h:agB t=some n):Pr.eqGuardType Pr.depth t=false/\tkB Pr t=some (true,n)/\lvs 8 t=some (List.range n):=by
 unfold agB at h;split at h
 ·rename_i z hz;split at h
  ·rename_i l hl;obtain⟨h1,h2⟩:=zk h;cases h2;simp only[Bool.and_eq_true,Bool.not_eq_true',beq_iff_eq]at h1;obtain⟨⟨h3,h4⟩,h5⟩:=h1;refine⟨h5,?_,by rw[hl,h4]⟩;rw[hz,<-h3]
  ·cases h
 ·cases h
theorem equal_agg {t:TypeId} {n:Nat} (h:agB t=some n) {us vs:List Value} (hu:us.length=n) {b:Bool} (hs:jo us vs=some b):Gives (Op.equalIn 10000 t (.agg ⟨us⟩) (.agg ⟨vs⟩)) b:=λw=>by obtain⟨_,h2,h3⟩:=agB_law h;refine eq_law 9992 8 t _ true n us vs _ _ b h3 h2 rfl rfl ?_ w;have:=cmp_same (pre:=[]) (pre':=[]) rfl hs;rw[hu]at this;simpa [List.range_eq_range']using this
theorem ptr_eq {t:TypeId} {p q:Option Addr} {b:Bool} (h:∀ w d,(Op.equalIn (d+1) t (.pointer p) (.pointer q)).run Pr w=.ok b w) :
  (∀ xo yo,Gives (do eqGuard .eql t xo yo (.pointer p) (.pointer q);binOp .eql t (.pointer p) (.pointer q)) (.bool b))/\(∀ xo yo,Gives (do eqGuard .neq t xo yo (.pointer p) (.pointer q);binOp .neq t (.pointer p) (.pointer q)) (.bool (!b))):=by
 refine⟨λxo yo w=>?_,λxo yo w=>?_⟩<;>simp only[binOp]<;>simp[eqGuard_at_pointer,Op.equal,Op.maxDepth,h w 9999]
theorem sl_eq {t:TypeId} {a a':Option Addr} {l c l' c':Nat} {b:Bool} (h:∀ w d,(Op.equalIn (d+1) t (.slice a l c) (.slice a' l' c')).run Pr w=.ok b w) :
  (∀ xo yo,Gives (do eqGuard .eql t xo yo (.slice a l c) (.slice a' l' c');binOp .eql t (.slice a l c) (.slice a' l' c')) (.bool b))/\(∀ xo yo,Gives (do eqGuard .neq t xo yo (.slice a l c) (.slice a' l' c');binOp .neq t (.slice a l c) (.slice a' l' c')) (.bool (!b))):=by
 refine⟨λxo yo w=>?_,λxo yo w=>?_⟩<;>simp only[binOp]<;>simp[eqGuard_at_slice,Op.equal,Op.maxDepth,h w 9999]
theorem eqE_law {e:Env} {t:TypeId} {x y:AV} {u v:Value} {b:Bool} (h:(eqE t).g x y=some b) (hx:Dn e x u) (hy:Dn e y v) :
  (∀ xo yo,Gives (do eqGuard .eql t xo yo u v;binOp .eql t u v) (.bool b))/\(∀ xo yo,Gives (do eqGuard .neq t xo yo u v;binOp .neq t u v) (.bool (!b))):=by
 cases hc:clsB t with
 | none=>
  have h':(xx x y λx y=>eqI x y some)=some b:=by unfold eqE at h;rw[hc]at h;exact h
  clear h;obtain⟨s,s',rfl,rfl,h1⟩:=xx_law h';obtain⟨k,p,q,rfl,rfl,h2⟩:=eqI_law h1 hx hy;cases h2;refine⟨λxo yo w=>?_,λxo yo w=>?_⟩
  ·simp[eqGuard_at_int,binOp_eql,beqZ]
  ·simp[eqGuard_at_int,binOp_neq,bne,beqZ]
 | some c=>
  unfold eqE at h;rw[hc]at h;unfold clsB at hc;cases c with
  | ag n=>
   have hag:agB t=some n:=by
    split at hc
    ·split at hc
     ·rename_i z _;cases hz:Nat.beq z.2 0<;>rw[hz]at hc<;>cases hc
     ·cases hc
    ·cases hc
    ·cases hc
    ·cases ha:agB t<;>rw[ha]at hc<;>cases hc;rfl
    ·cases ha:agB t<;>rw[ha]at hc<;>cases hc;rfl
    ·cases hc
   have h':(asA x λl=>asA y λm=>gd (Nat.beq (len l) n && Nat.beq (len m) n) (eqL n l m))=some b:=h
   obtain⟨l,rfl,Hn⟩:=jK h';clear h';have h':=Hn;clear Hn;obtain⟨m,rfl,Hn⟩:=jK h';clear h';have h':=Hn;clear Hn;obtain⟨h1,h2⟩:=zk h';simp only[Bool.and_eq_true,zT,decide_eq_true_eq,qz]at h1;obtain⟨us,rfl,hus⟩:=hx;obtain⟨vs,rfl,hvs⟩:=hy;have hs:=eqL_law h2 hus hvs;have he:=equal_agg hag (by rw[<-hus.length,h1.1]) hs;have hg:=(agB_law hag).1;refine⟨λxo yo w=>?_,λxo yo w=>?_⟩
   ·simp only[Sem.run_bind,run_eqGuard_agg w .eql t xo yo ⟨us⟩ ⟨vs⟩ hg,Result.andThen_ok,run_eql_struct w t,he w]
   ·simp only[Sem.run_bind,run_eqGuard_agg w .neq t xo yo ⟨us⟩ ⟨vs⟩ hg,Result.andThen_ok,run_neq_struct w t,he w]
  | pt=>
   have h':(xx x y eqP)=some b:=h
   obtain⟨s,s',rfl,rfl,Hn⟩:=xx_law h';clear h';have h':=Hn;clear Hn;have hT:∃ E q,Pr.underlying t=some (.pointer E)/\tkB Pr E=some q/\q.2≠0:=by
    split at hc
    ·rename_i E hu;split at hc
     ·rename_i z hz;cases hb:Nat.beq z.2 0 with
      | true=>rw[hb]at hc;cases hc
      | false=>exact⟨E,z,hu,hz,λk=>by rw[k]at hb;cases hb⟩
     ·cases hc
    ·cases hc
    ·cases hc
    ·cases ha:agB t<;>rw[ha]at hc<;>cases hc
    ·cases ha:agB t<;>rw[ha]at hc<;>cases hc
    ·cases hc
   obtain⟨E,q,hu,hq,hq0⟩:=hT;have hsz:=Go.Lw.run_sizeOf (P:=Pr) (T:=E) (b:=q.1) (s:=q.2) hq;unfold eqP at h';split at h'
   ·rename_i i o j o';obtain⟨h1,h2⟩:=zk h';cases h2;simp only[Bool.and_eq_true,zT,decide_eq_true_eq]at h1;obtain⟨rfl,rfl⟩:=h1;obtain⟨_,rfl⟩:=hx;obtain⟨_,rfl⟩:=hy;refine ptr_eq λw d=>?_;simp[Op.equalIn,run_underlying hu,hsz,hq0,run_sameAddr_same]
   ·cases h';obtain⟨_,rfl⟩:=hx;obtain⟨rfl,_⟩:=hy;refine ptr_eq λw d=>?_;simp[Op.equalIn,run_underlying hu]
   ·cases h';obtain⟨rfl,_⟩:=hx;obtain⟨_,rfl⟩:=hy;refine ptr_eq λw d=>?_;simp[Op.equalIn,run_underlying hu]
   ·cases h';obtain⟨rfl,_⟩:=hx;obtain⟨rfl,_⟩:=hy;refine ptr_eq λw d=>?_;simp[Op.equalIn,run_underlying hu]
   ·cases h'
  | sl=>
   have h':(xx x y eqS)=some b:=h
   obtain⟨s,s',rfl,rfl,Hn⟩:=xx_law h';clear h';have h':=Hn;clear Hn;have hT:∃ E,Pr.underlying t=some (.slice E):=by
    split at hc
    ·split at hc
     ·rename_i z _;cases hz:Nat.beq z.2 0<;>rw[hz]at hc<;>cases hc
     ·cases hc
    ·rename_i E hu;exact⟨E,hu⟩
    ·cases hc
    ·cases ha:agB t<;>rw[ha]at hc<;>cases hc
    ·cases ha:agB t<;>rw[ha]at hc<;>cases hc
    ·cases hc
   obtain⟨E,hu⟩:=hT;unfold eqS at h';split at h'
   ·cases h';obtain⟨_,rfl⟩:=hx;obtain⟨rfl,_⟩:=hy;refine sl_eq λw d=>?_;simp[Op.equalIn,run_underlying hu]
   ·cases h';obtain⟨_,rfl,_⟩:=hx;obtain⟨rfl,_⟩:=hy;refine sl_eq λw d=>?_;simp[Op.equalIn,run_underlying hu]
   ·cases h';obtain⟨rfl,_⟩:=hx;obtain⟨rfl,_⟩:=hy;refine sl_eq λw d=>?_;simp[Op.equalIn,run_underlying hu]
   ·cases h'
  | st=>
   have h':(xx x y eqT)=some b:=h
   obtain⟨s,s',rfl,rfl,Hn⟩:=xx_law h';clear h';have h':=Hn;clear Hn;unfold eqT at h';split at h'
   ·cases h';obtain⟨rfl,_⟩:=hx;obtain⟨rfl,_⟩:=hy;refine⟨λxo yo w=>?_,λxo yo w=>?_⟩<;>simp[eqGuard_at_string,binOp_string_eql,binOp_string_neq,beq_toListBytes]
   ·cases h'
theorem isSt_law {t:TypeId} (h:isSt t=true):Pr.underlying t=some .string:=by
 unfold isSt at h;split at h
 ·assumption
 ·cases h
theorem bin_law {e:Env} {op:BinOp} {t:TypeId} {x y r:AV} {u v:Value} (h:(binE op t).g x y=some r) (hx:Dn e x u) (hy:Dn e y v) :
  ∃ q,Dn e r q/\∀ xo yo,Gives (do eqGuard op t xo yo u v;binOp op t u v) q:=by
 have num:∀ {K:IntKind->Int->Int->Option AV},two x y K=some r->∃ k a b,u=.int k a/\v=.int k b/\K k a b=some r:=λ {K} h=>by obtain⟨k,a,b,rfl,rfl,Hn⟩:=two_law h;clear h;have h:=Hn;clear Hn;exact⟨k,a,b,hx,hy,h⟩
 cases op with
 | add=>
  have h':(Bool.rec (motive:=λ_=>Bi) (.mk λx y=>two x y λk a b=>mkI k (a+b)) (.mk addS) (isSt t)).g x y=some r:=h
  cases hs:isSt t with
  | false=>
   rw[hs]at h';obtain⟨k,a,b,rfl,rfl,h⟩:=num h';obtain rfl:=mkI_law h;exact⟨_,rfl,λxo yo w=>by simp[eqGuard_add,binOp_add,Op.intArith]⟩
  | true=>
   rw[hs]at h';have h'':addS x y=some r:=h';unfold addS at h'';split at h''
   ·rename_i s s';obtain⟨h1,h2⟩:=zk h'';cases h2;obtain⟨rfl,_⟩:=hx;obtain⟨rfl,_⟩:=hy;have h3:=qR h1;have hm:IntKind.i64.max=9223372036854775807:=by decide
    refine⟨.string (s++s'),⟨rfl,rfl⟩,λxo yo w=>?_⟩;have hn:¬ (((s.size+s'.size:Nat):Int) > IntKind.i64.max):=by rw[hm];omega
    simp only[eqGuard_add,binOp_string_add,Op.stringOp,if_neg hn,Sem.run_bind,Sem.run_pure,Result.andThen_ok]
   ·obtain⟨k,a,b,rfl,rfl,h⟩:=num h'';obtain rfl:=mkI_law h;exact⟨_,rfl,λxo yo w=>by simp[eqGuard_add,binOp_add,Op.intArith]⟩
 | sub=>
  obtain⟨k,a,b,rfl,rfl,Hn⟩:=num h;clear h;have h:=Hn;clear Hn;obtain rfl:=mkI_law h;exact⟨_,rfl,λxo yo w=>by simp[eqGuard_sub,binOp_sub,Op.intArith]⟩
 | mul=>
  obtain⟨k,a,b,rfl,rfl,Hn⟩:=num h;clear h;have h:=Hn;clear Hn;obtain rfl:=mkI_law h;exact⟨_,rfl,λxo yo w=>by simp[eqGuard_mul,binOp_mul,Op.intArith]⟩
 | quo=>
  obtain⟨k,a,b,rfl,rfl,Hn⟩:=num h;clear h;have h:=Hn;clear Hn;obtain⟨h1,h2⟩:=zk h;obtain rfl:=mkI_law h2;have hb:b≠0:=by simpa [ieqB_eq]using h1
  exact⟨_,rfl,λxo yo w=>by simp[eqGuard_quo,binOp_quo,Op.intDiv,hb]⟩
 | rem=>
  obtain⟨k,a,b,rfl,rfl,Hn⟩:=num h;clear h;have h:=Hn;clear Hn;obtain⟨h1,h2⟩:=zk h;obtain rfl:=frcI_law h2;have hb:b≠0:=by simpa [ieqB_eq]using h1
  exact⟨_,rfl,λxo yo w=>by simp[eqGuard_rem,binOp_rem,Op.intDiv,hb]⟩
 | and=>
  obtain⟨k,a,b,rfl,rfl,Hn⟩:=num h;clear h;have h:=Hn;clear Hn;obtain rfl:=frcI_law h;exact⟨_,rfl,λxo yo w=>by simp[eqGuard_at_int,binOp_and,Op.intBits]⟩
 | or=>
  obtain⟨k,a,b,rfl,rfl,Hn⟩:=num h;clear h;have h:=Hn;clear Hn;obtain rfl:=frcI_law h;exact⟨_,rfl,λxo yo w=>by simp[eqGuard_at_int,binOp_or,Op.intBits]⟩
 | xor=>
  obtain⟨k,a,b,rfl,rfl,Hn⟩:=num h;clear h;have h:=Hn;clear Hn;obtain rfl:=frcI_law h;exact⟨_,rfl,λxo yo w=>by simp[eqGuard_at_int,binOp_xor,Op.intBits]⟩
 | andNot=>
  obtain⟨k,a,b,rfl,rfl,Hn⟩:=num h;clear h;have h:=Hn;clear Hn;obtain rfl:=frcI_law h;exact⟨_,rfl,λxo yo w=>by simp[eqGuard_at_int,binOp_andNot,Op.intBits]⟩
 | shl=>
  obtain⟨k,a,rfl,Hn⟩:=qB h;clear h;have h:=Hn;clear Hn;obtain⟨k',b,rfl,Hn⟩:=qB h;clear h;have h:=Hn;clear Hn;obtain⟨p,rfl,Hn⟩:=nn_law h;clear h;have h:=Hn;clear Hn;obtain⟨q,rfl,Hn⟩:=nn_law h;clear h;have h:=Hn;clear Hn;obtain⟨h1,h2⟩:=zk h;obtain rfl:=mkI_law h2;obtain rfl:u=_:=hx;obtain rfl:v=_:=hy;have h3:=Nat.le_of_ble_eq_true h1;rw[bts_eq]at h3;refine⟨_,rfl,λxo yo w=>?_⟩;have h4:¬ ((q:Int)<0):=by omega
  simp only[eqGuard_at_int,binOp_shl,binOp_shr,Op.shift,if_neg h4,Sem.run_bind,Sem.run_pure,Result.andThen_ok,Int.toNat_natCast,Nat.min_eq_left h3];congr 3;show _=((Nat.shiftLeft p q:Nat):Int);have:Nat.shiftLeft p q=p*2 ^ q:=Nat.shiftLeft_eq p q;rw[this];push_cast;rfl
 | shr=>
  obtain⟨k,a,rfl,Hn⟩:=qB h;clear h;have h:=Hn;clear Hn;obtain⟨k',b,rfl,Hn⟩:=qB h;clear h;have h:=Hn;clear Hn;obtain⟨p,rfl,Hn⟩:=nn_law h;clear h;have h:=Hn;clear Hn;obtain⟨q,rfl,Hn⟩:=nn_law h;clear h;have h:=Hn;clear Hn;obtain⟨h1,h2⟩:=zk h;obtain rfl:=frcI_law h2;obtain rfl:u=_:=hx;obtain rfl:v=_:=hy;have h3:=Nat.le_of_ble_eq_true h1;rw[bts_eq]at h3;refine⟨_,rfl,λxo yo w=>?_⟩;have h4:¬ ((q:Int)<0):=by omega
  simp only[eqGuard_at_int,binOp_shl,binOp_shr,Op.shift,if_neg h4,Sem.run_bind,Sem.run_pure,Result.andThen_ok,Int.toNat_natCast,Nat.min_eq_left h3];congr 2;show _=((Nat.shiftRight p q:Nat):Int);have:Nat.shiftRight p q=p / 2 ^ q:=Nat.shiftRight_eq_div_pow p q;rw[this,Int.fdiv_eq_ediv_of_nonneg _ (by exact_mod_cast Nat.zero_le _)]
  push_cast;rfl
 | eql=>
  obtain⟨b,h1,h2⟩:=zA h;obtain rfl:=bl_law h2;exact⟨_,rfl,(eqE_law h1 hx hy).1⟩
 | neq=>
  obtain⟨b,h1,h2⟩:=zA h;obtain rfl:=blN_law h2;exact⟨_,rfl,(eqE_law h1 hx hy).2⟩
 | lss=>
  obtain⟨k,a,b,rfl,rfl,Hn⟩:=num h;clear h;have h:=Hn;clear Hn;obtain rfl:=blN_law h;refine⟨.bool (decide (a<b)),?_,λxo yo w=>by simp[eqGuard_at_int,binOp_lss]⟩;show Value.bool _=.bool _;rw[jr];congr 1;rw[Bool.eq_iff_iff];simp
 | leq=>
  obtain⟨k,a,b,rfl,rfl,Hn⟩:=num h;clear h;have h:=Hn;clear Hn;obtain rfl:=bl_law h;refine⟨.bool (decide (a<=b)),?_,λxo yo w=>by simp[eqGuard_at_int,binOp_leq]⟩;show Value.bool _=.bool _;rw[jr]
 | gtr=>
  obtain⟨k,a,b,rfl,rfl,Hn⟩:=num h;clear h;have h:=Hn;clear Hn;obtain rfl:=blN_law h;refine⟨.bool (decide (b<a)),?_,λxo yo w=>by simp[eqGuard_at_int,binOp_gtr]⟩;show Value.bool _=.bool _;rw[jr];congr 1;rw[Bool.eq_iff_iff];simp
 | geq=>obtain⟨k,a,b,rfl,rfl,Hn⟩:=num h;clear h;have h:=Hn;clear Hn;obtain rfl:=bl_law h;refine⟨.bool (decide (b<=a)),?_,λxo yo w=>by simp[eqGuard_at_int,binOp_geq]⟩;show Value.bool _=.bool _;rw[jr]
theorem un_law {e:Env} {op:UnOp} {x r:AV} {u:Value} (h:(unE op).g x=some r) (hx:Dn e x u):∃ q,Dn e r q/\Gives (Op.unary op u) q:=by
 cases op with
 | neg=>
  obtain⟨k,a,rfl,Hn⟩:=qB h;clear h;have h:=Hn;clear Hn;obtain rfl:=mkI_law h;obtain rfl:u=_:=hx;exact⟨_,rfl,λw=>by simp[Op.unary,Op.intArith]⟩
 | not=>
  obtain⟨b,rfl,Hn⟩:=asB_law h;clear h;have h:=Hn;clear Hn;obtain rfl:=blN_law h;obtain rfl:u=_:=hx;exact⟨_,rfl,λw=>by simp[Op.unary]⟩
 | _=>cases h
theorem conv_law {e:Env} {S T:TypeId} {x r:AV} {u:Value} (h:(convE S T).g x=some r) (hx:Dn e x u):∃ q,Dn e r q/\Gives (convert S T u) q:=by
 cases hc:cvB S T with
 | none=>unfold convE at h;rw[hc]at h;cases h
 | some k=>
  unfold convE at h;rw[hc]at h;have h':(asI x λ_ n=>mkI k n)=some r:=h;obtain⟨k',a,rfl,Hn⟩:=qB h';clear h';have h':=Hn;clear Hn;obtain rfl:=mkI_law h';obtain rfl:u=_:=hx;unfold cvB at hc;split at hc
  ·rename_i k1 k2 h1 h2;cases hc;exact⟨_,rfl,λw=>by simp[convert,run_underlying h1,run_underlying h2,Conv.intToInt]⟩
  ·cases hc
theorem nil_law {e:Env} {x r:AV} {u:Value} (h:nilE x=some r) (hx:Dn e x u):Dn e r u/\∀ a:Act,∀ y,a.eval y=u->∀ O:Oper,O.op=.nilCheck y->∀ w,(execOp a.eval O).run Pr w=.ok (.value u) w:=by
 have fin:(∃ p,u=.pointer (some p))\/(∃ fn a b,u=.func (.func fn) a b)\/(∃ l a b,u=.func (.yield l) a b)->∀ a:Act,∀ y,a.eval y=u->∀ O:Oper,O.op=.nilCheck y->∀ w,(execOp a.eval O).run Pr w=.ok (.value u) w:=λh a y hy O hO w=>by unfold execOp;rw[hO];simp only[hy];rcases h with ⟨p,rfl⟩ | ⟨fn,a,b,rfl⟩ | ⟨l,a,b,rfl⟩<;>simp
 unfold nilE at h;split at h
 ·cases h;exact⟨hx,fin (.inl ⟨_,hx.2⟩)⟩
 ·cases h;exact⟨hx,fin (.inr (.inl hx.2.2))⟩
 ·cases h;exact⟨hx,fin (.inr (.inr ⟨_,_,_,hx.2⟩))⟩
 ·cases h;exact⟨hx,fin (.inr (.inl ⟨_,_,_,hx.1⟩))⟩
 ·cases h
theorem fieldAddr_law {e:Env} {S f:Nat} {x r:AV} {u:Value} (h:(jE S f).g x=some r) (hx:Dn e x u):∃ q,Dn e r q/\Gives (Instr.fieldAt S u f) q:=by
 cases hc:foB Pr S f with
 | none=>unfold jE at h;rw[hc]at h;cases h
 | some k=>unfold jE at h;rw[hc]at h;have h':(asP x λid off=>nat (off+k) λo=>some (AV.x (.p id o)))=some r:=h;obtain⟨id,off,rfl,Hn⟩:=qW h';clear h';have h':=Hn;clear Hn;rw[nat_eq]at h';cases h';obtain⟨hd,rfl⟩:=hx;exact⟨_,⟨hd,rfl⟩,λw=>by rw[run_fieldAt hc,je]⟩
theorem indexAddr_law {e:Env} {X:TypeId} {x y r:AV} {u v:Value} (h:indexAddrE X x y=some r) (hx:Dn e x u) (hy:Dn e y v):∃ q,Dn e r q/\Gives (Instr.indexAt X u v) q:=by
 obtain⟨k,j,rfl,Hn⟩:=qB h;clear h;have h:=Hn;clear Hn;obtain rfl:v=_:=hy;have sl:∀ id off n c,(el X λ_ s=>idx j n λj=>nat (off+j*s) λo=>some (AV.x (.p id o)))=some r->e.dom id->u=.slice (some (adr e id off)) n c->∃ q,Dn e r q/\Gives (Instr.indexAt X u (.int k j)) q:=λid off n c h hd hu=>by obtain⟨E,s,ag,hX,hE,h⟩:=el_law h;obtain⟨i,rfl,hi,Hn⟩:=idx_law h;clear h;have h:=Hn;clear Hn;rw[nat_eq]at h;cases h;subst hu;refine⟨_,⟨hd,rfl⟩,λw=>?_⟩;have h1:(0:Int)<=i/\(i:Int)<n:=⟨by omega,by omega⟩;simp[Instr.indexAt,asIntOf,run_underlying hX,Go.Lw.run_sizeOf hE,h1,je];omega
 cases x with
 | x s=>
  cases s with
  | p id off=>
   have h':(ar X λq=>idx j q.1 λj=>nat (off+j*q.2.2.1) λo=>some (AV.x (.p id o)))=some r:=h
   obtain⟨n,E,s,ag,hX,hE,h'⟩:=ar_law h';obtain⟨i,rfl,hi,Hn⟩:=idx_law h';clear h';have h':=Hn;clear Hn;rw[nat_eq]at h';cases h';obtain⟨hd,rfl⟩:=hx;refine⟨_,⟨hd,rfl⟩,λw=>?_⟩;have h1:(0:Int)<=i/\(i:Int)<n:=⟨by omega,by omega⟩;simp[Instr.indexAt,asIntOf,run_underlying hX,Go.Lw.run_sizeOf hE,h1,Instr.sureAddr,je];omega
  | o x=>
   cases x with
   | s id off n c=>exact sl id off n c h hx.1 hx.2
   | w id off n c=>exact sl id off n _ h hx.1 hx.2.1
   | _=>cases h
  | _=>cases h
 | _=>cases h
theorem hdE_law {l:List Sc} {r:AV} (h:hdE l=some r):∃ s m,l=s::m/\r=.x s:=by
 cases l with
 | nil=>cases h
 | cons s m=>
  have h':(frc_s s λv=>some (AV.x v))=some r:=h
  rw[frc_s_eq]at h';cases h';exact⟨s,m,rfl,rfl⟩
theorem prt_law {e:Env} {t:TypeId} {ag:Bool} {off s:Nat} {l:List Sc} {us:List Value} {r:AV} (h:prt ag off s l=some r) (hu:zB (DnC e) l us) (ht:tkB Pr t=some (ag,s)):∃ q,Dn e r q/\Gives (part t ⟨us⟩ off) q:=by
 cases ag with
 | false=>
  have h':hdE (drp l off)=some r:=h
  rw[drp_eq]at h';obtain⟨x,m,hl,rfl⟩:=hdE_law h';have hlt:off<l.length:=by
   have:=congrArg List.length hl
   rw[List.length_drop]at this;simp at this;omega
  have hlu:off<us.length:=by rw[<-hu.length];exact hlt
  have hx:l[off]? = some x:=by
   have:=List.getElem?_drop (xs:=l) (i:=off) (j:=0)
   rw[hl]at this;simpa using this.symm
  refine⟨us[off],(hu.at hx (List.getElem?_eq_getElem hlu)).1,λw=>run_part_one ht (List.getElem?_eq_getElem hlu)⟩
 | true=>
  have h':(tke (drp l off) s λr=>some (AV.a r))=some r:=h
  rw[drp_eq]at h';obtain⟨_,h2⟩:=tke_law h';cases h2;exact⟨_,⟨_,rfl,(hu.drop off).take s⟩,λw=>run_part_agg ht⟩
theorem field_law {e:Env} {S f:Nat} {x r:AV} {u:Value} (h:(fieldE S f).g x=some r) (hx:Dn e x u):∃ q,Dn e r q/\Gives (Instr.field S u f) q:=by
 cases hc:fdB S f with
 | none=>unfold fieldE at h;rw[hc]at h;cases h
 | some z=>
  unfold fieldE at h;rw[hc]at h;have h':(asA x λl=>prt z.2.1 z.1 z.2.2 l)=some r:=h;obtain⟨l,rfl,Hn⟩:=jK h';clear h';have h':=Hn;clear Hn;obtain⟨us,rfl,hus⟩:=hx;unfold fdB at hc;split at hc
  ·rename_i fs hS;split at hc
   ·rename_i fd hf;cases ht:tkB Pr fd.type with
    | none=>rw[ht]at hc;cases hc
    | some q=>rw[ht]at hc;cases hc;obtain⟨v,h1,h2⟩:=prt_law h' hus ht;refine⟨v,h1,λw=>?_⟩;simp only[Instr.field,Sem.run_bind,run_underlying hS,Result.andThen_ok,hf,asAgg,Sem.run_pure,h2 w]
   ·cases hc
  ·cases hc
theorem index_law {e:Env} {X:TypeId} {x y r:AV} {u v:Value} (h:indexE X x y=some r) (hx:Dn e x u) (hy:Dn e y v):∃ q,Dn e r q/\Gives (Instr.index X u v) q:=by
 obtain⟨k,j,rfl,Hn⟩:=qB h;clear h;have h:=Hn;clear Hn;obtain rfl:v=_:=hy;cases x with
 | x s=>
  obtain⟨h1,h2⟩:=zk (x:=ixS s j) h;have hX:=isSt_law h1;cases s with
  | o x=>
   cases x with
   | c w0=>
    have h3:ixV w0 j=some r:=h2
    obtain rfl:=hx.1;clear hx;unfold ixV at h3;split at h3
    ·rename_i s;obtain⟨i,rfl,hi,Hn⟩:=idx_law h3;clear h3;have h3:=Hn;clear Hn;split at h3
     ·rename_i b hb;rw[nat_eq]at h3;cases h3;unfold byteAt at hb;cases hs:s[i]? with
      | none=>rw[hs]at hb;cases hb
      | some c=>
       rw[hs]at hb;cases hb;refine⟨_,rfl,λw=>?_⟩;have h0:(0:Int)<=i:=by omega
       simp[Instr.index,asIntOf,run_underlying hX,h0,hs]
     ·cases h3
    ·cases h3
   | _=>cases h2
  | _=>cases h2
 | a l=>
  have h':(ar X λq=>idx j q.1 λj=>prt q.2.2.2 (j*q.2.2.1) q.2.2.1 l)=some r:=h
  obtain⟨n,E,s,ag,hX,hE,h'⟩:=ar_law h';obtain⟨i,rfl,hi,Hn⟩:=idx_law h';clear h';have h':=Hn;clear Hn;obtain⟨us,rfl,hus⟩:=hx;obtain⟨q,h1,h2⟩:=prt_law h' hus hE;refine⟨q,h1,λw=>?_⟩;have h0:(0:Int)<=i/\(i:Int)<n:=⟨by omega,by omega⟩;simp[Instr.index,asIntOf,run_underlying hX,Go.Lw.run_sizeOf hE,h2 w];omega
 | t l=>cases h
theorem ext_law {e:Env} {x r:AV} {j:Nat} {u:Value} (h:extE x j=some r) (hx:Dn e x u):∃ q,Dn e r q/\Gives (Instr.extract u j) q:=by
 obtain⟨l,rfl,Hn⟩:=asT_law h;clear h;have h:=Hn;clear Hn;obtain⟨us,rfl,hus⟩:=hx;unfold extT at h;rw[drp_eq]at h;cases hl:l.drop j with
 | nil=>rw[hl]at h;cases h
 | cons s m=>
  rw[hl]at h;have hlt:j<l.length:=by
   have:=congrArg List.length hl
   rw[List.length_drop]at this;simp at this;omega
  have hlu:j<us.length:=by rw[<-hus.length];exact hlt
  have hs:l[j]? = some s:=by
   have:=List.getElem?_drop (xs:=l) (i:=j) (j:=0)
   rw[hl]at this;simpa using this.symm
  have hT:=hus.at hs (List.getElem?_eq_getElem hlu)
  refine⟨us[j],?_,λw=>by simp[Instr.extract,hlu]⟩;cases s with
  | inl s=>
   have h':(frc_s s λs=>some (AV.x s))=some r:=h
   rw[frc_s_eq]at h';cases h';exact hT
  | inr l=>cases h;exact hT
theorem kN {n:Nat} {r:AV} (h:iLn n=some r):r=.i .i64 n:=by obtain⟨_,h2⟩:=zk h;cases h2;rfl
theorem mmx_law {e:Env} {mx:Bool} : ∀ {l:List AV} {x r:AV} {u:Value} {us:List Value},mmx mx x l=some r->Dn e x u->zB (Dn e) l us->
  ∃ q,Dn e r q/\Gives (us.foldlM (bif mx then Builtin.max2 else Builtin.min2) u) q
 | [],x,r,u,us,h,hx,hl=>by
  cases us with
  | cons=>exact hl.elim
  | nil=>
   have h':(asI x λk a=>some (AV.i k a))=some r:=h
   obtain⟨k,a,rfl,Hn⟩:=qB h';clear h';have h':=Hn;clear Hn;cases h';exact⟨u,hx,λw=>by simp⟩
 | y::l,x,r,u,us,h,hx,hl=>by
  cases us with
  | nil=>exact hl.elim
  | cons v us=>
   have h':(two x y λk a b=>Bool.rec (motive:=λ_=>Option AV) (mmx mx x l) (mmx mx y l) (Bool.rec (motive:=λ_=>Bool) (!qO a b) (!qO b a) mx))=some r:=h
   obtain⟨k,a,b,rfl,rfl,Hn⟩:=two_law h';clear h';have h':=Hn;clear Hn;obtain rfl:u=_:=hx;obtain rfl:v=_:=hl.1;cases mx with
   | true=>
    have h2:Bool.rec (motive:=λ_=>Option AV) (mmx true (AV.i k a) l) (mmx true (AV.i k b) l) (!qO b a)=some r:=h'
    rw[jr]at h2;by_cases c:b<=a
    ·rw[decide_eq_true c]at h2;obtain⟨q,q1,q2⟩:=mmx_law (l:=l) h2 (show Dn e (AV.i k a) (.int k a)from rfl) hl.2;refine⟨q,q1,λw=>?_⟩;have:=q2 w;simp only[cond_true]at this⊢;simp only[List.foldlM_cons,Sem.run_bind,Builtin.max2,Sem.run_pure,Result.andThen_ok,if_neg (show ¬ b > a by omega),this]
    ·rw[decide_eq_false c]at h2;obtain⟨q,q1,q2⟩:=mmx_law (l:=l) h2 (show Dn e (AV.i k b) (.int k b)from rfl) hl.2;refine⟨q,q1,λw=>?_⟩;have:=q2 w;simp only[cond_true]at this⊢;simp only[List.foldlM_cons,Sem.run_bind,Builtin.max2,Sem.run_pure,Result.andThen_ok,if_pos (show b > a by omega),this]
   | false=>
    have h2:Bool.rec (motive:=λ_=>Option AV) (mmx false (AV.i k a) l) (mmx false (AV.i k b) l) (!qO a b)=some r:=h'
    rw[jr]at h2;by_cases c:a<=b
    ·rw[decide_eq_true c]at h2;obtain⟨q,q1,q2⟩:=mmx_law (l:=l) h2 (show Dn e (AV.i k a) (.int k a)from rfl) hl.2;refine⟨q,q1,λw=>?_⟩;have:=q2 w;simp only[cond_false]at this⊢;simp only[List.foldlM_cons,Sem.run_bind,Builtin.min2,Sem.run_pure,Result.andThen_ok,if_neg (show ¬ b<a by omega),this]
    ·rw[decide_eq_false c]at h2;obtain⟨q,q1,q2⟩:=mmx_law (l:=l) h2 (show Dn e (AV.i k b) (.int k b)from rfl) hl.2;refine⟨q,q1,λw=>?_⟩;have:=q2 w;simp only[cond_false]at this⊢;simp only[List.foldlM_cons,Sem.run_bind,Builtin.min2,Sem.run_pure,Result.andThen_ok,if_pos (show b<a by omega),this]
/-! ### Slices -/
def optV (a:Act) (o:Option Operand):Option Value:=o.map a.eval
theorem optI_law {Z:Type} {z:Z} {e:Env} {τ:L3} {a:Act} {o:Option Operand} {d:Nat} {K:Nat->Option Z} (h:qf o τ d K=some z) (ho:∀ x,o=some x->Dn e ((evO x).v τ) (a.eval x)) :
  (o=none/\K d=some z)\/∃ k m,optV a o=some (.int k ((m:Nat):Int))/\K m=some z:=by
 cases o with
 | none=>exact .inl ⟨rfl,h⟩
 | some x=>
  have h':(asI ((evO x).v τ) λ_ n=>nn n λn=>K n)=some z:=h
  obtain⟨k,n,hv,h'⟩:=qB h';obtain⟨m,rfl,Hn⟩:=nn_law h';clear h';have h':=Hn;clear Hn;have:=ho x rfl;rw[hv]at this;exact .inr ⟨k,m,congrArg some this,h'⟩
theorem bound_law {k:IntKind} {m y:Nat} {c:BoundsCode} (h:m<=y):Gives (Instr.sliceBound (.int k (m:Int)) y c) m:=λw=>by
 have h1:(0:Int)<=m/\(m:Int)<=y:=⟨by omega,by omega⟩
 simp[Instr.sliceBound,asIntOf];omega
theorem bgn_eq (off l m s:Nat) (h:l<=m):bgn off l m s=if m=l then off else off+l*s:=by
 unfold bgn;by_cases c:m=l
 ·subst c;simp;rfl
 ·rw[if_neg c];obtain⟨n,hn⟩:∃ n,m-l=n+1:=⟨m-l-1,by omega⟩;rw[hn]
theorem cut_law {e:Env} {id off s l u m:Nat} {r:AV} (h:cut id off s l u m=some r) (hd:e.dom id) (hl:l<=m):Dn e r (sliced (some (adr e id off)) l u m s):=by
 unfold cut at h;rw[nat_eq,nat_eq,nat_eq]at h;cases h;refine⟨hd,?_⟩;unfold sliced;rw[bgn_eq off l m s hl];congr 1;split
 ·rfl
 ·simp[je]
theorem bounds_law {isS:Bool} {len cap l u m:Nat} {lo hi mx:Option Value} (hlo:lo=none/\l=0\/∃ k,lo=some (.int k (l:Int))) (hhi:hi=none/\u=len/\mx=none\/∃ k,hi=some (.int k (u:Int))) (hmx:mx=none/\m=cap\/∃ k,mx=some (.int k (m:Int)))
  (h1:l<=u) (h2:u<=m) (h3:m<=cap) (hlu:mx=none->hi=none->l<=len):Gives (Instr.sliceBounds isS len cap lo hi mx) (l,u,m):=λw=>by
 rcases hmx with ⟨rfl,rfl⟩ | ⟨km,rfl⟩
 ·rcases hhi with ⟨rfl,rfl,_⟩ | ⟨kh,rfl⟩
  ·rcases hlo with ⟨rfl,rfl⟩ | ⟨kl,rfl⟩
   ·simp[Instr.sliceBounds]
   ·simp[Instr.sliceBounds,bound_law (k:=kl) h1 w]
  ·have e1:∀ c,(Instr.sliceBound (.int kh (u:Int)) m c).run Pr w=.ok u w:=λc=>bound_law h2 w
   rcases hlo with ⟨rfl,rfl⟩ | ⟨kl,rfl⟩
   ·simp[Instr.sliceBounds,e1]
   ·simp[Instr.sliceBounds,e1,bound_law (k:=kl) h1 w]
 ·have e0:∀ c,(Instr.sliceBound (.int km (m:Int)) cap c).run Pr w=.ok m w:=λc=>bound_law h3 w
  rcases hhi with ⟨_,_,h⟩ | ⟨kh,rfl⟩
  ·cases h
  ·have e1:∀ c,(Instr.sliceBound (.int kh (u:Int)) m c).run Pr w=.ok u w:=λc=>bound_law h2 w
   rcases hlo with ⟨rfl,rfl⟩ | ⟨kl,rfl⟩
   ·simp[Instr.sliceBounds,e0,e1]
   ·simp[Instr.sliceBounds,e0,e1,bound_law (k:=kl) h1 w]
end Go.Ev
