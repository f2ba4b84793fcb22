/- A part. -/
import Derived.WideLaws
import Derived.Lib.SliceRun
import Derived.Laws.IdiomStrings
import Derived.Laws.AppendOwn
import Derived.Lib.AppendStr
import Derived.Shelf.Sort.Plain
import Derived.Test.YtnffcfhdnjbdbaaGreatDoorProg
import Derived.KernelRfl
import Derived.Shelf.Strings.OnBuilder
import Derived.Shelf.Strings.SlTrimAscii
import Derived.Shelf.Strings.Count
import Derived.Test.YtnffcfhdnjbdbaaGreatDoorQ2
set_option linter.unusedVariables false
set_option linter.unusedSimpArgs false
set_option linter.unusedSectionVars false
set_option linter.constructorNameAsVariable false
noncomputable section
namespace Go.Lw
open Go.RowKit
section
variable {cx:Cx} {O R:List Own} {V:View} {w:World}
theorem Mem.rowFacts {a0:Option Addr} {e:TypeId} {s m c0:Nat} {xs:List Value} (h:Mem cx (.row (.slice a0 m c0) e s m xs::O) V w):m<=c0/\c0<=maxLen/\xs.length=m*s/\(a0=none->m=0):=by
 obtain⟨fp,⟨f,g,rfl,⟨rfl,hr⟩,hl⟩,h2,h3⟩:=h.own;rcases hr.2 with ⟨e1,rfl⟩ | ⟨b,cap,cur,e1,hb,hh,hnc,hcm,hcs,htake⟩
 ·cases e1;exact⟨Nat.le_refl _,Nat.zero_le _,hr.1,λ_=>rfl⟩
 ·cases e1;exact⟨hnc,hcm,hr.1,λh=>by cases h⟩
theorem Mem.blkRow {b cap n:Nat} {e:TypeId} {s:Nat} {cs:Array Value} {xs:List Value} (h:Mem cx (.blk b (.cells cs e (0,0))::O) V w) (hx:xs.length=n*s) (hs:cs.size=cap*s) (ht:cs.toList.take (n*s)=xs) (hn:n<=cap) (hc:cap<=maxLen) :
  Mem cx (.row (.slice (some ⟨b,0,none⟩) n cap) e s n xs::O) V w:=by
 obtain⟨fp,⟨f,g,rfl,⟨rfl,hb,hh⟩,hl⟩,h2,h3⟩:=h.own;exact⟨h.below,h.le0,h.fresh,h.view,[b]++g,⟨[b],g,rfl,⟨rfl,hx,.inr ⟨b,cap,cs,rfl,hb,hh,hn,hc,hs,ht⟩⟩,hl⟩,h2,h3⟩
theorem Mem.rowBlk2 {v:Value} {e:TypeId} {s n:Nat} {xs:List Value} (h:Mem cx (.row v e s n xs::O) V w) (hn:n≠0) :
  ∃ b cap rest,v=.slice (some ⟨b,0,none⟩) n cap/\n<=cap/\cap<=maxLen/\(xs++rest).length=cap*s/\Mem cx (.blk b (LC (xs++rest) e)::O) V w:=by
 obtain⟨fp,⟨f,g,rfl,⟨rfl,hr⟩,hl⟩,h2,h3⟩:=h.own;rcases hr.2 with ⟨rfl,hn0⟩ | ⟨b,cap,cur,rfl,hb,hh,hnc,hcm,hcs,htake⟩
 ·exact absurd hn0 hn
 ·have hcat:xs++cur.toList.drop (n*s)=cur.toList:=by rw[<-htake,List.take_append_drop]
  refine⟨b,cap,cur.toList.drop (n*s),rfl,hnc,hcm,by rw[hcat];simpa using hcs,?_⟩;have hcur:(LC (xs++cur.toList.drop (n*s)) e:Obj)=.cells cur e (0,0):=by
   show Obj.cells _ e (0,0)=Obj.cells cur e (0,0)
   congr 1;rw[hcat]
  rw[hcur];exact⟨h.below,h.le0,h.fresh,h.view,[b]++g,⟨[b],g,rfl,⟨rfl,hb,hh⟩,hl⟩,by simpa [Value.ownBlock]using h2,by simpa [Value.ownBlock]using h3⟩
end
section
variable {cx:Cx} {n:Nat} {ks:List (Nat×Value)} {O R:List Own} {V:View} {w:World} {K:Act->World->Prop}
theorem At.rowBlk2 {v:Value} {e:TypeId} {s m:Nat} {xs:List Value} (hp:zo (.row v e s m xs) O R) (hm:m≠0)
  (h:∀ b cap rest,v=.slice (some ⟨b,0,none⟩) m cap->m<=cap->cap<=maxLen->(xs++rest).length=cap*s->At cx n ks (.blk b (LC (xs++rest) e)::R) V K):At cx n ks O V K:=λa w hk hmm=>by
 obtain⟨b,cap,rest,h1,h2,h3,h4,h5⟩:=(hmm.pick hp).rowBlk2 hm;exact h b cap rest h1 h2 h3 h4 a w hk h5
theorem At.blkRow {b m cap:Nat} {e:TypeId} {s:Nat} {xs rest:List Value} (hp:zo (.blk b (LC (xs++rest) e)) O R) (hl:(xs++rest).length=cap*s) (hx:xs.length=m*s) (h1:m<=cap) (h2:cap<=maxLen)
  (h:At cx n ks (.row (.slice (some ⟨b,0,none⟩) m cap) e s m xs::R) V K):At cx n ks O V K:=λa w hk hmm=>
 h a w hk ((hmm.pick hp).blkRow hx (by simpa using hl) (by rw[<-hx];exact List.take_left) h1 h2)
end
section
variable {cx:Cx} {n:Nat} {ks:List (Nat×Value)} {O R:List Own} {V:View} {P:Program} {ops:Array Oper} {Qn:Act->World->Prop} {t:Tr} {i d:Nat} {T:TypeId} {pos:String} {after:Array Edge} {gd:Option (Nat×Bool)} {x y:Operand} {X Z:TypeId} {p q:Int}
theorem wrapU {A:Nat} (h:A<18446744073709551616):IntKind.u64.wrap (A:Int)=(A:Int):=by simp[IntKind.wrap,IntKind.bits,IntKind.signed];omega
end
theorem run_append_zero {P:Program} (w:World) (t ty e:TypeId) (i:TypeInfo) (ht:P.underlying t=some (.slice e)) (hi:P.info? e=some i) (base a2:Option Addr) (n cap c2:Nat) (hle:n<=cap) :
  (Builtin.append_ #[t,t] ty #[.slice base n cap,.slice a2 0 c2]).run P w=.ok (.slice base n cap) w:=by
 cases a2 with
 | none=>cases base<;>simp[Builtin.append_,run_underlying ht,sizeOf,typeInfo,hi,Builtin.lenOf,Builtin.firstCells,hle,storeCells]
 | some p=>
  have hf:=run_firstCells_some (P:=P) w i.size 0 p 0 c2 [] (by simp) (by simp)
  cases base<;>simp[Builtin.append_,run_underlying ht,sizeOf,typeInfo,hi,Builtin.lenOf,hf,hle,storeCells]
section
variable {cx:Cx} {n:Nat} {ks:List (Nat×Value)} {O R:List Own} {V:View} {P:Program} {ops:Array Oper} {Qn:Act->World->Prop} {t:Tr} {i d:Nat} {T:TypeId} {pos:String} {after:Array Edge} {gd:Option (Nat×Bool)} {x y:Operand} {wr:Bool}
theorem appendRS {α:Type} {enc:α->List Value} {m:List α} {X E:TypeId} {z:Value} {s by_ n0 c0:Nat} {a0:Option Addr} {xs:List Value} {v:Value} (ho:ops[i]? = some ⟨some d,.call ⟨.builtin .append,#[x,y],#[X,X]⟩,T,pos,after,gd⟩) (hg:Gd ks ops gd) (hX:P.underlying X=some (.slice E)) (hE:rowB P E=some (z,s,by_)) (hzs:z.cells.size=s) (hs:0<s)
  (hx:ev ks x=some (.slice a0 n0 c0)) (hy:ev ks y=some v) (hp:zo (.row (.slice a0 n0 c0) E s n0 xs) O R) (hv:Sl V enc s v m) (he:∀ x,(enc x).length=s) (h1:∀ x,(enc x).all Value.oneCell'=true) (hb:n0+m.length<=maxLen) (hby:(n0+m.length)*by_<=140737488355328) (hn:d<n)
  (next:∀ a cap,AtT cx n ((d,.slice a (n0+m.length) cap)::ks) (.row (.slice a (n0+m.length) cap) E s (n0+m.length) (xs++flat enc m)::R) V P ops Qn t):AtT cx n ks O V P ops Qn (.n true i t):=by
 have hv':=hv
 obtain⟨a2,c2,rfl,k1,k2,k3,k4⟩:=hv;cases m with
 | nil=>
  refine .x ho hg λa w hk hm=>?_;have hm1:=hm.pick hp;obtain⟨f1,f2,f3,f4⟩:=hm1.rowFacts;obtain⟨ti,hi,hz,hsz,hbz⟩:=jk hE;have hr:=run_append_zero (P:=P) w X T E ti hX hi a0 a2 n0 c0 c2 f1;simp only[opW,execOp,resolve,invoke,builtin,Sem.run_bind,Sem.run_pure,Result.andThen_ok,List.map_toArray,List.map_cons,List.map_nil,hk.ev hx,hk.ev hy,List.length_nil,hr];have:=next a0 c0
  simp only[List.length_nil,Nat.add_zero,flat,List.flatMap_nil,List.append_nil]at this;exact⟨_,_,V,hk.put hn _,hm1,λh=>(by cases h),this⟩
 | cons q l=>
  obtain⟨p2,rfl⟩:∃ p,a2=some p:=by
   have:=k3 (by simp)
   cases a2 with
   | none=>cases this
   | some p=>exact⟨p,rfl⟩
  exact AtT.append ho hg hX hE hzs hs hx hy hp (Sl.cells he hv') (zU he _) (flat_all1 h1 _) hb hby hn next
end
end Go.Lw
namespace Go.Lw
def FncM (P:Program) (cx:Cx) (f:FuncId) (args:List Value) (O:List Own) (V:View) (R:Value->List Own->View->Prop):Prop:=
 ∀ w,Mem cx O V w->Calls P f args.toArray w λe w'=>∃ v O' V',e=.returned v/\Mem cx O' V' w'/\R v O' V'
theorem Mem.ds {cx:Cx} {O:List Own} {V:View} {w:World} (h:Mem cx O V w) (ds:List Deferred):Mem { cx with ds:=ds } O V w:=⟨h.below,h.le0,h.fresh,h.view,h.own⟩
theorem Mem.ds' {cx:Cx} {O:List Own} {V:View} {w:World} {ds:List Deferred} (h:Mem { cx with ds:=ds } O V w):Mem cx O V w:=⟨h.below,h.le0,h.fresh,h.view,h.own⟩
abbrev PostM (cx:Cx) (R:Value->List Own->View->Prop):Ending->World->Prop:=λe w'=>∃ v O' V',e=.returned v/\Mem cx O' V' w'/\R v O' V'
theorem fncM_of {P:Program} {cx:Cx} {f:FuncId} {fn:Func} {c:Code} {args:List Value} {O:List Own} {V:View} {R:Value->List Own->View->Prop} {n:Nat} (hf:P.funcs[f]? = some fn) (hb:fn.body=some c) (hn:fn.ntmps=n) (hl:args.length<=n)
  (h:At { cx with ds:=[] } n (frame args 0) O V (c.wpIn (FW none) 0 P (bodyPost P fn (PostM cx R)))):FncM P cx f args O V R:=λw hm=>by
 refine(jG (ro:=none) (n:=0)).1 (callsIn_of_wp hf hb trivial (h _ w ⟨rfl,?_,λi v hi=>?_⟩ (hm.ds [])) rfl)
 ·simp[hn];omega
 ·have:=(frame_known args 0 i v hi).2
  simp only[Nat.sub_zero]at this;have hlt:=(List.getElem?_eq_some_iff.1 this).1;rw[Array.getElem?_append_left (by simpa using hlt)];simpa using this
section
variable {cx:Cx} {n:Nat} {ks:List (Nat×Value)} {O O' R:List Own} {V:View} {P:Program} {fn:Func}
theorem retM0 {R:Value->List Own->View->Prop} {e:Exit} (he:e=.normal\/e=.ret) (hr:fn.results=#[]) (h:R (.tuple #[]) O V):At { cx with ds:=[] } n ks O V (bodyPost P fn (PostM cx R) e):=λa w hk hm=>by rcases he with rfl | rfl<;>exact⟨hk.defers,_,results_none hr _ _ _,_,O,V,rfl,hm.ds',h⟩
theorem retM1 {R:Value->List Own->View->Prop} {r:ResultVar} {v:Value} (hr:fn.results=#[r]) (h1:Res P ks O V r v) (h:R v O V):At { cx with ds:=[] } n ks O V (bodyPost P fn (PostM cx R) .ret):=λa w hk hm=>
 ⟨hk.defers,v,by
  rcases h1.spec hk hm with ⟨t,rfl,e⟩ | ⟨p,T,q,rfl,e,l⟩<;>simp[results,hr,asAddr, *],_,O,V,rfl,hm.ds',h⟩
end
section
variable {cx:Cx} {n:Nat} {ks:List (Nat×Value)} {O O':List Own} {V:View} {P:Program} {ops:Array Oper} {Qn:Act->World->Prop} {t:Tr} {i d:Nat} {T:TypeId} {pos:String} {after:Array Edge} {gd:Option (Nat×Bool)}
theorem callM {f:FuncId} {args:List Operand} {ts:Array TypeId} {vs:List Value} {R:Value->List Own->View->Prop} (ho:ops[i]? = some ⟨some d,.call ⟨.value (.func f),args.toArray,ts⟩,T,pos,after,gd⟩) (hg:Gd ks ops gd) (ha:evs ks args=some vs) (hf:zi P f) (hn:d<n)
  (hp:O.Perm O') (hc:FncM P cx f vs O' V R) (next:∀ v O2 V2,R v O2 V2->AtT cx n ((d,v)::ks) O2 V2 P ops Qn t):AtT cx n ks O V P ops Qn (.n true i t):=
 .x ho hg λa w hk hm=>by
  have e:args.toArray.map a.eval=vs.toArray:=by rw[<-evs_map hk args vs ha];simp
  have e2:a.eval (.func f)=.func (.func f) #[] #[]:=rfl
  simp only[opW,execOp,resolve,e,e2,Deferred.ofValue,Sem.run_bind,Sem.run_pure,Result.andThen_ok,invoke,Array.empty_append,Array.append_empty];rw[hf vs.toArray w];refine(hc w (hm.perm hp)).mono λe w' ⟨v,O2,V2,h1,h2,h3⟩=>?_;subst h1;exact⟨_,O2,V2,hk.put hn v,h2,λh=>(by cases h),next v O2 V2 h3⟩
end
theorem pt_all:∀ O:List Own,Pt O O
 | []=>.nil
 | x::O=>.cons .here (pt_all O)
theorem pt_skip {l:List Own} {y:Own} {O:List Own} (h:Pt l O):Pt l (y::O):=by
 induction h generalizing y with
 | nil=>exact .nil
 | cons hx _ ih=>exact .cons (.there hx) ih
theorem Pt.zO {l' l:List Own} (h:Pt l' l:=by repeat(first | exact Pt.nil | exact pt_all _ | refine Pt.cons (by repeat(first | exact zo.here | apply zo.there)) ?_ | refine pt_skip ?_)):Pt l' l:=h
open Go.RowKit
section
variable {α β:Type} [DecidableEq α]
def mput (a:α) (v:β) (M:MM α β) (c:Nat):MM α β×Nat:=if kI a M=true then (mmod a v M,c)else (M++[(a,v,c)],c+1)
variable {P:Program} {kt et:TypeId} {ek:α->Value} {ev':β->Value} {M:MM α β} {b c:Nat}
variable {cx:Cx} {n:Nat} {ks:List (Nat×Value)} {O O' R R':List Own} {V:View} {ops:Array Oper} {Qn:Act->World->Prop} {t:Tr} {i d:Nat} {T:TypeId} {pos:String} {after:Array Edge} {gd:Option (Nat×Bool)} {x y z:Operand}
theorem mapSet {X:TypeId} (ho:ops[i]? = some ⟨none,.mapUpdate X x y z,T,pos,after,gd⟩) (hg:Gd ks ops gd) (K:KeyL P kt ek) (a:α) (vb:β) (hX:P.underlying X=some (.map kt et)) (hx:ev ks x=some (.map (some b))) (hy:ev ks y=some (ek a)) (hz:ev ks z=some (ev' vb)) (hp:Upd (.blk b (qM ek ev' M c)) (.blk b (qM ek ev' (mput a vb M c).1 (mput a vb M c).2)) O O')
  (next:AtT cx n ks O' V P ops Qn t):AtT cx n ks O V P ops Qn (.n true i t):=by
 by_cases h:kI a M=true
 ·obtain⟨j,v0,hj⟩:=mhas_yes h;have e:mput a vb M c=(mmod a vb M,c):=by unfold mput;rw[if_pos h]
  rw[e]at hp;refine mapOld (c:=c) ho hg K a vb hX hx hy hz hj (λe he=>?_) hp next
  obtain⟨_,e',h2,h3⟩:=fk_at hj;rw[Nat.sub_zero,he]at h2;cases h2;exact h3
 ·have e:mput a vb M c=(M++[(a,vb,c)],c+1):=by unfold mput;rw[if_neg h]
  rw[e]at hp;exact mapNew ho hg K a vb hX hx hy hz (mhas_no h) hp next
end
section
variable {α β:Type} [DecidableEq α]
structure MOk (M:MM α β) (c:Nat):Prop where
 keys:(M.map (·.1)).Nodup
 borns:(M.map (·.2.2)).Nodup
 lt:∀ e∈M,e.2.2<c
theorem MOk.nil (c:Nat):MOk ([]:MM α β) c:=⟨List.nodup_nil,List.nodup_nil,λe he=>by cases he⟩
theorem mmod_keys (a:α) (v:β):∀ M:MM α β,(mmod a v M).map (·.1)=M.map (·.1)
 | []=>rfl
 | e::M=>by
  simp only[mmod];split
  ·rename_i h;simp[h]
  ·simp[mmod_keys a v M]
theorem mmod_borns (a:α) (v:β):∀ M:MM α β,(mmod a v M).map (·.2.2)=M.map (·.2.2)
 | []=>rfl
 | e::M=>by
  simp only[mmod];split
  ·rfl
  ·simp[mmod_borns a v M]
theorem mhas_keys (a:α) (M:MM α β):kI a M=true↔a∈M.map (·.1):=by rw[jg,List.mem_map]
theorem mput_ok {a:α} {v:β} {M:MM α β} {c:Nat} (h:MOk M c):MOk (mput a v M c).1 (mput a v M c).2:=by
 unfold mput;split
 ·refine⟨by rw[mmod_keys];exact h.keys,by rw[mmod_borns];exact h.borns,λe he=>?_⟩;have:e.2.2∈(mmod a v M).map (·.2.2):=List.mem_map_of_mem he;rw[mmod_borns]at this;obtain⟨e',h1,h2⟩:=List.mem_map.1 this;rw[<-h2];exact h.lt e' h1
 ·rename_i hn;refine⟨?_,?_,λe he=>?_⟩
  ·rw[List.map_append,List.nodup_append];refine⟨h.keys,by simp,λx hx y hy e=>hn ?_⟩;simp at hy;rw[mhas_keys,<-hy,<-e];exact hx
  ·rw[List.map_append,List.nodup_append];refine⟨h.borns,by simp,λx hx y hy e=>?_⟩;simp at hy;obtain⟨e',h1,h2⟩:=List.mem_map.1 hx;have:=h.lt e' h1;omega
  ·rcases List.mem_append.1 he with he | he
   ·have:=h.lt e he;omega
   ·simp at he;subst he;exact Nat.lt_succ_self c
end
section
variable {α β:Type} [DecidableEq α] {P:Program} {kt et:TypeId} {ek:α->Value} {ev':β->Value} {M:MM α β} {b c:Nat}
variable {cx:Cx} {n:Nat} {ks:List (Nat×Value)} {O O' R R':List Own} {V:View} {ops:Array Oper} {Qn:Act->World->Prop} {t:Tr} {i d:Nat} {T:TypeId} {pos:String} {after:Array Edge} {gd:Option (Nat×Bool)} {x y z:Operand} {wr:Bool}
theorem rangeV {X:TypeId} (ho:ops[i]? = some ⟨some d,.range X x,T,pos,after,gd⟩) (hg:Gd ks ops gd) (hX:P.underlying X=some (.map kt et)) (hx:ev ks x=some (.map (some b))) (hv:V b=some (qM ek ev' M c)) (hn:d<n)
  (next:∀ r,AtT cx n ((d,.pointer (some ⟨r,0,none⟩))::ks) (.blk r (.mapIter (some b) c #[] c)::O) V P ops Qn t):AtT cx n ks O V P ops Qn (.n wr i t):=
 .x ho hg λa w hk hm=>by
  have hb:w.heap[b]? = some (.map (M.map (mE ek ev')).toArray c):=hm.view _ _ hv
  simp only[opW,execOp,hk.ev hx,Instr.range,Sem.run_bind,run_underlying hX,Result.andThen_ok,qw hb,Sem.run_pure,run_newObj];exact⟨_,.blk w.heap.size (.mapIter (some b) c #[] c)::O,V,hk.put hn _,hm.alloc _,λ_ u hu=>hu.drop,next _⟩
theorem nextV {r since c0:Nat} {seen:Array Nat} (ho:ops[i]? = some ⟨some d,.next x false,T,pos,after,gd⟩) (hg:Gd ks ops gd) (hx:ev ks x=some (.pointer (some ⟨r,0,none⟩))) (hr:zo (.blk r (.mapIter (some b) since seen c0)) O R) (hv:V b=some (qM ek ev' M c)) (hold:∀ e∈M,e.2.2<since) (hsc:since<=c0) (hn:d<n)
  (next1:(∀ e∈M,e.2.2∈seen)->AtT cx n ((d,.tuple #[.bool false])::ks) O V P ops Qn t)
  (next2:∀ e∈M,e.2.2∉seen->AtT cx n ((d,.tuple #[.bool true,ek e.1,ev' e.2.1])::ks) (.blk r (.mapIter (some b) since (seen.push e.2.2) c)::R) V P ops Qn t):AtT cx n ks O V P ops Qn (.n true i t):=
 .x ho hg λa w hk hm=>by
  have hm1:=hm.pick hr
  have hm2:w.heap[b]? = some (.map (M.map (mE ek ev')).toArray c):=hm.view _ _ hv
  have h:=run_next_at (P:=P) w T r b since c0 seen _ c hm1.blk hm2 (λx hx=>by simp only[List.toList_toArray,List.mem_map]at hx;obtain⟨e,he,rfl⟩:=hx;exact hold e he) hsc
  rcases h with ⟨h0,h1⟩ | ⟨e,he,w1,hw1,h1⟩
  ·simp only[opW,execOp,hk.ev hx,Sem.run_bind,h1,Result.andThen_ok,Sem.run_pure];refine⟨_,O,V,hk.put hn _,hm,λh=>(by cases h),next1 λe he=>?_⟩;have h0':=Array.eq_empty_of_size_eq_zero h0;unfold leftOf at h0';rw[Array.filter_eq_empty_iff]at h0';have:=h0' (mE ek ev' e) (by rw[List.mem_toArray];exact List.mem_map_of_mem he);simpa [mE]using this
  ·simp only[opW,execOp,hk.ev hx,Sem.run_bind,h1,Result.andThen_ok,Sem.run_pure];unfold leftOf at he;simp only[Array.toList_filter,List.mem_filter,List.toList_toArray,List.mem_map]at he;obtain⟨⟨q,hq,rfl⟩,hs⟩:=he;have hmw:Mem cx (.blk r (.mapIter (some b) since seen c0)::R) V w1:=by
    rcases hw1 with rfl | rfl
    ·exact hm1
    ·exact hm1.ext (Below.refl _ w).drew
   exact⟨_,.blk r (.mapIter (some b) since (seen.push q.2.2) c)::R,V,hk.put hn _,hmw.put,λh=>(by cases h),next2 q hq (by simpa [mE]using hs)⟩
theorem entryV {r since:Nat} {seen:Array Nat} {e:α×β×Nat} (ho:ops[i]? = some ⟨some d,.entry x,T,pos,after,gd⟩) (hg:Gd ks ops gd) (hx:ev ks x=some (.pointer (some ⟨r,0,none⟩))) (hr:zo (.blk r (.mapIter (some b) since (seen.push e.2.2) c)) O R) (hv:V b=some (qM ek ev' M c)) (he:e∈M) (hnd:(M.map (·.2.2)).Nodup) (hn:d<n)
  (next:AtT cx n ((d,.tuple #[ek e.1,ev' e.2.1])::ks) O V P ops Qn t):AtT cx n ks O V P ops Qn (.n wr i t):=
 .x ho hg λa w hk hm=>by
  have hm1:=hm.pick hr
  have hm2:w.heap[b]? = some (.map (M.map (mE ek ev')).toArray c):=hm.view _ _ hv
  have h:=run_entry_at (P:=P) w r b since seen _ c (mE ek ev' e) hm1.blk hm2 (by rw[List.toList_toArray];exact List.mem_map_of_mem he) (by simpa [Function.comp_def,mE]using hnd)
  simp only[opW,execOp,hk.ev hx,Sem.run_bind,h,Result.andThen_ok,Sem.run_pure];exact⟨_,O,V,hk.put hn _,hm,λ_ u hu=>hu,next⟩
end
section
def RwB {α:Type} (V V':View) (E:TypeId) (s:Nat) (enc:α->List Value) (v:Value) (L:List α):Prop:=
 ∃ g cap cs,v=.slice (some ⟨g,0,none⟩) L.length cap/\L.length<=cap/\cap<=maxLen/\V g=none/\V' g=some (LC cs E)/\cs.length=cap*s/\cs.take (L.length*s)=flat enc L
theorem RwB.sl {α:Type} {V V':View} {E:TypeId} {s:Nat} {enc:α->List Value} {v:Value} {L:List α} (he:∀ x,(enc x).length=s) (h:RwB V V' E s enc v L):Sl V' enc s v L:=by
 obtain⟨g,cap,cs,rfl,h1,h2,_,h3,h4,h5⟩:=h;refine Sl.of_cells he (λj u hj=>?_) h1 h2;rw[<-h5,List.getElem?_take]at hj;split at hj
 ·exact zQ h3 j u hj
 ·cases hj
theorem RwB.le {α:Type} {V V' V2:View} {E:TypeId} {s:Nat} {enc:α->List Value} {v:Value} {L:List α} (h:RwB V V' E s enc v L) (hl:Le V' V2):RwB V V2 E s enc v L:=by obtain⟨g,cap,cs,h0,h1,h2,h3,h4,h5⟩:=h;exact⟨g,cap,cs,h0,h1,h2,h3,hl _ _ h4,h5⟩
theorem RwB.base {α:Type} {V V0 V':View} {E:TypeId} {s:Nat} {enc:α->List Value} {v:Value} {L:List α} (h:RwB V V' E s enc v L) (hl:Le V0 V):RwB V0 V' E s enc v L:=by
 obtain⟨g,cap,cs,h0,h1,h2,h3,h4⟩:=h;refine⟨g,cap,cs,h0,h1,h2,?_,h4⟩;cases hv:V0 g with
 | none=>rfl
 | some o=>rw[hl _ _ hv]at h3;cases h3
variable {P:Program} {cx:Cx} {n:Nat} {ks:List (Nat×Value)} {O O' R R':List Own} {V:View} {ops:Array Oper} {Qn:Act->World->Prop} {t:Tr} {i d:Nat} {T:TypeId} {pos:String} {after:Array Edge} {gd:Option (Nat×Bool)} {x y z:Operand} {wr:Bool}
theorem appendCR {α:Type} {enc:α->List Value} {l m:List α} {X E:TypeId} {z:Value} {s by_ c k:Nat} {a0:Option Addr} {q:Addr} (ho:ops[i]? = some ⟨some d,.call ⟨.builtin .append,#[x,y],#[X,X]⟩,T,pos,after,gd⟩) (hg:Gd ks ops gd) (hX:P.underlying X=some (.slice E)) (hE:rowB P E=some (z,s,by_)) (hzs:z.cells.size=s) (hs:0<s)
  (hx:ev ks x=some (.slice a0 l.length l.length)) (hv:Sl V enc s (.slice a0 l.length l.length) l) (hy:ev ks y=some (.slice (some q) k c)) (hk':k=m.length) (hc:Cells V q (flat enc m)) (he:∀ x,(enc x).length=s) (h0:m≠[]) (hb:l.length+m.length<=maxLen) (hby:(l.length+m.length)*by_<=140737488355328) (hn:d<n)
  (next:∀ a cap V',Le V V'->RwB V V' E s enc (.slice a (l++m).length cap) (l++m)->AtT cx n ((d,.slice a (l++m).length cap)::ks) O V' P ops Qn t):AtT cx n ks O V P ops Qn (.n wr i t):=
 .x ho hg λa w hk hm=>by
  subst hk';obtain⟨ti,hi,hz,hsz,hbz⟩:=jk hE;have hm0:0<m.length:=List.length_pos_iff.2 h0;have hnews:=hc.run hm.view;have fin:∀ (cs:Array Value) (cap:Nat),l.length+m.length<=cap->cap<=maxLen->cs.size=cap*s->cs.toList.take ((l++m).length*s)=flat enc (l++m)->∃ ks' O' V',Kn cx n ks' (a.put (some d) (.slice (some ⟨w.heap.size,0,none⟩) (l.length+m.length) cap))/\Mem cx O' V' (w.drew.alloc (.cells cs E))/\(wr=false->∀ u,Mem cx O' V' u->Mem cx O V u)/\AtT cx n ks' O' V' P ops Qn t:=λcs cap h1 h2 h4 h3=>by
   obtain⟨V',k1,k2,k3⟩:=(hm.ext (Below.refl _ w).drew).allocV (.cells cs E);have hS:RwB V V' E s enc (.slice (some ⟨w.heap.size,0,none⟩) (l++m).length cap) (l++m):=⟨w.heap.size,cap,cs.toList,rfl,by simpa using h1,h2,by
    cases hv:V w.heap.size with
    | none=>rfl
    | some o=>have:=hm.view.lt hv;omega,k2,by simpa using h4,h3⟩;refine⟨_,O,V',hk.put hn _,k3,λ_ u hu=>hu.less hm.le0 k1,?_⟩;have:=next (some ⟨w.heap.size,0,none⟩) cap V' k1 hS
   rw[List.length_append]at this;exact this
  simp only[opW,execOp,resolve,invoke,builtin,Sem.run_bind,Sem.run_pure,Result.andThen_ok,List.map_toArray,List.map_cons,List.map_nil,hk.ev hx,hk.ev hy];have hflat:(flat enc (l++m)).length=(l++m).length*s:=zU he _;have happ:flat enc (l++m)=flat enc l++flat enc m:=by simp[flat]
  obtain⟨a0',cap0,e0,hcc,hc1,hc2,hc3⟩:=hv;cases e0;cases a0 with
  | none=>
   have hl:l=[]:=by cases l with | nil=>rfl | cons _ _=>exact absurd (hc2 (by simp)) (by simp)
   subst hl;have hr:=run_append_nil (P:=P) w X T E ti z hX hi hz q m.length c (flat enc m) (by rw[zU he,hsz]) hnews hm0 (by simp only[maxLen]at hb;simp at hb;omega) (by rw[hbz];simp at hby;omega);simp only[List.length_nil,hr,Result.andThen_ok];have:=fin ((flat enc m).toArray++Builtin.zeroCells z.cells (grownCap w m.length 0 E-m.length)) (grownCap w m.length 0 E) (by simpa using grownCap_ge w m.length 0 E) (grownCap_le_maxLen w _ _ _ (by simpa using hb)) (by
    have:=grownCap_ge w m.length 0 E
    rw[Array.size_append,size_zeroCells,hzs,List.size_toArray,zU he,<-Nat.add_mul];congr 1;omega) (by
    simp only[List.nil_append]at hflat⊢;rw[<-hflat,Array.toList_append];exact List.take_left);simpa using this
  | some p=>
   have hold:∀ j u,(flat enc l)[j]? = some u->w.cell? (p.add j)=some u:=(Sl.cells he (⟨some p,_,rfl,hcc,hc1,hc2,hc3⟩:Sl V enc s _ l)).run hm.view
   have hr:=run_append_grow (P:=P) w X T E ti z hX hi hz p l.length l.length (flat enc l) (by rw[zU he,hsz]) hold q m.length c (flat enc m) (by rw[zU he,hsz]) hnews (by omega) (by simp only[maxLen]at hb;omega) (growslice_fits (by omega) (by rw[hbz];exact hby))
   simp only[hr,Result.andThen_ok];exact fin _ _ (grownCap_ge w _ _ _) (grownCap_le_maxLen w _ _ _ hb) (by
    have:=grownCap_ge w (l.length+m.length) l.length E
    rw[Array.size_append,Array.size_append,size_zeroCells,hzs,List.size_toArray,List.size_toArray,zU he,zU he,<-Nat.add_mul,<-Nat.add_mul];congr 1;omega) (by
    rw[<-hflat,happ,Array.toList_append,Array.toList_append];exact List.take_left)
end
end Go.Lw
namespace Go.Ps
open Go.Lw
structure Pp where
 h:Int
 t:Int
structure Bd where
 o:Int
 br:List Int
 h:Int
 c:Int
structure IsL (l:List Int) (n:Int):Prop where
 bd:∀ x∈l,0<=x/\x<n
 up:l.Pairwise (· < ·)
structure BdOk (b:Bd):Prop where
 o:1<=b.o/\b.o<=10
 br:IsL b.br b.o
 ne:(b.br.length:Int)≠b.o
 h:0<=b.h/\b.h<=20
 c:0<=b.c/\b.c<=10
structure PpOk (ps:List Pp):Prop where
 n:ps.length<=12
 p:∀ p∈ps,0<=p.h/\p.h<=20/\1<=p.t/\p.t<=24
def plM (k:Nat):MM Int Int:=(List.range k).map λi:Nat=>((i:Int),(i:Int),i)
def plF (n:Nat) (l:List Int):MM Int Int:=(plM n).filter λe=>decide (e.1∉l)
theorem plM_mem {k:Nat} {e:Int×Int×Nat} : e∈plM k↔∃ i,i<k/\e=((i:Int),(i:Int),i):=by
 unfold plM;simp only[List.mem_map,List.mem_range];constructor
 ·rintro⟨i,h,rfl⟩;exact⟨i,h,rfl⟩
 ·rintro⟨i,h,rfl⟩;exact⟨i,h,rfl⟩
theorem plF_mem {n:Nat} {l:List Int} {e:Int×Int×Nat} : e∈plF n l↔(∃ i,i<n/\e=((i:Int),(i:Int),i))/\e.1∉l:=by unfold plF;rw[List.mem_filter,plM_mem,decide_eq_true_eq]
end Go.Ps
namespace Go.Mt
open Go.Lw Go.Ps
structure Ms where
 l:Int
 r:Int
abbrev mse (s:Ms):List Value:=[.int .i64 s.l,.int .i64 s.r]
theorem mse_len (s:Ms):(mse s).length=2:=rfl
structure MbOk (F:Int) (E:List Ms):Prop where
 f:1<=F/\F<=6
 n:E.length<=10
 e:∀ s∈E,0<=s.l/\s.l<F/\0<=s.r/\s.r<F
def bgn (s:Ms) (t:Int):Int:=if 0<t then s.r else s.l
def fin (s:Ms) (t:Int):Int:=if 0<t then s.l else s.r
end Go.Mt
namespace Go.Gl
structure Rg where
 lo:Int
 hi:Int
structure Dy where
 lo:Int
 hi:Int
 pot:Int
structure Pn where
 lo:Int
 hi:Int
 sp:Int
structure Sm where
 t:Int
 g:Int
 deriving DecidableEq
structure Bn where
 w:Int
 p:Int
 each:List Sm
abbrev iv (x:Int):Value:=.int .i64 x
abbrev sme (s:Sm):List Value:=[iv s.t,iv s.g]
abbrev smv (s:Sm):Value:=.agg #[iv s.t,iv s.g]
theorem ivs {a b:Int} (h:a=b):some (iv a)=some (iv b):=by rw[h]
theorem zV {α:Type} (enc:α->List Value) (l m:List α):Go.Lw.flat enc (l++m)=Go.Lw.flat enc l++Go.Lw.flat enc m:=by simp[Go.Lw.flat]
theorem jP (x:Int):(Go.Lw.ei x).length=1:=rfl
theorem take_snoc' {α:Type} {l:List α} {k:Nat} {e:α} (h:l[k]? = some e):l.take (k+1)=l.take k++[e]:=by obtain⟨hk,he⟩:=List.getElem?_eq_some_iff.1 h;rw[List.take_succ_eq_append_getElem hk,he]
def outB (lo hi:Int) (n:Int):Bool:=decide (n<lo) || decide (hi<n)
def wi (lo hi:Int) (l:List Int):Bool:=!(l.any (outB lo hi))
def rngB (lo hi:Int):Bool:=decide (1<=lo/\lo<=hi/\hi<=240)
def potB (n:Int):Bool:=decide (1<=n/\n<=200)
def dayB (d:Dy):Bool:=rngB d.lo d.hi && potB d.pot
def dayE (d:Dy):Int:=if dayB d then 0 else 3
def strayB (p:Pn):Bool:=!(rngB p.lo p.hi && potB p.sp)
def panE (ps:List Pn):Int:=if 10<ps.length then 6 else if ps.any strayB then 3 else 0
def bothE (d:Dy) (ps:List Pn):Int:=if dayE d≠0 then dayE d else panE ps
structure Ok (d:Dy) (ps:List Pn):Prop where
 l0:1<=d.lo
 l1:d.lo<=d.hi
 l2:d.hi<=240
 p0:1<=d.pot
 p1:d.pot<=200
 n10:ps.length<=10
 each:∀ p∈ps,1<=p.lo/\p.lo<=p.hi/\p.hi<=240/\1<=p.sp/\p.sp<=200
def timeOf (p:Pn) (sure:Bool):Int:=bif sure then p.hi else p.lo
def worksOf (d:Dy) (sure:Bool):Int:=bif sure then d.lo else d.hi
def smOf (sure:Bool) (p:Pn):Sm:=⟨timeOf p sure,p.sp⟩
def bn (d:Dy) (ps:List Pn) (sure:Bool):Bn:=⟨worksOf d sure,d.pot,ps.map (smOf sure)⟩
def Sm.and (a b:Sm):Sm:=⟨a.t+b.t,a.g+b.g⟩
def sm0:Sm:=⟨0,0⟩
def eachP (B:Bn) (i:Int):Sm:=B.each.getD i.toNat sm0
def sumL (B:Bn) (l:List Int):Sm:=l.foldl (λs i=>s.and (eachP B i)) sm0
def fitE (B:Bn) (s:Sm):Int:=if B.w<s.t then 22 else if B.p<s.g then 10 else 0
structure BnOk (B:Bn):Prop where
 w0:1<=B.w
 w1:B.w<=240
 p0:1<=B.p
 p1:B.p<=200
 n10:B.each.length<=10
 each:∀ s∈B.each,1<=s.t/\s.t<=240/\1<=s.g/\s.g<=200
end Go.Gl
namespace Go.Proofs.YtnffcfhdnjbdbaaGreatDoor.M
open Go.Lw Go.Ps Go.Mt Go.RowKit
open Go.Gl (iv ivs zV)
structure TbM (V:View) (b:Nat) (a:Option Addr) (c:Nat) (E:List Ms):Prop where
 sh:jb V ⟨b,1,none⟩=some (.slice a E.length c)
 sl:Sl V mse 2 (.slice a E.length c) E
theorem TbM.le {V V':View} {b:Nat} {a:Option Addr} {c:Nat} {E:List Ms} (h:TbM V b a c E) (hl:Le V V'):TbM V' b a c E:=⟨vcell_le hl h.sh,h.sl.le hl⟩
theorem vc_of {V:View} {b off:Nat} {cs:List Value} {E:TypeId} {fr:Nat×Nat} (h:V b=some (LC cs E fr)):jb V ⟨b,off,none⟩=cs[off]?:=by unfold jb;rw[h];simp[LC]
theorem ends_f {V:View} {b:Nat} {a:Option Addr} {c:Nat} {E:List Ms} (h:TbM V b a c E) (i:Nat) (t:Int) (s:Ms) (hs:E[i]? = some s):Fnc Tryz.prog 25 [.pointer (some ⟨b,0,none⟩),.agg #[iv i,iv t]] V λr _=>r=.tuple #[iv (bgn s t),iv (fin s t)]:=by
 have hsl:=h.sl
 have hlen:=hsl.jC
 have hi:=(List.getElem?_eq_some_iff.1 hs).1
 have hv:jb V ⟨b,0+0+1,none⟩=some (.slice a E.length c):=h.sh
 refine zG Tryz.func25 rfl Tryz.ntmps25 (Nat.le_of_ble_eq_true rfl) ?_;intro w0 hw0;refine zb (tT 0 [1,0,0]) ?_;refine qQ ?_;intro b3;refine zu ?_;refine zh ?_;refine xm (tT 0 [0,0,0,0,0,0,0,0,0,1,2]) ffm (by kernel_rfl) ?_;refine ze ?_;refine jh ?_;refine zw fo114_0 ?_;refine zw fo32_1 ?_;refine AtT.load rfl trivial rfl tk30 hv (by decide) ?_;refine zw fo72_0 ?_;refine kV tk3 ?_;refine kZ Tryz.underlying30 tk36 ?_;intro p14 e14 he14 hc14;obtain rfl:=qx hs he14;refine qo tk36 ?_;refine zW z36 ?_;intro b6;refine zH tk36 ?_;refine xq (tT 0 [0,0,0]) ?_;refine zw fo72_1 ?_;refine kV tk3 ?_;refine kgtr ?_;refine AtT.dn ?_;refine zI rfl (λhc=>?_) (λhc=>?_)
 ·refine nrm ?_;refine xm (tT 0 [0,0,0,0,0,0]) ffm (by kernel_rfl) ?_;refine zw fo36_1 ?_;refine kV tk3 ?_;refine zw fo36_0 ?_;refine kV tk3 ?_;refine zu ?_;refine zh ?_;refine ret2 rfl (.tmp rfl) (.tmp rfl) ?_;unfold bgn fin;rw[if_pos hc,if_pos hc]
 ·refine nrm ?_;refine xm (tT 0 [0,0,0,0,0,0]) ffm (by kernel_rfl) ?_;refine zw fo36_0 ?_;refine kV tk3 ?_;refine zw fo36_1 ?_;refine kV tk3 ?_;refine zu ?_;refine zh ?_;refine ret2 rfl (.tmp rfl) (.tmp rfl) ?_;unfold bgn fin;rw[if_neg hc,if_neg hc]
end Go.Proofs.YtnffcfhdnjbdbaaGreatDoor.M
namespace Go.Gl
def prevN (l:List Int):Nat->Int
 | 0=>0
 | k+1=>l.getD k 0+1
def okAt (l:List Int) (below:Int) (k:Nat):Bool:=decide (0<=l.getD k 0/\prevN l k<=l.getD k 0/\l.getD k 0<below)
def lstB (l:List Int) (below:Int):Bool:=(List.range l.length).all (okAt l below)
theorem lstB_true {l:List Int} {below:Int} (h:∀ j,j<l.length->okAt l below j=true):lstB l below=true:=by unfold lstB;rw[List.all_eq_true];intro j hj;exact h j (List.mem_range.1 hj)
theorem lstB_at {l:List Int} {below:Int} (h:lstB l below=true) {j:Nat} (hj:j<l.length):okAt l below j=true:=by unfold lstB at h;rw[List.all_eq_true]at h;exact h j (List.mem_range.2 hj)
theorem lstB_false {l:List Int} {below:Int} {k:Nat} (hk:k<l.length) (h:okAt l below k=false):lstB l below=false:=by
 cases hb:lstB l below with
 | false=>rfl
 | true=>rw[lstB_at hb hk]at h;cases h
theorem prevN_pos {l:List Int} {below:Int} : ∀ {k:Nat},(∀ j,j<k->okAt l below j=true)->0<=prevN l k
 | 0,_=>Int.le_refl 0
 | k+1,h=>by
  have:=h k (by omega)
  simp only[okAt,decide_eq_true_eq]at this;simp only[prevN];omega
theorem lstB_in {l:List Int} {below:Int} (h:lstB l below=true):∀ i∈l,0<=i/\i<below:=λi hi=>by
 obtain⟨k,hk⟩:=List.getElem?_of_mem hi;have hlt:=(List.getElem?_eq_some_iff.1 hk).1;have:=lstB_at h hlt;have e:l.getD k 0=i:=by simp[List.getD,hk]
 simp only[okAt,decide_eq_true_eq,e]at this;omega
def batN (l:List Int):Int:=l.foldl (λn x=>max n (x+1)) 0
def ofK (l:List Int) (b:Int):Nat->List Int
 | 0=>[]
 | k+1=>if l.getD k 0=b then ofK l b k++[(k:Int)]else ofK l b k
def ofL (l:List Int) (b:Int):List Int:=ofK l b l.length
def leastAt (l:List Int) (row:Bool) (k:Nat):Int:=if row=true/\0<k then l.getD (k-1) 0 else 0
def plAt (l:List Int) (row:Bool) (k:Nat):Bool:=decide (leastAt l row k<=l.getD k 0/\l.getD k 0<=batN (l.take k))
def planB (l:List Int) (row:Bool):Bool:=(List.range l.length).all (plAt l row)
def fromTo (a b:Int):List Int:=(List.range (b+1-a).toNat).map λ(i:Nat)=>a+(i:Int)
def qy (A:Nat):Nat->List Int
 | 0=>[]
 | k+1=>if A.testBit k=true then qy A k++[(k:Int)]else qy A k
def sm (B:Bn) (p:Nat->Bool):Nat->Sm
 | 0=>sm0
 | k+1=>if p k=true then (sm B p k).and (eachP B (k:Int))else sm B p k
def rowF (B:Bn):Nat->Nat×Nat
 | 0=>(0,0)
 | k+1=>if fitE B (sumL B (fromTo ((rowF B k).1:Int) (k:Int)))≠0 then (k,(rowF B k).2+1)else rowF B k
structure RowSt (B:Bn) (k:Nat):Prop where
 lt:(rowF B k).1<k
 same:∀ j,(rowF B k).1<=j->j<k->(rowF B (j+1)).2=(rowF B k).2
 less:∀ j,j<(rowF B k).1->(rowF B (j+1)).2<(rowF B k).2
 fits:fitE B (sm B (λi=>decide ((rowF B k).1<=i)) k)=0
def Good (B:Bn) (l:List Int):Prop:=∀ k:Int,fitE B (sm B (λi=>decide (l.getD i 0=k)) l.length)=0
def mxS (B:Bn) (l:List Int):Nat->Sm
 | 0=>sm0
 | k+1=>⟨max (mxS B l k).t (sumL B (ofL l (k:Int))).t,max (mxS B l k).g (sumL B (ofL l (k:Int))).g⟩
def frE (B:Bn):Nat->Int
 | 0=>0
 | k+1=>if frE B k≠0 then frE B k else fitE B (eachP B (k:Int))
def rowE (d:Dy) (ps:List Pn) (sure:Bool):Int:=if bothE d ps≠0 then bothE d ps else frE (bn d ps sure) ps.length
def befB:List Int->List Int->Bool
 | [],[]=>false
 | [],_::_=>true
 | _::_,[]=>false
 | x::a,y::b=>if x=y then befB a b else decide (x<y)
def earB:List Int->List Int->Bool
 | x::a,y::b=>if x=y then earB a b else decide (x<y)
 | _,_=>false
def apAt (B:Bn) (l:List Int) (i k:Nat):Bool:=decide (fitE B (sumL B [l.getD k 0,l.getD i 0])≠0)
def apRow (B:Bn) (l:List Int) (i:Nat):Bool:=(List.range i).all (apAt B l i)
def apB (B:Bn) (l:List Int):Bool:=(List.range l.length).all (apRow B l)
def apK (B:Bn):Nat->List Int
 | 0=>[]
 | k+1=>if apB B (qy k B.each.length)=true/\((apK B k).length<(qy k B.each.length).length\/(qy k B.each.length).length=(apK B k).length/\befB (qy k B.each.length) (apK B k)=true)then qy k B.each.length else apK B k
def goL (B:Bn):Nat->List Int->Int->Option (List Int)
 | 0,begun,_=>some begun
 | t+1,begun,most=>(List.range (min (batN begun+1) most).toNat).findSome? λ(k:Nat)=>if fitE B (sumL B (ofL (begun++[(k:Int)]) (k:Int)))≠0 then none else goL B t (begun++[(k:Int)]) most
def Gd (B:Bn) (n:Nat) (f:Nat->Nat) (m:Nat):Prop:=(∀ i,i<n->f i<m)/\∀ k,fitE B (sm B (λi=>decide (f i=k)) n)=0
structure Best (B:Bn) (l:List Int):Prop where
 len:l.length=B.each.length
 plan:planB l false=true
 good:Good B l
 go:goL B B.each.length [] (batN l)=some l
 least:∀ (f:Nat->Nat) (m:Nat),Gd B B.each.length f m->batN l<=(m:Int)
 first:∀ l',l'.length=B.each.length->planB l' false=true->Good B l'->batN l'<=batN l->earB l' l=false
open Go.Lw
def GdS (B:Bn) (S:Nat) (f:Nat->Nat) (m:Nat):Prop:=(∀ i,i<B.each.length->S.testBit i=true->f i<m)/\∀ k,fitE B (sm B (λi=>S.testBit i && decide (f i=k)) B.each.length)=0
structure Lst (B:Bn) (S:Nat) (v:Int):Prop where
 nn:0<=v
 can:∃ f,GdS B S f v.toNat
 least:∀ f m,GdS B S f m->v<=(m:Int)
def mkM (q:Nat->Bool):Nat->Nat
 | 0=>0
 | k+1=>if q k=true then mkM q k ||| 2 ^ k else mkM q k
theorem mkM_bit (q:Nat->Bool):∀ n i,(mkM q n).testBit i=(decide (i<n) && q i)
 | 0,i=>by simp[mkM]
 | n+1,i=>by
  have ih:=mkM_bit q n i
  simp only[mkM];by_cases c:q n=true
  ·rw[if_pos c,Nat.testBit_or,ih,Nat.testBit_two_pow];by_cases d:n=i
   ·subst d;simp[c]
   ·have:decide (i<n+1)=decide (i<n):=by rw[decide_eq_decide];omega
    simp[d,this]
  ·rw[if_neg c,ih];by_cases d:n=i
   ·subst d;simp[c]
   ·have:decide (i<n+1)=decide (i<n):=by rw[decide_eq_decide];omega
    rw[this]
def Ap2 (B:Bn) (a b:Int):Prop:=fitE B (sumL B [a,b])≠0
def Ap (B:Bn) (l:List Int):Prop:=l.Pairwise (λa b=>a<b/\Ap2 B a b)/\∀ x∈l,0<=x/\x<(B.each.length:Int)
theorem bitL_mem {A:Nat} : ∀ {n:Nat} {x:Int},x∈qy A n↔∃ i:Nat,i<n/\x=(i:Int)/\A.testBit i=true
 | 0,x=>by simp[qy]
 | n+1,x=>by
  have ih:=bitL_mem (A:=A) (n:=n) (x:=x)
  simp only[qy];by_cases c:A.testBit n=true
  ·rw[if_pos c,List.mem_append,ih,List.mem_singleton];constructor
   ·rintro(⟨i,h1,h2,h3⟩ | h)
    ·exact⟨i,by omega,h2,h3⟩
    ·exact⟨n,by omega,h,c⟩
   ·rintro⟨i,h1,h2,h3⟩;by_cases d:i=n
    ·subst d;exact .inr h2
    ·exact .inl ⟨i,by omega,h2,h3⟩
  ·rw[if_neg c,ih];constructor
   ·rintro⟨i,h1,h2,h3⟩;exact⟨i,by omega,h2,h3⟩
   ·rintro⟨i,h1,h2,h3⟩;have:i≠n:=λh=>c (by rw[<-h];exact h3);exact⟨i,by omega,h2,h3⟩
theorem bitL_lt (A:Nat):∀ n,(qy A n).Pairwise (· < ·)
 | 0=>List.Pairwise.nil
 | n+1=>by
  have ih:=bitL_lt A n
  simp only[qy];split
  ·refine List.pairwise_append.2 ⟨ih,List.pairwise_singleton _ _,λa ha b hb=>?_⟩;rw[List.mem_singleton]at hb;obtain⟨i,h1,h2,_⟩:=bitL_mem.1 ha;omega
  ·exact ih
theorem sorted_ext:∀ {a b:List Int},a.Pairwise (· < ·)->b.Pairwise (· < ·)->(∀ x,x∈a↔x∈b)->a=b
 | [],[],_,_,_=>rfl
 | [],y::b,_,_,h=>by have:=(h y).2 List.mem_cons_self;cases this
 | x::a,[],_,_,h=>by have:=(h x).1 List.mem_cons_self;cases this
 | x::a,y::b,ha,hb,h=>by
  rw[List.pairwise_cons]at ha hb;have e:x=y:=by
   rcases List.mem_cons.1 ((h x).1 List.mem_cons_self)with h1 | h1
   ·exact h1
   ·rcases List.mem_cons.1 ((h y).2 List.mem_cons_self)with h2 | h2
    ·exact h2.symm
    ·have:=hb.1 x h1;have:=ha.1 y h2;omega
  subst e;rw[sorted_ext ha.2 hb.2 λz=>?_];have:=h z;rw[List.mem_cons,List.mem_cons]at this;constructor
  ·intro hz;rcases this.1 (.inr hz)with h1 | h1
   ·have:=ha.1 z hz;omega
   ·exact h1
  ·intro hz;rcases this.2 (.inr hz)with h1 | h1
   ·have:=hb.1 z hz;omega
   ·exact h1
end Go.Gl
namespace Go.Pm
open Go.Gl Go.Lw
structure Cl where
 r:Int
 c:Int
 deriving DecidableEq
structure Pc where
 t:Int
 l:Int
 h:Int
 w:Int
 deriving DecidableEq
structure Gd where
 R:Int
 C:Int
 fig:Int->Int->Bool
 most:Int
def inP (p:Pc) (k:Cl):Prop:=p.t<=k.r/\k.r<p.t+p.h/\p.l<=k.c/\k.c<p.l+p.w
instance (p:Pc) (k:Cl):Decidable (inP p k):=by unfold inP;infer_instance
def arP (p:Pc):Int:=p.h*p.w
structure Lies (g:Gd) (p:Pc):Prop where
 h:1<=p.h/\p.h<=g.R
 w:1<=p.w/\p.w<=g.C
 t:0<=p.t/\p.t<=g.R-p.h
 l:0<=p.l/\p.l<=g.C-p.w
 fig:∀ i k,p.t<=i->i<p.t+p.h->p.l<=k->k<p.l+p.w->g.fig i k=false
 most:arP p<=g.most
def mnL (f:Cl->Int):List Cl->Int
 | []=>99
 | k::l=>min (f k) (mnL f l)
def mxL (f:Cl->Int):List Cl->Int
 | []=>-1
 | k::l=>max (f k) (mxL f l)
def bbx (l:List Cl):Pc:=⟨mnL (·.r) l,mnL (·.c) l,mxL (·.r) l-mnL (·.r) l+1,mxL (·.c) l-mnL (·.c) l+1⟩
theorem mnL_le {f:Cl->Int} : ∀ {l:List Cl} {k:Cl},k∈l->mnL f l<=f k
 | k'::l,k,h=>by
  simp only[mnL];rcases List.mem_cons.1 h with rfl | h
  ·omega
  ·have:=mnL_le (f:=f) h;omega
theorem mxL_ge {f:Cl->Int} : ∀ {l:List Cl} {k:Cl},k∈l->f k<=mxL f l
 | k'::l,k,h=>by
  simp only[mxL];rcases List.mem_cons.1 h with rfl | h
  ·omega
  ·have:=mxL_ge (f:=f) h;omega
theorem mnL_at {f:Cl->Int} : ∀ {l:List Cl},l≠[]->(∀ k∈l,f k<=99)->∃ k∈l,mnL f l=f k
 | [k],_,h=>⟨k,by simp,by simp only[mnL];have:=h k (by simp);omega⟩
 | k::k'::l,_,h=>by
  obtain⟨q,hq,he⟩:=mnL_at (f:=f) (l:=k'::l) (by simp) λx hx=>h x (List.mem_cons_of_mem _ hx);rw[mnL,he];by_cases c:f k<=f q
  ·exact⟨k,List.mem_cons_self,by omega⟩
  ·exact⟨q,List.mem_cons_of_mem _ hq,by omega⟩
theorem mxL_at {f:Cl->Int} : ∀ {l:List Cl},l≠[]->(∀ k∈l, -1<=f k)->∃ k∈l,mxL f l=f k
 | [k],_,h=>⟨k,by simp,by simp only[mxL];have:=h k (by simp);omega⟩
 | k::k'::l,_,h=>by
  obtain⟨q,hq,he⟩:=mxL_at (f:=f) (l:=k'::l) (by simp) λx hx=>h x (List.mem_cons_of_mem _ hx);rw[mxL,he];by_cases c:f q<=f k
  ·exact⟨k,List.mem_cons_self,by omega⟩
  ·exact⟨q,List.mem_cons_of_mem _ hq,by omega⟩
def OnG (g:Gd) (k:Cl):Prop:=0<=k.r/\k.r<g.R/\0<=k.c/\k.c<g.C
structure GOk (g:Gd):Prop where
 R:1<=g.R/\g.R<=6
 C:1<=g.C/\g.C<=6
 most:1<=g.most/\g.most<=36
structure Mends (g:Gd) (K:List Cl) (ps:List Pc):Prop where
 lies:∀ p∈ps,Lies g p
 has:∀ k∈K,∃ p∈ps,inP p k
def arL (ps:List Pc):Int:=(ps.map arP).sum
structure Best (g:Gd) (K:List Cl) (n:Nat) (c:Int):Prop where
 ex:∃ ps,Mends g K ps/\ps.length=n/\arL ps=c
 le:∀ ps,Mends g K ps->n<ps.length\/n=ps.length/\c<=arL ps
def SubB (q m:Nat):Prop:=∀ i,q.testBit i=true->m.testBit i=true
def jR {α:Type} (K:List α) (b:Nat):Nat->List α
 | 0=>[]
 | n+1=>match K[n]? with
  | some x=>if b.testBit n=true then jR K b n++[x]else jR K b n
  | none=>jR K b n
def sel {α:Type} (K:List α) (b:Nat):List α:=jR K b K.length
theorem selK_at {α:Type} {K:List α} {b n:Nat} {x:α} (h:K[n]? = some x):jR K b (n+1)=if b.testBit n=true then jR K b n++[x]else jR K b n:=by simp only[jR,h]
theorem selK_mem {α:Type} {K:List α} {b:Nat} {x:α} : ∀ n,x∈jR K b n↔∃ i,i<n/\K[i]? = some x/\b.testBit i=true
 | 0=>by simp[jR]
 | n+1=>by
  have ih:=selK_mem (K:=K) (b:=b) (x:=x) n
  cases c:K[n]? with
  | none=>
   simp only[jR,c];rw[ih];constructor
   ·rintro⟨i,a,e⟩;exact⟨i,by omega,e⟩
   ·rintro⟨i,a,e,f⟩;refine⟨i,?_,e,f⟩;apply Classical.byContradiction;intro hc;obtain rfl:i=n:=by omega
    rw[c]at e;cases e
  | some y=>
   rw[selK_at c];split
   ·rename_i hb;rw[List.mem_append,List.mem_singleton,ih];constructor
    ·rintro(⟨i,a,e⟩ | rfl)
     ·exact⟨i,by omega,e⟩
     ·exact⟨n,by omega,c,hb⟩
    ·rintro⟨i,a,e,f⟩;by_cases g:i=n
     ·subst g;rw[c]at e;cases e;exact .inr rfl
     ·exact .inl ⟨i,by omega,e,f⟩
   ·rename_i hb;rw[ih];constructor
    ·rintro⟨i,a,e⟩;exact⟨i,by omega,e⟩
    ·rintro⟨i,a,e,f⟩;by_cases g:i=n
     ·subst g;exact absurd f hb
     ·exact⟨i,by omega,e,f⟩
theorem sel_mem {α:Type} {K:List α} {b:Nat} {x:α} : x∈sel K b↔∃ i,K[i]? = some x/\b.testBit i=true:=by
 unfold sel;rw[selK_mem];constructor
 ·rintro⟨i,_,h⟩;exact⟨i,h⟩
 ·rintro⟨i,h1,h2⟩;exact⟨i,(List.getElem?_eq_some_iff.1 h1).1,h1,h2⟩
structure Cand (g:Gd) (K:List Cl) (b i:Nat) (part:Nat):Prop where
 sub:SubB part b
 low:part.testBit i=true
 lies:Lies g (bbx (sel K part))
structure Sh where
 rows:List ByteArray
 most:Int
abbrev bse (r:ByteArray):List Value:=[.string r]
abbrev cle (c:Cl):List Value:=[iv c.r,iv c.c]
theorem cle_len (c:Cl):(cle c).length=2:=rfl
abbrev pce (p:Pc):List Value:=[iv p.t,iv p.l,iv p.h,iv p.w]
abbrev pcv (p:Pc):Value:=.agg #[iv p.t,iv p.l,iv p.h,iv p.w]
def ShV (V:View) (v:Value) (s:Sh):Prop:=∃ a c,v=.agg #[.slice a s.rows.length c,iv s.most]/\Sl V bse 1 (.slice a s.rows.length c) s.rows
theorem ShV.le {V V':View} {v:Value} {s:Sh} (h:ShV V v s) (hl:Le V V'):ShV V' v s:=by obtain⟨a,c,rfl,hs⟩:=h;exact⟨a,c,rfl,hs.le hl⟩
def row0 (s:Sh):ByteArray:=s.rows.getD 0 ByteArray.empty
def wdS (s:Sh):Nat:=(row0 s).size
def chS (s:Sh) (i k:Nat):Int:=bv (s.rows.getD i ByteArray.empty) k
def gdS (s:Sh):Gd:=⟨s.rows.length,wdS s,λi k=>decide (chS s i.toNat k.toNat=35),s.most⟩
def knR (r:ByteArray) (i:Nat):Nat->List Cl
 | 0=>[]
 | k+1=>if bv r k=111 then knR r i k++[⟨(i:Int),(k:Int)⟩]else knR r i k
def knK (rows:List ByteArray):Nat->List Cl
 | 0=>[]
 | i+1=>match rows[i]? with
  | some r=>knK rows i++knR r i r.size
  | none=>knK rows i
def knL (s:Sh):List Cl:=knK s.rows s.rows.length
theorem knK_at {rows:List ByteArray} {i:Nat} {r:ByteArray} (h:rows[i]? = some r):knK rows (i+1)=knK rows i++knR r i r.size:=by simp only[knK,h]
theorem knR_mem {r:ByteArray} {i:Nat} {c:Cl} : ∀ n,c∈knR r i n↔∃ k,k<n/\bv r k=111/\c=⟨(i:Int),(k:Int)⟩
 | 0=>by simp[knR]
 | n+1=>by
  have ih:=knR_mem (r:=r) (i:=i) (c:=c) n
  simp only[knR];split
  ·rename_i h;rw[List.mem_append,List.mem_singleton,ih];constructor
   ·rintro(⟨k,a,e⟩ | rfl)
    ·exact⟨k,by omega,e⟩
    ·exact⟨n,by omega,h,rfl⟩
   ·rintro⟨k,a,e,f⟩;by_cases g:k=n
    ·subst g;exact .inr f
    ·exact .inl ⟨k,by omega,e,f⟩
  ·rename_i h;rw[ih];constructor
   ·rintro⟨k,a,e⟩;exact⟨k,by omega,e⟩
   ·rintro⟨k,a,e,f⟩;by_cases g:k=n
    ·subst g;exact absurd e h
    ·exact⟨k,by omega,e,f⟩
theorem knR_len (r:ByteArray) (i:Nat):∀ n,(knR r i n).length<=n
 | 0=>Nat.le_refl _
 | n+1=>by
  have:=knR_len r i n
  simp only[knR];split
  ·rw[List.length_append,List.length_singleton];omega
  ·omega
theorem knK_mem {rows:List ByteArray} {c:Cl} : ∀ n,c∈knK rows n↔∃ i r k,i<n/\rows[i]? = some r/\k<r.size/\bv r k=111/\c=⟨(i:Int),(k:Int)⟩
 | 0=>by simp[knK]
 | n+1=>by
  have ih:=knK_mem (rows:=rows) (c:=c) n
  cases h:rows[n]? with
  | none=>
   simp only[knK,h];rw[ih];constructor
   ·rintro⟨i,r,k,a,e⟩;exact⟨i,r,k,by omega,e⟩
   ·rintro⟨i,r,k,a,e,f⟩;by_cases g:i=n
    ·subst g;rw[h]at e;cases e
    ·exact⟨i,r,k,by omega,e,f⟩
  | some r0=>
   rw[knK_at h,List.mem_append,ih,knR_mem];constructor
   ·rintro(⟨i,r,k,a,e⟩ | ⟨k,a,e,f⟩)
    ·exact⟨i,r,k,by omega,e⟩
    ·exact⟨n,r0,k,by omega,h,a,e,f⟩
   ·rintro⟨i,r,k,a,e,f,g,x⟩;by_cases d:i=n
    ·subst d;rw[h]at e;cases e;exact .inr ⟨k,f,g,x⟩
    ·exact .inl ⟨i,r,k,by omega,e,f,g,x⟩
theorem kn_mem {s:Sh} {c:Cl} : c∈knL s↔∃ (i:Nat) (r:ByteArray) (k:Nat),s.rows[i]? = some r/\k<r.size/\bv r k=111/\c=⟨(i:Int),(k:Int)⟩:=by
 unfold knL;rw[knK_mem];constructor
 ·rintro⟨i,r,k,_,h⟩;exact⟨i,r,k,h⟩
 ·rintro⟨i,r,k,h⟩;exact⟨i,r,k,(List.getElem?_eq_some_iff.1 h.1).1,h⟩
def okC (c:Int):Bool:=decide (c=46\/c=111\/c=35)
def frR (r:ByteArray):Bool:=(bt r).all λb=>okC (b.toNat:Int)
def chE (s:Sh):Int:=
 if ¬ (1<=s.rows.length/\s.rows.length<=6/\1<=wdS s/\wdS s<=6/\1<=s.most/\s.most<=36)then 6
 else if (s.rows.any λr=>decide (r.size≠wdS s))=true then 15
 else if s.rows.all frR=false then 8
 else if 10<(knL s).length then 4 else 0
structure ShOk (s:Sh):Prop where
 n:1<=s.rows.length/\s.rows.length<=6
 w:1<=wdS s/\wdS s<=6
 m:1<=s.most/\s.most<=36
 sz:∀ r∈s.rows,r.size=wdS s
 fr:∀ r∈s.rows,frR r=true
 kn:(knL s).length<=10
theorem chE_ok {s:Sh} (h:chE s=0):ShOk s:=by
 unfold chE at h;split at h
 ·cases h
 rename_i h1;split at h
 ·cases h
 rename_i h2;split at h
 ·cases h
 rename_i h3;split at h
 ·cases h
 rename_i h4;have h1':=Classical.byContradiction h1;refine⟨by omega,by omega,by omega,λr hr=>?_,λr hr=>?_,by omega⟩
 ·apply Classical.byContradiction;intro hc;exact h2 (List.any_eq_true.2 ⟨r,hr,decide_eq_true hc⟩)
 ·have:s.rows.all frR=true:=by
   cases c:s.rows.all frR with
   | true=>rfl
   | false=>exact absurd c h3
  exact List.all_eq_true.1 this r hr
theorem row_at {s:Sh} {i:Nat} {r:ByteArray} (h:s.rows[i]? = some r):s.rows.getD i ByteArray.empty=r:=by simp[List.getD,h]
theorem kn_on {s:Sh} (h:ShOk s):∀ k∈knL s,OnG (gdS s) k:=λk hk=>by obtain⟨i,r,j,h1,h2,h3,rfl⟩:=kn_mem.1 hk;have hi:=(List.getElem?_eq_some_iff.1 h1).1;have hr:=h.sz r (List.mem_of_getElem? h1);unfold OnG gdS;dsimp only;omega
def hasF (g:Gd) (p:Pc):Bool:=(List.range p.h.toNat).any λi=>(List.range p.w.toNat).any λk=>g.fig (p.t+i) (p.l+k)
def peE (g:Gd) (p:Pc):Int:=
 if ¬ (1<=p.h/\p.h<=g.R/\1<=p.w/\p.w<=g.C/\0<=p.t/\0<=p.l/\p.t<=g.R-p.h/\p.l<=g.C-p.w)then 3
 else if hasF g p=true then 20 else if g.most<arP p then 4 else 0
theorem hasF_iff {g:Gd} {p:Pc} : hasF g p=true↔∃ i k,p.t<=i/\i<p.t+p.h/\p.l<=k/\k<p.l+p.w/\g.fig i k=true:=by
 unfold hasF;rw[List.any_eq_true];constructor
 ·rintro⟨i,hi,h⟩;obtain⟨k,hk,h⟩:=List.any_eq_true.1 h;have:=List.mem_range.1 hi;have:=List.mem_range.1 hk;exact⟨p.t+i,p.l+k,by omega,by omega,by omega,by omega,h⟩
 ·rintro⟨i,k,h1,h2,h3,h4,h⟩;refine⟨(i-p.t).toNat,List.mem_range.2 (by omega),List.any_eq_true.2 ⟨(k-p.l).toNat,List.mem_range.2 (by omega),?_⟩⟩;rw[show p.t+((i-p.t).toNat:Int)=i by omega,show p.l+((k-p.l).toNat:Int)=k by omega];exact h
def fgR (r:ByteArray):Nat->Int
 | 0=>0
 | k+1=>fgR r k+(if bv r k=35 then 1 else 0)
def fgN (rows:List ByteArray):Nat->Nat->Int
 | 0,_=>0
 | i+1,c=>fgN rows i c+fgR (rows.getD i ByteArray.empty) c
theorem fgR_bd (r:ByteArray):∀ k,0<=fgR r k/\fgR r k<=k
 | 0=>by simp[fgR]
 | k+1=>by
  have:=fgR_bd r k
  simp only[fgR];split<;>omega
theorem fgN_z (rows:List ByteArray):∀ i,fgN rows i 0=0
 | 0=>rfl
 | i+1=>by simp only[fgN,fgR];have:=fgN_z rows i;omega
theorem fgN_bd (rows:List ByteArray) (c:Nat):∀ i,0<=fgN rows i c/\fgN rows i c<=i*c
 | 0=>by simp[fgN]
 | i+1=>by
  have h1:=fgN_bd rows c i
  have h2:=fgR_bd (rows.getD i ByteArray.empty) c
  simp only[fgN]
  push_cast
  rw[Int.add_mul,Int.one_mul];omega
theorem fgN_step (rows:List ByteArray) (i k:Nat):fgN rows (i+1) k+fgN rows i (k+1)-fgN rows i k+(if bv (rows.getD i ByteArray.empty) k=35 then 1 else 0)=fgN rows (i+1) (k+1):=by simp only[fgN,fgR];omega
theorem fgR_diff (r:ByteArray) (l:Nat):∀ m,l<=m->0<=fgR r m-fgR r l/\(0<fgR r m-fgR r l↔∃ k,l<=k/\k<m/\bv r k=35)
 | 0,h=>by
  obtain rfl:l=0:=by omega
  refine⟨by omega,⟨λh=>by omega,λ⟨k,a,b,_⟩=>by omega⟩⟩
 | m+1,h=>by
  by_cases c:l=m+1
  ·subst c;refine⟨by omega,⟨λh=>by omega,λ⟨k,a,b,_⟩=>by omega⟩⟩
  ·obtain⟨h1,h2⟩:=fgR_diff r l m (by omega);simp only[fgR];by_cases d:bv r m=35
   ·rw[if_pos d];exact⟨by omega,⟨λ_=>⟨m,by omega,by omega,d⟩,λ_=>by omega⟩⟩
   ·rw[if_neg d,Int.add_zero];refine⟨h1,h2.trans ⟨λ⟨k,a,b,e⟩=>⟨k,a,by omega,e⟩,λ⟨k,a,b,e⟩=>⟨k,a,?_,e⟩⟩⟩;apply Classical.byContradiction;intro hc;obtain rfl:k=m:=by omega
    exact d e
theorem fgN_diff (rows:List ByteArray) (t l m:Nat) (hlm:l<=m):∀ b,t<=b->0<=fgN rows b m-fgN rows t m-fgN rows b l+fgN rows t l/\
  (0<fgN rows b m-fgN rows t m-fgN rows b l+fgN rows t l↔∃ i k,t<=i/\i<b/\l<=k/\k<m/\bv (rows.getD i ByteArray.empty) k=35)
 | 0,h=>by
  obtain rfl:t=0:=by omega
  refine⟨by omega,⟨λh=>by omega,λ⟨i,k,a,b,_⟩=>by omega⟩⟩
 | b+1,h=>by
  by_cases c:t=b+1
  ·subst c;refine⟨by omega,⟨λh=>by omega,λ⟨i,k,a,b,_⟩=>by omega⟩⟩
  ·obtain⟨h1,h2⟩:=fgN_diff rows t l m hlm b (by omega);obtain⟨h3,h4⟩:=fgR_diff (rows.getD b ByteArray.empty) l m hlm;simp only[fgN];refine⟨by omega,?_⟩;by_cases d:∃ k,l<=k/\k<m/\bv (rows.getD b ByteArray.empty) k=35
   ·have:=h4.2 d
    obtain⟨k,a,e,f⟩:=d;exact⟨λ_=>⟨b,k,by omega,by omega,a,e,f⟩,λ_=>by omega⟩
   ·have h5:¬ 0<fgR (rows.getD b ByteArray.empty) m-fgR (rows.getD b ByteArray.empty) l:=λhc=>d (h4.1 hc)
    constructor
    ·intro hp;obtain⟨i,k,a,e,f⟩:=h2.1 (by omega);exact⟨i,k,a,by omega,f⟩
    ·rintro⟨i,k,a,e,f,g,x⟩;by_cases y:i=b
     ·subst y;exact absurd ⟨k,f,g,x⟩ d
     ·have:=h2.2 ⟨i,k,a,by omega,f,g,x⟩;omega
theorem fig_sums {s:Sh} {p:Pc} (h:0<=p.t) (h1:0<=p.l) (h2:0<=p.h) (h3:0<=p.w) :
  (0<fgN s.rows (p.t+p.h).toNat (p.l+p.w).toNat-fgN s.rows p.t.toNat (p.l+p.w).toNat-fgN s.rows (p.t+p.h).toNat p.l.toNat+fgN s.rows p.t.toNat p.l.toNat)↔hasF (gdS s) p=true:=by
 rw[(fgN_diff s.rows p.t.toNat p.l.toNat (p.l+p.w).toNat (by omega) (p.t+p.h).toNat (by omega)).2,hasF_iff];constructor
 ·rintro⟨i,k,a,b,c,d,e⟩;refine⟨i,k,by omega,by omega,by omega,by omega,?_⟩;unfold gdS chS;dsimp only;rw[Int.toNat_natCast,Int.toNat_natCast];exact decide_eq_true e
 ·rintro⟨i,k,a,b,c,d,e⟩;unfold gdS chS at e;dsimp only at e;exact⟨i.toNat,k.toNat,by omega,by omega,by omega,by omega,of_decide_eq_true e⟩
def Al (N:Nat) (S:Int->Int->Bool) (l:List Int):Prop:=l.Pairwise (λa b=>a<b/\S a b=false)/\∀ x∈l,0<=x/\x<(N:Int)
def shS (S:Int->Int->Bool) (l:List Int) (i:Int):Bool:=l.any λk=>S k i
def okS (S:Int->Int->Bool) (l:List Int):Bool:=decide (l.Pairwise λa b=>S a b=false)
def alK (N:Nat) (S:Int->Int->Bool):Nat->List Int
 | 0=>[]
 | k+1=>if okS S (qy k N)=true/\((alK N S k).length<(qy k N).length\/(qy k N).length=(alK N S k).length/\befB (qy k N) (alK N S k)=true)then qy k N else alK N S k
def shN (g:Gd) (K:List Cl) (i k:Nat):Bool:=decide (peE g (bbx (sel K (2 ^ i ||| 2 ^ k)))=0)
def shI (g:Gd) (K:List Cl) (i k:Int):Bool:=shN g K i.toNat k.toNat
theorem sh_symm (g:Gd) (K:List Cl) (i k:Nat):shN g K i k=shN g K k i:=by unfold shN;rw[Nat.or_comm]
theorem nodup_lt {n:Nat} : ∀ {l:List Nat},l.Nodup->(∀ x∈l,x<n)->l.length<=n:=by
 have key:∀ {l m:List Nat},l.Nodup->(∀ x∈l,x∈m)->l.length<=m.length:=by
  intro l;induction l with
  | nil=>intro m _ _;exact Nat.zero_le _
  | cons a l ih=>intro m hn h;have hn':=List.nodup_cons.1 hn;have ha:=h a List.mem_cons_self;have:=ih (m:=m.erase a) hn'.2 λx hx=>(List.mem_erase_of_ne (λe=>by subst e;exact hn'.1 hx)).2 (h x (List.mem_cons_of_mem _ hx));rw[List.length_erase_of_mem ha]at this;have:=List.length_pos_of_mem ha;rw[List.length_cons];omega
 intro l hn h;have:=key hn λx hx=>List.mem_range.2 (h x hx);rwa[List.length_range]at this
inductive Rch (N:Nat) (S:Nat->Nat->Bool) (i:Nat):Nat->Prop
 | refl:Rch N S i i
 | step {j k:Nat} : Rch N S i j->k<N->S j k=true->Rch N S i k
theorem rch_lt {N:Nat} {S:Nat->Nat->Bool} {i k:Nat} (hi:i<N) (h:Rch N S i k):k<N:=by
 cases h with
 | refl=>exact hi
 | step _ hk _=>exact hk
theorem rch_trans {N:Nat} {S:Nat->Nat->Bool} {i j k:Nat} (h:Rch N S i j) (g:Rch N S j k):Rch N S i k:=by
 induction g with
 | refl=>exact h
 | step _ hk hs ih=>exact .step ih hk hs
theorem rch_symm {N:Nat} {S:Nat->Nat->Bool} (hS:∀ a b,S a b=S b a) {i k:Nat} (hi:i<N) (h:Rch N S i k):Rch N S k i:=by
 induction h with
 | refl=>exact .refl
 | step h1 hk hs ih=>
  have hj:=rch_lt hi h1
  exact rch_trans (.step .refl hj (by rw[hS];exact hs)) ih
def IsPart (N:Nat) (S:Nat->Nat->Bool) (i:Nat) (l:List Int):Prop:=l.Pairwise (· < ·)/\∀ x,x∈l↔∃ k:Nat,x=(k:Int)/\Rch N S i k
theorem part_uniq {N:Nat} {S:Nat->Nat->Bool} {i:Nat} {l m:List Int} (h:IsPart N S i l) (k:IsPart N S i m):l=m:=sorted_ext h.1 k.1 λx=>by rw[h.2,k.2]
inductive PrtK (N:Nat) (S:Nat->Nat->Bool):Nat->List (List Int)->Prop
 | zero:PrtK N S 0 []
 | skip {n:Nat} {out:List (List Int)} : PrtK N S n out->(∃ l∈out,(n:Int)∈l)->PrtK N S (n+1) out
 | add {n:Nat} {out:List (List Int)} {l:List Int} : PrtK N S n out->(¬ ∃ l∈out,(n:Int)∈l)->IsPart N S n l->PrtK N S (n+1) (out++[l])
theorem kG {N:Nat} {S:Nat->Nat->Bool} : ∀ {n:Nat} {out:List (List Int)},PrtK N S n out->(∀ l∈out,∃ i,i<n/\IsPart N S i l)/\∀ i,i<n->∃ l∈out,(i:Int)∈l
 | 0,out,h=>by cases h;exact⟨λl hl=>(by cases hl),λi hi=>absurd hi (Nat.not_lt_zero i)⟩
 | n+1,out,h=>by
  cases h with
  | skip h1 h2=>
   obtain⟨a,b⟩:=kG h1;refine⟨λl hl=>?_,λi hi=>?_⟩
   ·obtain⟨i,hi,hp⟩:=a l hl;exact⟨i,by omega,hp⟩
   ·by_cases e:i=n
    ·subst e;exact h2
    ·exact b i (by omega)
  | add h1 h2 h3=>
   obtain⟨a,b⟩:=kG h1;refine⟨λl hl=>?_,λi hi=>?_⟩
   ·rcases List.mem_append.1 hl with hl | hl
    ·obtain⟨i,hi,hp⟩:=a l hl;exact⟨i,by omega,hp⟩
    ·rw[List.mem_singleton]at hl;subst hl;exact⟨n,by omega,h3⟩
   ·by_cases e:i=n
    ·subst e;exact⟨_,List.mem_append_right _ List.mem_cons_self,(h3.2 _).2 ⟨i,rfl,.refl⟩⟩
    ·obtain⟨l,hl,h⟩:=b i (by omega);exact⟨l,List.mem_append_left _ hl,h⟩
end Go.Pm
namespace Go.Lw
open Go.RowKit
section
variable {cx:Cx} {n:Nat} {ks:List (Nat×Value)} {O R:List Own} {V:View} {w:World} {K:Act->World->Prop}
theorem Mem.reclaim {b:Nat} {o:Obj} (h:Mem cx O V w) (hb:V b=some o) (h0:cx.V0 b=none):Mem cx (.blk b o::O) (λk=>if k=b then none else V k) w:=by
 obtain⟨fp,h1,h2,h3⟩:=h.own;have hlow:cx.w0.heap.size<=b:=by
  rcases h.fresh b o hb with h4 | h4
  ·rw[h0]at h4;cases h4
  ·exact h4
 refine⟨h.below,λk o2 hk=>?_,λk o2 hk=>?_,λk o2 hk=>?_,b::fp,⟨[b],fp,rfl,⟨rfl,hlow,h.view b o hb⟩,h1⟩,List.nodup_cons.2 ⟨λhm=>?_,h2⟩,λk hk=>?_⟩
 ·by_cases e:k=b
  ·subst e;rw[h0]at hk;cases hk
  ·simp[e,h.le0 k o2 hk]
 ·by_cases e:k=b
  ·subst e;simp at hk
  ·simp[e]at hk;exact h.fresh k o2 hk
 ·by_cases e:k=b
  ·subst e;simp at hk
  ·simp[e]at hk;exact h.view k o2 hk
 ·rw[h3 b hm]at hb;cases hb
 ·rcases List.mem_cons.1 hk with rfl | hk
  ·simp
  ·simp[h3 k hk]
theorem At.reclaim {b:Nat} {o:Obj} (hb:V b=some o) (h0:cx.V0 b=none) (h:∀ V'',(∀ W,Le W V->W b=none->Le W V'')->At cx n ks (.blk b o::O) V'' K):At cx n ks O V K:=λa w hk hm=>
 h _ (λW hW hWb k o2 hk=>by
  by_cases e:k=b
  ·subst e;rw[hWb]at hk;cases hk
  ·simp[e,hW k o2 hk]) a w hk (hm.reclaim hb h0)
theorem rowSplit {v:Value} {e:TypeId} {s m:Nat} {xs:List Value} (hp:zo (.row v e s m xs) O R) (h0:v=.slice none 0 0->m=0->xs=[]->At cx n ks R V K)
  (h:∀ b cap rest,v=.slice (some ⟨b,0,none⟩) m cap->m<=cap->cap<=maxLen->(xs++rest).length=cap*s->At cx n ks (.blk b (LC (xs++rest) e)::R) V K):At cx n ks O V K:=λa w hk hmm=>by
 have hm1:=hmm.pick hp
 obtain⟨fp,⟨f,g,rfl,⟨rfl,hr⟩,hl⟩,h2,h3⟩:=hm1.own;rcases hr.2 with ⟨rfl,hn0⟩ | ⟨b,cap,cur,rfl,hb,hh,hnc,hcm,hcs,htake⟩
 ·refine h0 rfl hn0 ?_ a w hk hm1.drop;have:=hr.1;rw[hn0]at this;exact List.eq_nil_of_length_eq_zero (by simpa using this)
 ·have hcat:xs++cur.toList.drop (m*s)=cur.toList:=by rw[<-htake,List.take_append_drop]
  have hcur:(LC (xs++cur.toList.drop (m*s)) e:Obj)=.cells cur e (0,0):=by
   show Obj.cells _ e (0,0)=Obj.cells cur e (0,0)
   congr 1;rw[hcat]
  refine h b cap (cur.toList.drop (m*s)) rfl hnc hcm (by rw[hcat];simpa using hcs) a w hk ?_;rw[hcur];exact⟨hm1.below,hm1.le0,hm1.fresh,hm1.view,[b]++g,⟨[b],g,rfl,⟨rfl,hb,hh⟩,hl⟩,by simpa [Value.ownBlock]using h2,by simpa [Value.ownBlock]using h3⟩
def Lent (V V2:View) (ao:Option Addr) (co:Nat) (e:TypeId) (s m:Nat) (xs:List Value):Prop:=
 (ao=none/\m=0/\co=0/\xs=[])\/∃ b rest,ao=some ⟨b,0,none⟩/\m<=co/\co<=maxLen/\(xs++rest).length=co*s/\xs.length=m*s/\V b=none/\V2 b=some (LC (xs++rest) e)
theorem giveM {b:Nat} {o:Obj} (hp:zo (.blk b o) O R) (h:∀ V',Le V V'->V' b=some o->V b=none->At cx n ks R V' K):At cx n ks O V K:=λa w hk hm=>by
 have hm1:=hm.pick hp
 have h0:V b=none:=by obtain⟨fp,⟨f,g,rfl,⟨rfl,hB,hb⟩,hl⟩,h2,h3⟩:=hm1.own;exact h3 b (by simp)
 obtain⟨V',h1,h2,h3⟩:=hm1.give;exact h V' h1 h2 h0 a w hk h3
theorem lend {ao:Option Addr} {co:Nat} {e:TypeId} {s m:Nat} {xs:List Value} (hp:zo (.row (.slice ao m co) e s m xs) O R) (h:∀ V2,Le V V2->Lent V V2 ao co e s m xs->At cx n ks R V2 K):At cx n ks O V K:=λa w hk hm=>by
 have hm1:=hm.pick hp
 obtain⟨f1,f2,f3,f4⟩:=hm1.rowFacts;refine rowSplit (O:=.row (.slice ao m co) e s m xs::R) zo.here (λhv hm0 hx=>?_) (λb cap rest hv h1 h2 h3=>?_) a w hk hm1
 ·cases hv;exact h V (Le.refl _) (.inl ⟨rfl,rfl,rfl,hx⟩)
 ·cases hv;exact giveM zo.here λV' hV hb h0=>h V' hV (.inr ⟨b,rest,rfl,h1,h2,h3,f3,h0,hb⟩)
theorem regain {V3 V1:View} {ao:Option Addr} {co:Nat} {e:TypeId} {s m:Nat} {xs:List Value} (hL:Lent V1 V ao co e s m xs) (hV1:Le V1 V) (hV:Le V V3) (h0:Le cx.V0 V1)
  (h:∀ V4,Le V1 V4->At cx n ks (.row (.slice ao m co) e s m xs::O) V4 K):At cx n ks O V3 K:=by
 rcases hL with ⟨rfl,rfl,rfl,rfl⟩ | ⟨b,rest,rfl,h1,h2,h3,h4,h5,h6⟩
 ·exact xu e s (h V3 (hV1.trans hV))
 ·have hcx:cx.V0 b=none:=by
   cases hc:cx.V0 b with
   | none=>rfl
   | some o=>rw[h0 b o hc]at h5;cases h5
  refine At.reclaim (hV b _ h6) hcx λV4 hV4=>?_;exact At.blkRow zo.here h3 h4 h1 h2 (h V4 (hV4 V1 (hV1.trans hV) h5))
theorem Lent.sl {α:Type} {enc:α->List Value} {V1 V2:View} {ao:Option Addr} {co:Nat} {e:TypeId} {s:Nat} {l:List α} (he:∀ x,(enc x).length=s) (h:Lent V1 V2 ao co e s l.length (flat enc l)):Sl V2 enc s (.slice ao l.length co) l:=by
 rcases h with ⟨rfl,h1,rfl,h2⟩ | ⟨b,rest,rfl,h1,h2,h3,h4,h5,h6⟩
 ·obtain rfl:l=[]:=List.eq_nil_of_length_eq_zero h1;exact Sl.nil _ _ _
 ·exact Sl.of_cells he (cells_pre h6) h1 h2
theorem none_of {V W:View} {b:Nat} (h:Le W V) (hb:V b=none):W b=none:=by
 cases c:W b with
 | none=>rfl
 | some o=>rw[h b o c]at hb;cases hb
end
end Go.Lw
namespace Go.Lw
section
variable {cx:Cx} {n:Nat} {ks:List (Nat×Value)} {O R O1:List Own} {V V1:View} {P:Program} {ops:Array Oper} {Qn:Act->World->Prop} {t:Tr}
theorem Ze {α:Type} {enc:α->List Value} {v:Value} {e:TypeId} {s m:Nat} {xs:List Value} {l:List α} (he:∀ x,(enc x).length=s) (hx:xs=flat enc l) (hm:m=l.length) (hp:zo (.row v e s m xs) O R)
  (h:∀ V',Le V V'->Sl V' enc s v l->AtC cx n ks R V' O1 V1 P ops Qn t):AtC cx n ks O V O1 V1 P ops Qn t:=λh0 a w hk hw=>by
 obtain⟨V',a',cap,h1,h2,h3,h4,h5,h6,h7,h8⟩:=(hw.pick hp).giveRow;subst hx;subst hm;subst h3;refine h V' h1 ?_ h0 a w hk h2;cases a' with
 | none=>
  have hl:l=[]:=by cases l with | nil=>rfl | cons _ _=>exact absurd (h7 (by simp)) (by simp)
  subst hl;exact⟨none,cap,rfl,h4,h5,λh=>absurd rfl h,λ_ h=>by cases h⟩
 | some q=>exact Sl.of_cells he (h8 q rfl) h4 h5
end
theorem Lent.entry {V V1 V2:View} {ao:Option Addr} {co:Nat} {e:TypeId} {s m:Nat} {xs:List Value} (hl:Le V V1) (h:Lent V1 V2 ao co e s m xs):Lent V V2 ao co e s m xs:=by
 rcases h with h | ⟨b,rest,h1,h2,h3,h4,h5,h6,h7⟩
 ·exact .inl h
 ·exact .inr ⟨b,rest,h1,h2,h3,h4,h5,none_of hl h6,h7⟩
open Go.RowKit
section
variable {cx:Cx} {n:Nat} {ks:List (Nat×Value)} {O:List Own} {V:View} {P:Program} {ops:Array Oper} {Qn:Act->World->Prop} {t:Tr} {i d:Nat} {T:TypeId} {pos:String} {after:Array Edge} {gd:Option (Nat×Bool)} {x y:Operand} {p q:Int} {X Z:TypeId}
theorem or_lt63 {A B:Nat} (hA:A<9223372036854775808) (hB:B<9223372036854775808):A ||| B<9223372036854775808:=Nat.or_lt_two_pow (n:=63) hA hB
theorem orN {A B:Nat} (ho:ops[i]? = some ⟨some d,.binOp .or X x y Z,T,pos,after,gd⟩) (hg:Gd ks ops gd) (hx:ev ks x=some (.int .i64 p)) (hy:ev ks y=some (.int .i64 q)) (hp:p=(A:Int)) (hq:q=(B:Int)) (hA:A<9223372036854775808) (hB:B<9223372036854775808) (hn:d<n)
  (next:AtT cx n ((d,.int .i64 ((A ||| B:Nat):Int))::ks) O V P ops Qn t):AtT cx n ks O V P ops Qn (.q i t):=
 .q ho hg rfl hn (λa w hk _=>by
  subst hp hq;have hr:Op.intBits .or .i64 (A:Int) (B:Int)=(pure (.int .i64 ((A ||| B:Nat):Int)):Sem Value):=by
   show(pure (Value.int .i64 (IntKind.i64.wrap ((BitVec.ofInt 64 (A:Int) ||| BitVec.ofInt 64 (B:Int)).toNat:Int))):Sem Value)=_
   rw[BitVec.toNat_or,ofInt_u64 A (by omega),ofInt_u64 B (by omega),Go.Lib.wrap_i64_small _ (or_lt63 hA hB)]
  simp[execOp,hk.ev hx,hk.ev hy,eqGuard_or,binOp_or,hr]) next
end
end Go.Lw
namespace Go.Lw
theorem xA {cx:Cx} {n:Nat} {ks:List (Nat×Value)} {O:List Own} {V:View} {P:Program} {ops:Array Oper} {Qn:Act->World->Prop} {t:Tr} {i:Nat} {wr:Bool} (h:AtT cx n ks O V P ops Qn (.q i t)):AtT cx n ks O V P ops Qn (.n wr i t):=λa w hk hm=>by obtain⟨o,v,ho,hy,hr⟩:=h a w hk hm;exact⟨o,ho,hy.stW hm ⟨_,λ_ u hu=>hu,hm,hr⟩⟩
end Go.Lw
namespace Go.Proofs.YtnffcfhdnjbdbaaGreatDoor.P
open Go.Lw Go.Gl Go.Pm Go.RowKit
theorem index_n (g:FuncId) (cap:List Value) (p:Int->Bool) (V:View) (vl:Value) (l:List Int) (hs:Sl V ei 1 vl l) (hok:zi Tryz.prog g)
  (hc:∀ x,x∈l->Fnc Tryz.prog g ([]++[iv x]++cap) V (λv _=>v=.bool (p x))) :
  Fnc Tryz.prog 59 [vl,.func (.func g) #[] cap.toArray] V λv _=>∃ j:Int,v=iv j/\(decide (0<=j))=l.any p:=by
 have hlen:=hs.jC
 refine zG Tryz.func59 rfl Tryz.ntmps59 (Nat.le_of_ble_eq_true rfl) ?_;intro w0 hw0;refine zb (tT 0 [0]) ?_;refine ax (tT 0 [0,0,0]) ?_;refine ze ?_;refine zZ Tryz.underlying34 ?_;refine ze ?_;refine AtT.dn ?_;refine xc (ι:=Nat) (KS:=λk=>[(0,vl),(1,.func (.func g) #[] cap.toArray),(4,iv 0),(7,iv l.length),(8,iv k)]) (OS:=λ_=>[])
  (VS:=λk V'=>V'=V/\k<=l.length/\(l.take k).any p=false) (μ:=λk=>l.length-k) 0 ?_ ?_ ?_ ?_
 ·exact⟨rfl,rfl,rfl,rfl,rfl,trivial⟩
 ·exact Pt.zg
 ·exact⟨rfl,Nat.zero_le _,rfl⟩
 ·rintro k V' ks' O' ⟨rfl,hkl,hany⟩ hk hO hl;subst hk hO;refine zb (tT 0 [0]) ?_;refine qc ?_;refine AtT.dn ?_;refine zI rfl (λhp=>?_) (λhp=>?_)
  ·refine zb (tT 0 [0,0]) ?_;refine ze ?_;refine ax (tT 0 [0,0,0,0,0,1]) ?_;refine ze ?_;refine ze ?_;refine ze ?_;refine kZ Tryz.underlying34 tk3 ?_;intro p14 e14 he14 hc14;refine kV tk3 ?_;refine jD rfl rfl rfl hok (hc e14 (List.mem_of_getElem? he14)) ?_;rintro _ rfl;refine AtT.dn ?_;have hee:l[k]? = some e14:=by simpa using he14
   have hnx:l.take (k+1)=l.take k++[e14]:=by rw[List.take_succ_eq_append_getElem (by omega)];congr 1;rw[List.getElem?_eq_getElem (by omega)]at hee;simpa using hee
   refine At.cond rfl (λhb=>?_) (λhb=>?_)
   ·refine zb (tT 0 [0,0]) ?_;refine ze ?_;refine zh ?_;refine zL rfl (.tmp rfl) ⟨k,rfl,?_⟩;have:l.any p=true:=List.any_eq_true.2 ⟨e14,List.mem_of_getElem? hee,hb⟩;rw[this];simp
   ·refine zb (tT 0 [0,0]) ?_;refine zM ?_;refine ze ?_;refine AtT.dn ?_;refine At.round (k+1) ?_ ?_ ?_ ?_
    ·show l.length-(k+1)<l.length-k;omega
    ·refine⟨rfl,by omega,?_⟩;rw[hnx,List.any_append,hany];simp[hb]
    ·exact⟨rfl,rfl,rfl,rfl,rfl,trivial⟩
    ·exact Pt.zg
  ·have hkk:k=l.length:=by omega
   subst hkk;rw[List.take_length]at hany;refine zb (tT 0 [0]) ?_;refine zh ?_;refine zL rfl (.tmp rfl) ⟨-1,rfl,?_⟩;rw[hany];rfl
theorem jF (g:FuncId) (cap:List Value) (p:Int->Bool) (V:View) (vl:Value) (l:List Int) (hs:Sl V ei 1 vl l) (hok:zi Tryz.prog g)
  (hc:∀ x,x∈l->Fnc Tryz.prog g ([]++[iv x]++cap) V (λv _=>v=.bool (p x))) :
  Fnc Tryz.prog 16 [vl,.func (.func g) #[] cap.toArray] V λv _=>v=.bool (l.any p):=by
 refine zG Tryz.func16 rfl Tryz.ntmps16 (Nat.le_of_ble_eq_true rfl) ?_;intro w0 hw0;refine zb (tT 0 [0]) ?_;refine ax (tT 0 [0,0,1,0,0]) ?_;refine ze ?_;refine ze ?_;refine zm rfl rfl ok59 (index_n g cap p V vl l hs hok hc) ?_;rintro _ ⟨j,rfl,hj⟩;refine kgeq ?_;refine zh ?_;refine zL rfl (.tmp rfl) ?_;rw[hj]
theorem within1_f (n lo hi:Int) (V:View) (p1 p2:Addr) (h1:Cells V p1 [iv lo]) (h2:Cells V p2 [iv hi]) :
  Fnc Tryz.prog 56 [iv n,.pointer (some p1),.pointer (some p2)] V λv _=>v=.bool (outB lo hi n):=by
 refine zG Tryz.func56 rfl Tryz.ntmps56 (Nat.le_of_ble_eq_true rfl) ?_;intro w0 hw0;refine zb (tT 0 [0]) ?_;refine ax (tT 0 [0,0,0,0,0,0,0,0,0]) ?_;refine ze ?_;refine kV tk3 ?_;refine qc ?_;refine ze ?_;all_goals (first | refine kY 8 ?_ | refine kX (d:=8) rfl (λhg8=>?_) (λhg8=>?_) | refine kW (d:=8) rfl (λhg8=>?_) (λhg8=>?_))
 all_goals refine zJ ?_
 all_goals refine qi tk3 ?_
 all_goals refine p_gt ?_
 all_goals refine zF ?_
 all_goals refine zu ?_
 all_goals refine AtT.done ?_
 all_goals refine nrm ?_
 ·exact zL rfl (.tmp rfl) (by simp[outB,hg8])
 ·exact zL rfl (.tmp rfl) (by simp[outB,hg8])
theorem qd (lo hi:Int) (l:List Int) (V:View) (vl:Value) (hs:SlI V vl l) :
  Fnc Tryz.prog 14 [iv lo,iv hi,vl] V λv _=>v=.bool (wi lo hi l):=by
 refine zG Tryz.func14 rfl Tryz.ntmps14 (Nat.le_of_ble_eq_true rfl) ?_;intro w0 hw0;refine zb (tT 0 [1,1,0]) ?_;refine qQ ?_;intro b3;refine qQ ?_;intro b4;refine zh ?_;refine jN (b:=b3) zo.zg ?_;intro V3 hV3 hb3;refine jN (b:=b4) zo.zg ?_;intro V4 hV4 hb4;have hs4:=hs.le (hV3.trans hV4);have hc3:=(zQ hb3).le hV4;have hc4:=zQ hb4;refine zP (tT 0 [0,0,1,0,0]) ?_;refine ze ?_;refine kfn ?_;refine zm rfl rfl ok16 (jF 56 [.pointer (some ⟨b3,0,none⟩),.pointer (some ⟨b4,0,none⟩)] (outB lo hi) V4 vl l hs4 ok56 (λx _=>within1_f x lo hi V4 _ _ hc3 hc4)) ?_;rintro _ rfl;refine xn ?_;refine zh ?_;exact zL rfl (.tmp rfl) rfl
end Go.Proofs.YtnffcfhdnjbdbaaGreatDoor.P
namespace Go.Proofs.YtnffcfhdnjbdbaaGreatDoor.M
open Go.Lw Go.Ps Go.Mt Go.RowKit
open Go.Gl (iv ivs zV outB wi)
open P (jF)
abbrev msv (s:Ms):Value:=.agg #[.int .i64 s.l,.int .i64 s.r]
theorem index_s (g:FuncId) (cap:List Value) (p:Ms->Bool) (V:View) (vl:Value) (l:List Ms) (hs:Sl V mse 2 vl l) (hok:zi Tryz.prog g)
  (hc:∀ x,x∈l->Fnc Tryz.prog g ([]++[msv x]++cap) V (λv _=>v=.bool (p x))) :
  Fnc Tryz.prog 203 [vl,.func (.func g) #[] cap.toArray] V λv _=>∃ j:Int,v=iv j/\(decide (0<=j))=l.any p:=by
 have hlen:=hs.jC
 refine zG Tryz.func203 rfl Tryz.ntmps203 (Nat.le_of_ble_eq_true rfl) ?_;intro w0 hw0;refine zb (tT 0 [0]) ?_;refine ax (tT 0 [0,0,0]) ?_;refine ze ?_;refine zZ Tryz.underlying30 ?_;refine ze ?_;refine AtT.dn ?_;refine xc (ι:=Nat) (KS:=λk=>[(0,vl),(1,.func (.func g) #[] cap.toArray),(4,iv 0),(7,iv l.length),(8,iv k)]) (OS:=λ_=>[])
  (VS:=λk V'=>V'=V/\k<=l.length/\(l.take k).any p=false) (μ:=λk=>l.length-k) 0 ?_ ?_ ?_ ?_
 ·exact⟨rfl,rfl,rfl,rfl,rfl,trivial⟩
 ·exact Pt.zg
 ·exact⟨rfl,Nat.zero_le _,rfl⟩
 ·rintro k V' ks' O' ⟨rfl,hkl,hany⟩ hk hO hl;subst hk hO;refine zb (tT 0 [0]) ?_;refine qc ?_;refine AtT.dn ?_;refine zI rfl (λhp=>?_) (λhp=>?_)
  ·refine zb (tT 0 [0,0]) ?_;refine ze ?_;refine ax (tT 0 [0,0,0,0,0,1]) ?_;refine ze ?_;refine ze ?_;refine ze ?_;refine kZ Tryz.underlying30 tk36 ?_;intro p14 e14 he14 hc14;refine qo tk36 ?_;refine jD rfl rfl rfl hok (hc e14 (List.mem_of_getElem? he14)) ?_;rintro _ rfl;refine AtT.dn ?_;have hee:l[k]? = some e14:=by simpa using he14
   have hnx:l.take (k+1)=l.take k++[e14]:=by rw[List.take_succ_eq_append_getElem (by omega)];congr 1;rw[List.getElem?_eq_getElem (by omega)]at hee;simpa using hee
   refine At.cond rfl (λhb=>?_) (λhb=>?_)
   ·refine zb (tT 0 [0,0]) ?_;refine ze ?_;refine zh ?_;refine zL rfl (.tmp rfl) ⟨k,rfl,?_⟩;have:l.any p=true:=List.any_eq_true.2 ⟨e14,List.mem_of_getElem? hee,hb⟩;rw[this];simp
   ·refine zb (tT 0 [0,0]) ?_;refine zM ?_;refine ze ?_;refine AtT.dn ?_;refine At.round (k+1) ?_ ?_ ?_ ?_
    ·show l.length-(k+1)<l.length-k;omega
    ·refine⟨rfl,by omega,?_⟩;rw[hnx,List.any_append,hany];simp[hb]
    ·exact⟨rfl,rfl,rfl,rfl,rfl,trivial⟩
    ·exact Pt.zg
  ·have hkk:k=l.length:=by omega
   subst hkk;rw[List.take_length]at hany;refine zb (tT 0 [0]) ?_;refine zh ?_;refine zL rfl (.tmp rfl) ⟨-1,rfl,?_⟩;rw[hany];rfl
theorem contains_s (g:FuncId) (cap:List Value) (p:Ms->Bool) (V:View) (vl:Value) (l:List Ms) (hs:Sl V mse 2 vl l) (hok:zi Tryz.prog g)
  (hc:∀ x,x∈l->Fnc Tryz.prog g ([]++[msv x]++cap) V (λv _=>v=.bool (p x))) :
  Fnc Tryz.prog 127 [vl,.func (.func g) #[] cap.toArray] V λv _=>v=.bool (l.any p):=by
 refine zG Tryz.func127 rfl Tryz.ntmps127 (Nat.le_of_ble_eq_true rfl) ?_;intro w0 hw0;refine zb (tT 0 [0]) ?_;refine ax (tT 0 [0,0,1,0,0]) ?_;refine ze ?_;refine ze ?_;refine zm rfl rfl ok203 (index_s g cap p V vl l hs hok hc) ?_;rintro _ ⟨j,rfl,hj⟩;refine kgeq ?_;refine zh ?_;refine zL rfl (.tmp rfl) ?_;rw[hj]
theorem within1_f (n lo hi:Int) (V:View) (p1 p2:Addr) (h1:Cells V p1 [iv lo]) (h2:Cells V p2 [iv hi]) :
  Fnc Tryz.prog 71 [iv n,.pointer (some p1),.pointer (some p2)] V λv _=>v=.bool (outB lo hi n):=by
 refine zG Tryz.func71 rfl Tryz.ntmps71 (Nat.le_of_ble_eq_true rfl) ?_;intro w0 hw0;refine zb (tT 0 [0]) ?_;refine ax (tT 0 [0,0,0,0,0,0,0,0,0]) ?_;refine ze ?_;refine kV tk3 ?_;refine qc ?_;refine ze ?_;all_goals (first | refine kY 8 ?_ | refine kX (d:=8) rfl (λhg8=>?_) (λhg8=>?_) | refine kW (d:=8) rfl (λhg8=>?_) (λhg8=>?_))
 all_goals refine zJ ?_
 all_goals refine qi tk3 ?_
 all_goals refine p_gt ?_
 all_goals refine zF ?_
 all_goals refine zu ?_
 all_goals refine AtT.done ?_
 all_goals refine nrm ?_
 ·exact zL rfl (.tmp rfl) (by simp[outB,hg8])
 ·exact zL rfl (.tmp rfl) (by simp[outB,hg8])
theorem qd (lo hi:Int) (l:List Int) (V:View) (vl:Value) (hs:SlI V vl l) :
  Fnc Tryz.prog 22 [iv lo,iv hi,vl] V λv _=>v=.bool (wi lo hi l):=by
 refine zG Tryz.func22 rfl Tryz.ntmps22 (Nat.le_of_ble_eq_true rfl) ?_;intro w0 hw0;refine zb (tT 0 [1,1,0]) ?_;refine qQ ?_;intro b3;refine qQ ?_;intro b4;refine zh ?_;refine jN (b:=b3) zo.zg ?_;intro V3 hV3 hb3;refine jN (b:=b4) zo.zg ?_;intro V4 hV4 hb4;have hs4:=hs.le (hV3.trans hV4);have hc3:=(zQ hb3).le hV4;have hc4:=zQ hb4;refine zP (tT 0 [0,0,1,0,0]) ?_;refine ze ?_;refine kfn ?_;refine zm rfl rfl ok16 (jF 71 [.pointer (some ⟨b3,0,none⟩),.pointer (some ⟨b4,0,none⟩)] (outB lo hi) V4 vl l hs4 ok71 (λx _=>within1_f x lo hi V4 _ _ hc3 hc4)) ?_;rintro _ rfl;refine xn ?_;refine zh ?_;exact zL rfl (.tmp rfl) rfl
theorem wi_in {lo hi:Int} {l:List Int} (h:∀ x∈l,lo<=x/\x<=hi):wi lo hi l=true:=by unfold wi;rw[Bool.not_eq_true',List.any_eq_false];intro x hx;have:=h x hx;unfold outB;rw[decide_eq_false (by omega),decide_eq_false (by omega)];decide
section
variable {V:View} {F:Int} {a:Option Addr} {c:Nat} {E:List Ms}
theorem stray_f (hE:MbOk F E) (s:Ms) (hs:s∈E) (q:Addr) (hq:Cells V q [iv F,.slice a E.length c]):Fnc Tryz.prog 126 ([]++[msv s]++[.pointer (some q)]) V λv _=>v=.bool false:=by
 have hb:=hE.e s hs
 have hF:=hE.f
 have hw:wi 0 (F-1) [s.l,s.r]=true:=wi_in λx hx=>by simp only[List.mem_cons,List.not_mem_nil,or_false]at hx;rcases hx with rfl | rfl<;>omega
 refine zG Tryz.func126 rfl Tryz.ntmps126 (Nat.le_of_ble_eq_true rfl) ?_;intro w0 hw0;refine zb (tT 0 [1,0]) ?_;refine qQ ?_;intro b2;refine ax (tT 0 [0,0,0,0,0,0,0,1,1,0,0]) ?_;refine zw fo32_0 ?_;refine kV tk3 ?_;refine k_sb ?_;refine zw fo36_0 ?_;refine kV tk3 ?_;refine zw fo36_1 ?_;refine kV tk3 ?_;refine zy (bs34_2_0_1 _ _) ?_;intro q11 V11 hV11 hq11;have g11:Le V V11:=by first | exact hV11 | exact Le.trans (by assumption) hV11
 refine zm rfl rfl ok22 (qd 0 (F-1) [s.l,s.r] _ _ (Sl.lit hq11 rfl (by simp))) ?_;rintro _ rfl;rw[hw];refine xn ?_;refine zh ?_;exact zL rfl (.tmp rfl) rfl
theorem checkBook_f (hE:MbOk F E) (hs:Sl V mse 2 (.slice a E.length c) E):Fnc Tryz.prog 64 [.agg #[iv F,.slice a E.length c]] V λv _=>v=iv 0:=by
 have hF:=hE.f
 have hn:=hE.n
 have hw:wi 1 6 [F]=true:=wi_in λx hx=>by rw[List.mem_singleton]at hx;subst hx;exact hF
 have hany:(E.any λ_=>false)=false:=by simp
 refine zG Tryz.func64 rfl Tryz.ntmps64 (Nat.le_of_ble_eq_true rfl) ?_;intro w0 hw0;refine zb (tT 0 [1,0]) ?_;refine qQ ?_;intro b1;refine zh ?_;refine jN (b:=b1) zo.zg (λV1 hV1 hb1=>?_);have q1:=zQ hb1;have hs1:=hs.le hV1;refine zP (tT 0 [0,0]) ?_;refine kfn ?_;refine zh ?_;refine zb (tT 0 [0,0,1,1,0,0,0,0,0,0,0,0]) ?_;refine zw fo32_0 ?_;refine kV tk3 ?_;refine zy (zR _) ?_;intro q8 V8 hV8 hq8;have g8:Le V V8:=by first | exact hV8 | exact Le.trans (by assumption) hV8
 refine zm rfl rfl ok22 (qd 1 6 [F] _ _ (Sl.lit hq8 rfl (by simp))) ?_;rintro _ rfl;rw[hw];refine xn ?_;refine ze ?_;all_goals (first | refine kY 11 ?_ | refine kX (d:=11) rfl (λhg11=>?_) (λhg11=>?_) | refine kW (d:=11) rfl (λhg11=>?_) (λhg11=>?_))
 all_goals refine ja fo32_1 ?_
 all_goals first|refine AtT.kp ?_|(refine AtT.load rfl ⟨_,_,rfl,rfl,rfl⟩ rfl tk30 (show jb V8 ⟨b1,0+1,none⟩=some (.slice a E.length c) by rw[vc_of (hV8 _ _ hb1)];rfl) (by decide) ?_)
 all_goals refine p_ln Tryz.underlying30 ?_
 all_goals refine p_gt ?_
 all_goals (refine xh (d:=15) rfl ((by omega)) ?_)
 all_goals refine zF ?_
 all_goals refine zu ?_
 all_goals refine AtT.done ?_
 all_goals refine nrm ?_
 refine zS rfl rfl ?_;refine zb (tT 0 [0,0,0,1,0]) ?_;refine zw fo32_1 ?_;refine AtT.load rfl trivial rfl tk30 (show jb V8 ⟨b1,0+1,none⟩=some (.slice a E.length c) by rw[vc_of (hV8 _ _ hb1)];rfl) (by decide) ?_;refine ze ?_;refine zm rfl rfl ok127 (contains_s 126 [.pointer (some ⟨b1,0,none⟩)] (λ_=>false) _ _ E (hs1.le hV8) ok126 (λx hx=>stray_f hE x hx _ (q1.le hV8))) ?_;rintro _ rfl;rw[hany];refine zh ?_;refine zS rfl rfl ?_;refine zb (tT 0 [0]) ?_;refine zh ?_;exact zL rfl (.tmp rfl) rfl
theorem open_f (hE:MbOk F E) (hs:Sl V mse 2 (.slice a E.length c) E):Fnc Tryz.prog 19 [.agg #[iv F,.slice a E.length c]] V λr V'=>∃ b,r=.tuple #[.pointer (some ⟨b,0,none⟩),iv 0]/\TbM V' b a c E:=by refine zG Tryz.func19 rfl Tryz.ntmps19 (Nat.le_of_ble_eq_true rfl) ?_;intro w0 hw0;refine zb (tT 0 [1,0,0]) ?_;refine qQ ?_;intro b1;refine zu ?_;refine ax (tT 0 [0,1,0]) ?_;refine qo tk32 ?_;refine zm rfl rfl ok64 (checkBook_f hE hs) ?_;rintro _ rfl;refine zh ?_;refine zb (tT 0 [0,0]) ?_;refine ze ?_;refine kJ ?_;refine AtT.dn ?_;refine zS rfl rfl ?_;refine zb (tT 0 [0,0,1,0,0]) ?_;refine qo tk32 ?_;refine qD (bd114_0 _ _ _ _) ?_;refine qQ ?_;intro b12;refine zu ?_;refine zh ?_;refine jN (b:=b12) zo.zg (λV2 hV2 hb2=>?_);exact ret2 rfl (.tmp rfl) (.tmp rfl) ⟨_,rfl,by rw[vc_of hb2];rfl,hs.le hV2⟩
end
end Go.Proofs.YtnffcfhdnjbdbaaGreatDoor.M
namespace Go.Proofs.YtnffcfhdnjbdbaaGreatDoor.M
open Go.Lw Go.Ps Go.Mt Go.RowKit
open Go.Gl (iv ivs zV)
section
variable {V:View} {b:Nat} {F:Int} {a:Option Addr} {c:Nat} {E:List Ms}
theorem at_f (x:Int):Fnc Tryz.prog 24 [.pointer (some ⟨b,0,none⟩),iv x] V λr V'=>∃ q2 q3,r=.func (.func 72) #[] #[.pointer (some q2),.pointer (some q3)]/\Cells V' q2 [.pointer (some ⟨b,0,none⟩)]/\Cells V' q3 [iv x]:=by refine zG Tryz.func24 rfl Tryz.ntmps24 (Nat.le_of_ble_eq_true rfl) ?_;intro w0 hw0;refine zb (tT 0 [1,1,0]) ?_;refine qQ ?_;intro b2;refine qQ ?_;intro b3;refine ax (tT 0 [0,0]) ?_;refine kfn ?_;refine zh ?_;refine jN (b:=b2) zo.zg (λV2 hV2 hb2=>?_);refine jN (b:=b3) zo.zg (λV3 hV3 hb3=>?_);exact zL rfl (.tmp rfl) ⟨_,_,rfl,(zQ hb2).le hV3,zQ hb3⟩
end
end Go.Proofs.YtnffcfhdnjbdbaaGreatDoor.M
namespace Go.Mt
open Go.Lw Go.Ps
structure Mp where
 s:Nat
 t:Nat
abbrev mpv (p:Mp):Value:=.agg #[.int .i64 (p.s:Int),.int .i64 (p.t:Int)]
abbrev mpe (p:Mp):List Value:=[.int .i64 (p.s:Int),.int .i64 (p.t:Int)]
def plA (n:Nat):List Mp:=(List.range n).flatMap λi=>[⟨i,0⟩,⟨i,1⟩]
theorem plA_succ (n:Nat):plA (n+1)=plA n++[⟨n,0⟩,⟨n,1⟩]:=by unfold plA;rw[List.range_succ,List.flatMap_append];rfl
theorem plA_len:∀ n:Nat,(plA n).length=2*n
 | 0=>rfl
 | n+1=>by rw[plA_succ,List.length_append,plA_len n];rfl
theorem plA_at:∀ {n i t:Nat},i<n->t<2->(plA n)[2*i+t]? = some ⟨i,t⟩
 | 0,_,_,hi,_=>absurd hi (Nat.not_lt_zero _)
 | n+1,i,t,hi,ht=>by
  rw[plA_succ];by_cases h:i<n
  ·rw[List.getElem?_append_left (by rw[plA_len];omega)];exact plA_at h ht
  ·obtain rfl:i=n:=by omega
   rw[List.getElem?_append_right (by rw[plA_len];omega),plA_len];have e:2*i+t-2*i=t:=by omega
   rw[e]
   match t,ht with
   | 0,_=>rfl
   | 1,_=>rfl
theorem plA_mem {n:Nat} {p:Mp} : p∈plA n↔p.s<n/\p.t<2:=by
 constructor
 ·intro h;unfold plA at h;rw[List.mem_flatMap]at h;obtain⟨i,hi,hp⟩:=h;rw[List.mem_range]at hi;simp only[List.mem_cons,List.not_mem_nil,or_false]at hp;rcases hp with rfl | rfl
  ·exact⟨hi,Nat.zero_lt_two⟩
  ·exact⟨hi,Nat.one_lt_two⟩
 ·rintro⟨h1,h2⟩;exact List.mem_of_getElem? (plA_at h1 h2)
def atM (E:List Ms) (i:Nat):Ms:=E.getD i ⟨0,0⟩
def bgP (E:List Ms) (p:Mp):Int:=bgn (atM E p.s) p.t
def fnP (E:List Ms) (p:Mp):Int:=fin (atM E p.s) p.t
def plF (E:List Ms) (x:Int):List Mp:=(plA E.length).filter λp=>decide (bgP E p=x)
abbrev ysA (E:List Ms) (x:Int):List (List Value):=(plF E x).map λp=>[mpv p]
def cntA (E:List Ms) (x:Int) (k:Nat):Nat:=(((plA E.length).take k).filter λp=>decide (bgP E p=x)).length
theorem atM_of {E:List Ms} {i:Nat} {s:Ms} (h:E[i]? = some s):atM E i=s:=by simp[atM,List.getD,h]
theorem flt_at {α:Type} (f:α->Bool) (l:List α) (k:Nat) (p:α) (h:l[k]? = some p) (hf:f p=true):(l.filter f)[((l.take k).filter f).length]? = some p:=by
 obtain⟨hk,he⟩:=List.getElem?_eq_some_iff.1 h;have e:l.filter f=(l.take k).filter f++p::(l.drop (k+1)).filter f:=by
  conv=>lhs;rw[<-List.take_append_drop k l]
  rw[List.filter_append,List.drop_eq_getElem_cons hk,he,List.filter_cons,if_pos hf]
 rw[e,List.getElem?_append_right (Nat.le_refl _),Nat.sub_self];rfl
theorem cntA_more {E:List Ms} {x:Int} {k:Nat} {p:Mp} (h:(plA E.length)[k]? = some p):cntA E x (k+1)=cntA E x k+if bgP E p=x then 1 else 0:=by unfold cntA;rw[List.take_add_one,h,List.filter_append,List.length_append];simp only[Option.toList_some,List.filter_cons,List.filter_nil,decide_eq_true_eq];split<;>rfl
theorem cntA_all (E:List Ms) (x:Int):cntA E x (2*E.length)=(plF E x).length:=by unfold cntA plF;rw[List.take_of_length_le (by rw[plA_len];exact Nat.le_refl _)]
theorem ysA_at {E:List Ms} {x:Int} {k:Nat} {p:Mp} (h:(plA E.length)[k]? = some p) (hb:bgP E p=x):(ysA E x)[cntA E x k]? = some [mpv p]:=by unfold ysA plF cntA;rw[List.getElem?_map,flt_at _ _ k p h (decide_eq_true hb)];rfl
theorem plF_mem {E:List Ms} {x:Int} {p:Mp} : p∈plF E x↔(p.s<E.length/\p.t<2)/\bgP E p=x:=by unfold plF;rw[List.mem_filter,plA_mem,decide_eq_true_eq]
theorem fin_bd {F:Int} {E:List Ms} (hE:MbOk F E) {i:Nat} (hi:i<E.length) (t:Int):0<=fin (atM E i) t/\fin (atM E i) t<F:=by
 have hm:atM E i∈E:=by rw[atM_of (List.getElem?_eq_getElem hi)];exact List.getElem_mem hi
 have:=hE.e _ hm
 unfold fin;split<;>omega
theorem fnP_bd {F:Int} {E:List Ms} (hE:MbOk F E) {x:Int} {p:Mp} (hp:p∈plF E x):0<=fnP E p/\fnP E p<F:=fin_bd hE (plF_mem.1 hp).1.1 _
theorem plF_turn {E:List Ms} {x:Int} {p:Mp} (hp:p∈plF E x):(⟨p.s,1-p.t⟩:Mp)∈plF E (fnP E p)/\fnP E ⟨p.s,1-p.t⟩=x:=by
 obtain⟨⟨h1,h2⟩,h3⟩:=plF_mem.1 hp;obtain⟨s,t⟩:=p;dsimp only at h1 h2 h3⊢;rw[plF_mem];unfold bgP at h3;unfold bgP fnP;dsimp only at h3⊢
 match t,h2 with
 | 0,_=>exact⟨⟨⟨h1,by decide⟩,rfl⟩,h3⟩
 | 1,_=>exact⟨⟨⟨h1,by decide⟩,rfl⟩,h3⟩
def stP (E:List Ms) (w f:Int) (S:List Int×List Int) (p:Mp):List Int×List Int:=
 if (p.s:Int)≠w/\S.1.getD (fnP E p).toNat 0<0 then (S.1.set (fnP E p).toNat (S.1.getD f.toNat 0+1),S.2++[fnP E p])else S
def rdF (E:List Ms) (w f:Int) (S:List Int×List Int) (j:Nat):List Int×List Int:=((plF E f).take j).foldl (stP E w f) S
theorem rdF_next {E:List Ms} {w f:Int} {S:List Int×List Int} {j:Nat} {p:Mp} (h:(plF E f)[j]? = some p):rdF E w f S (j+1)=stP E w f (rdF E w f S j) p:=by unfold rdF;rw[List.take_add_one,h,List.foldl_append];rfl
def farK (E:List Ms) (w:Int):Nat->List Int×List Int->List Int×List Int
 | 0,S=>S
 | _+1,(d,[])=>(d,[])
 | k+1,(d,f::q)=>farK E w k (rdF E w f (d,q) (plF E f).length)
def farL (E:List Ms) (to w:Int):List Int:=(farK E w 7 ((List.replicate 6 (-1)).set to.toNat 0,[to])).1
theorem farK_nil (E:List Ms) (w:Int) (d:List Int):∀ k:Nat,farK E w k (d,[])=(d,[])
 | 0=>rfl
 | _+1=>rfl
def ng:List Int->Nat
 | []=>0
 | x::l=>(if x<0 then 1 else 0)+ng l
theorem ng_set:∀ {d:List Int} {i:Nat} {v:Int},i<d.length->d.getD i 0<0->0<=v->ng (d.set i v)+1=ng d
 | [],i,_,hi,_,_=>absurd hi (Nat.not_lt_zero _)
 | x::l,0,v,_,h,hv=>by
  have h':x<0:=by simpa using h
  simp only[List.set_cons_zero,ng,if_pos h',if_neg (Int.not_lt.2 hv)];omega
 | x::l,i+1,v,hi,h,hv=>by
  have:=ng_set (d:=l) (i:=i) (v:=v) (by simpa using hi) (by simpa using h) hv
  simp only[List.set_cons_succ,ng];omega
theorem ng_ge:∀ (d:List Int) (F:Nat),(∀ x,F<=x->x<d.length->d.getD x 0<0)->d.length<=ng d+F
 | [],_,_=>by simp
 | x::l,0,h=>by
  have h0:x<0:=by simpa using h 0 (Nat.le_refl _) (by simp)
  have:=ng_ge l 0 (λy _ hy=>by simpa using h (y+1) (Nat.zero_le _) (by simpa using hy))
  simp only[ng,if_pos h0,List.length_cons];omega
 | x::l,F+1,h=>by
  have:=ng_ge l F (λy h1 hy=>by simpa using h (y+1) (by omega) (by simpa using hy))
  simp only[ng,List.length_cons];split<;>omega
theorem getD_set {d:List Int} {i j:Nat} {v:Int} (hi:i<d.length):(d.set i v).getD j 0=if i=j then v else d.getD j 0:=by
 simp only[List.getD,List.getElem?_set];by_cases h:i=j
 ·subst h;simp[hi]
 ·simp[h]
theorem rep_at:∀ x,x<6->(List.replicate 6 (-1:Int)).getD x 0 = -1:=by decide
structure FI (F:Int) (E:List Ms) (w to:Int) (d q:List Int):Prop where
 len:d.length=6
 lo:∀ x:Nat,x<6->-1<=d.getD x 0
 hi:∀ x:Nat,x<6->d.getD x 0+1+(ng d:Int)<=6
 qok:∀ x∈q,0<=x/\x<F/\0<=d.getD x.toNat 0
 t0:d.getD to.toNat 0=0
 prd:∀ x:Nat,x<6->0<=d.getD x 0->(x:Int)≠to->1<=d.getD x 0/\∃ p∈plF E x,(p.s:Int)≠w/\d.getD (fnP E p).toNat 0=d.getD x 0-1
 neg:∀ x:Nat,F<=(x:Int)->x<6->d.getD x 0<0
structure StR (d q d' q':List Int):Prop where
 ms:q'.length+ng d'=q.length+ng d
 mono:∀ x:Nat,0<=d.getD x 0->d'.getD x 0=d.getD x 0
 new:∀ x:Nat,0<=d'.getD x 0->0<=d.getD x 0\/(x:Int)∈q'
 sub:∀ x∈q,x∈q'
theorem StR.refl (d q:List Int):StR d q d q:=⟨rfl,λ_ _=>rfl,λ_ h=>.inl h,λ_ h=>h⟩
theorem StR.trans {d q d1 q1 d2 q2:List Int} (a:StR d q d1 q1) (b:StR d1 q1 d2 q2):StR d q d2 q2:=
 ⟨b.ms.trans a.ms,λx h=>by rw[b.mono x (by rw[a.mono x h];exact h),a.mono x h],λx h=>(b.new x h).elim (λh1=>(a.new x h1).imp id λh2=>b.sub _ h2) .inr,λx h=>b.sub x (a.sub x h)⟩
section
variable {F:Int} {E:List Ms} {w to f:Int} {d q:List Int}
theorem FI.step (hE:MbOk F E) (h:FI F E w to d q) (hf:0<=f/\f<F/\0<=d.getD f.toNat 0) {p:Mp} (hp:p∈plF E f) :
  FI F E w to (stP E w f (d,q) p).1 (stP E w f (d,q) p).2/\StR d q (stP E w f (d,q) p).1 (stP E w f (d,q) p).2/\((p.s:Int)≠w->0<=(stP E w f (d,q) p).1.getD (fnP E p).toNat 0):=by
 have hF:=hE.f
 have he:=fnP_bd hE hp
 have htn:=plF_turn hp
 unfold stP;by_cases c:(p.s:Int)≠w/\d.getD (fnP E p).toNat 0<0;rotate_left
 ·rw[if_neg c];exact⟨h,StR.refl d q,λhw=>by
   have:¬ d.getD (fnP E p).toNat 0<0:=λh=>c ⟨hw,h⟩
   show 0<=d.getD (fnP E p).toNat 0
   omega⟩
 rw[if_pos c];dsimp only;obtain⟨hw,hneg⟩:=c;obtain⟨e,hee⟩:∃ e:Nat,fnP E p=(e:Int):=⟨(fnP E p).toNat,by omega⟩;rw[hee]at he hneg htn⊢;rw[Int.toNat_natCast]at hneg⊢;have he6:e<d.length:=by rw[h.len];omega
 have hg:∀ x,(d.set e (d.getD f.toNat 0+1)).getD x 0=if e=x then d.getD f.toNat 0+1 else d.getD x 0:=λx=>getD_set he6
 have hng:=ng_set (d:=d) (i:=e) (v:=d.getD f.toNat 0+1) he6 hneg (by omega)
 have hfh:=h.hi f.toNat (by omega)
 have hef:e≠f.toNat:=λh=>by subst h;omega
 have het:e≠to.toNat:=λh'=>by have:=h.t0;subst h';omega
 refine⟨⟨by rw[List.length_set];exact h.len,λx hx=>?_,λx hx=>?_,λx hx=>?_,?_,λx hx h0 hxt=>?_,λx hx h6=>?_⟩,⟨?_,λx hx=>?_,λx hx=>?_,λx hx=>List.mem_append_left _ hx⟩,λ_=>?_⟩
 ·rw[hg];split
  ·omega
  ·exact h.lo x hx
 ·rw[hg];split
  ·omega
  ·have:=h.hi x hx;omega
 ·rcases List.mem_append.1 hx with hx | hx
  ·have:=h.qok x hx
   refine⟨this.1,this.2.1,?_⟩;rw[hg];split
   ·omega
   ·exact this.2.2
  ·rw[List.mem_singleton]at hx;subst hx;refine⟨he.1,he.2,?_⟩;rw[hg,if_pos (by simp)];omega
 ·rw[hg,if_neg het];exact h.t0
 ·rw[hg]at h0⊢;by_cases hx':e=x
  ·subst hx';rw[if_pos rfl];refine⟨by omega,⟨p.s,1-p.t⟩,htn.1,hw,?_⟩;rw[htn.2,hg,if_neg hef];omega
  ·rw[if_neg hx']at h0⊢;obtain⟨h1,p1,h2,h3,h4⟩:=h.prd x hx h0 hxt;refine⟨h1,p1,h2,h3,?_⟩;rw[hg,if_neg (λh5=>by rw[<-h5]at h4;omega)];exact h4
 ·rw[hg,if_neg (by omega)];exact h.neg x hx h6
 ·rw[List.length_append,List.length_singleton];omega
 ·rw[hg,if_neg (λh5=>by subst h5;omega)]
 ·rw[hg]at hx;by_cases hx':e=x
  ·subst hx';exact .inr (by simp)
  ·rw[if_neg hx']at hx;exact .inl hx
 ·rw[hg,if_pos rfl];omega
theorem FI.fold (hE:MbOk F E):∀ (l:List Mp) (d q:List Int),FI F E w to d q->(0<=f/\f<F/\0<=d.getD f.toNat 0)->(∀ p∈l,p∈plF E f)->
  FI F E w to (l.foldl (stP E w f) (d,q)).1 (l.foldl (stP E w f) (d,q)).2/\StR d q (l.foldl (stP E w f) (d,q)).1 (l.foldl (stP E w f) (d,q)).2/\∀ p∈l,(p.s:Int)≠w->0<=(l.foldl (stP E w f) (d,q)).1.getD (fnP E p).toNat 0
 | [],d,q,h,_,_=>⟨h,StR.refl d q,λp hp=>by cases hp⟩
 | p::l,d,q,h,hf,hl=>by
  obtain⟨h1,h2,h3⟩:=h.step hE hf (hl p (by simp));have hf':0<=f/\f<F/\0<=(stP E w f (d,q) p).1.getD f.toNat 0:=⟨hf.1,hf.2.1,by rw[h2.mono _ hf.2.2];exact hf.2.2⟩;obtain⟨k1,k2,k3⟩:=FI.fold hE l _ _ h1 hf' (λp' hp'=>hl p' (List.mem_cons_of_mem _ hp'));rw[List.foldl_cons];refine⟨k1,h2.trans k2,λp' hp' hw=>?_⟩;rcases List.mem_cons.1 hp' with rfl | hp'
  ·rw[k2.mono _ (h3 hw)];exact h3 hw
  ·exact k3 p' hp' hw
theorem FI.round (hE:MbOk F E) (h:FI F E w to d q) (hf:0<=f/\f<F/\0<=d.getD f.toNat 0) (j:Nat):FI F E w to (rdF E w f (d,q) j).1 (rdF E w f (d,q) j).2/\StR d q (rdF E w f (d,q) j).1 (rdF E w f (d,q) j).2/\∀ p∈(plF E f).take j,(p.s:Int)≠w->0<=(rdF E w f (d,q) j).1.getD (fnP E p).toNat 0:=
 FI.fold hE _ d q h hf λp hp=>List.mem_of_mem_take hp
theorem FI.pop {x:Int} (h:FI F E w to d (x::q)):FI F E w to d q:=⟨h.len,h.lo,h.hi,λy hy=>h.qok y (List.mem_cons_of_mem _ hy),h.t0,h.prd,h.neg⟩
theorem FI.start (hE:MbOk F E) (ht:0<=to/\to<F):FI F E w to ((List.replicate 6 (-1)).set to.toNat 0) [to]/\ng ((List.replicate 6 (-1)).set to.toNat 0)=5:=by
 have hF:=hE.f
 obtain⟨e,rfl⟩:∃ e:Nat,to=(e:Int):=⟨to.toNat,by omega⟩;rw[Int.toNat_natCast];have he:e<6:=by omega
 have hg:∀ x,x<6->((List.replicate 6 (-1:Int)).set e 0).getD x 0=if e=x then 0 else -1:=λx hx=>by
  rw[getD_set (by simp;omega)];by_cases c:e=x
  ·rw[if_pos c,if_pos c]
  ·rw[if_neg c,if_neg c];exact rep_at x hx
 have hn:ng ((List.replicate 6 (-1:Int)).set e 0)=5:=by
  have:=ng_set (d:=List.replicate 6 (-1)) (i:=e) (v:=0) (by simp;omega) (by rw[rep_at e he];decide) (by omega)
  have h6:ng (List.replicate 6 (-1:Int))=6:=rfl
  omega
 refine⟨⟨by simp,λx hx=>?_,λx hx=>?_,λx hx=>?_,?_,λx hx h0 hxt=>?_,λx hx h6=>?_⟩,hn⟩
 ·rw[hg x hx];split<;>omega
 ·rw[hg x hx,hn];split<;>omega
 ·rw[List.mem_singleton]at hx;subst hx;refine⟨ht.1,ht.2,?_⟩;rw[Int.toNat_natCast,hg e he,if_pos rfl];omega
 ·rw[Int.toNat_natCast,hg e he,if_pos rfl]
 ·rw[hg x hx,if_neg (by omega)]at h0;omega
 ·rw[hg x h6,if_neg (by omega)];omega
def ClF (E:List Ms) (w:Int) (d:List Int) (x:Nat):Prop:=∀ p∈plF E x,(p.s:Int)≠w->0<=d.getD (fnP E p).toNat 0
theorem farK_ok (hE:MbOk F E):∀ (k:Nat) (d q:List Int),FI F E w to d q->q.length+ng d<=k->(∀ x:Nat,x<6->0<=d.getD x 0->(x:Int)∈q\/ClF E w d x)->
  FI F E w to (farK E w k (d,q)).1 []/\∀ x:Nat,x<6->0<=(farK E w k (d,q)).1.getD x 0->ClF E w (farK E w k (d,q)).1 x
 | k,d,[],h,_,hc=>by
  rw[farK_nil];exact⟨h,λx h6 hx=>(hc x h6 hx).elim (λh=>by cases h) id⟩
 | 0,d,f::q,h,hk,_=>by simp at hk
 | k+1,d,f::q,h,hk,hc=>by
  have hq:=h.qok f (by simp)
  obtain⟨h1,h2,h3⟩:=h.pop.round hE hq (plF E f).length;rw[List.take_length]at h3;show FI F E w to (farK E w k (rdF E w f (d,q) (plF E f).length)).1 []/\_;have hm:=h2.ms;rw[List.length_cons]at hk;refine farK_ok hE k (rdF E w f (d,q) (plF E f).length).1 (rdF E w f (d,q) (plF E f).length).2 h1 (by omega) λx x6 hx=>?_;rcases h2.new x hx with h4 | h4
  ·rcases hc x x6 h4 with h5 | h5
   ·rcases List.mem_cons.1 h5 with h6 | h6
    ·refine .inr ?_;subst h6;exact λp hp hw=>h3 p hp hw
    ·exact .inl (h2.sub _ h6)
   ·exact .inr λp hp hw=>by rw[h2.mono _ (h5 p hp hw)];exact h5 p hp hw
  ·exact .inl h4
structure FarOk (F:Int) (E:List Ms) (w to:Int) (d:List Int):Prop where
 len:d.length=6
 lo:∀ x:Nat,x<6->-1<=d.getD x 0
 hi:∀ x:Nat,x<6->d.getD x 0<F
 t0:d.getD to.toNat 0=0
 prd:∀ x:Nat,x<6->0<=d.getD x 0->(x:Int)≠to->1<=d.getD x 0/\∃ p∈plF E x,(p.s:Int)≠w/\d.getD (fnP E p).toNat 0=d.getD x 0-1
 cl:∀ x:Nat,x<6->0<=d.getD x 0->ClF E w d x
theorem far_ok (hE:MbOk F E) (w:Int) (ht:0<=to/\to<F):FarOk F E w to (farL E to w):=by
 obtain⟨h1,h2⟩:=FI.start (w:=w) hE ht;have hF:=hE.f;have hg:∀ x:Nat,x<6->0<=((List.replicate 6 (-1:Int)).set to.toNat 0).getD x 0->(x:Int)∈[to]\/ClF E w ((List.replicate 6 (-1:Int)).set to.toNat 0) x:=λx h6 hx=>by
  refine .inl ?_;rw[getD_set (by simp;omega)]at hx;by_cases c:to.toNat=x
  ·rw[List.mem_singleton];omega
  ·rw[if_neg c,rep_at x h6]at hx;exact absurd hx (by decide)
 obtain⟨k1,k2⟩:=farK_ok (w:=w) hE 7 _ _ h1 (by rw[h2];show 1+5<=7;decide) hg;refine⟨k1.len,k1.lo,λx hx=>?_,k1.t0,k1.prd,k2⟩;obtain⟨n,rfl⟩:∃ n:Nat,F=(n:Int):=⟨F.toNat,by omega⟩;have:=k1.hi x hx;have hge:=ng_ge _ n (λy hy h6=>k1.neg y (by omega) (by rw[k1.len]at h6;exact h6));rw[k1.len]at hge;show(farK E w 7 _).1.getD x 0<_;omega
end
abbrev ivl (q:List Int):List Value:=q.map (Value.int .i64)
theorem ivl_all (q:List Int):(ivl q).all Value.oneCell'=true:=List.all_eq_true.2 λu hu=>by obtain⟨x,_,rfl⟩:=List.mem_map.1 hu;rfl
theorem ivl_get {d:List Int} {x:Int} (hd:d.length=6) (h0:0<=x) (h1:x<6):(ivl d)[0+x.toNat*1]? = some (.int .i64 (d.getD x.toNat 0)):=by
 rw[Nat.zero_add,Nat.mul_one,List.getElem?_map];have:d[x.toNat]? = some (d.getD x.toNat 0):=by simp[List.getD,List.getElem?_eq_getElem (show x.toNat<d.length by omega)]
 rw[this];rfl
theorem ivl_set {d:List Int} {x v:Int} (hd:d.length=6) (h0:0<=x) (h1:x<6):SetAt (ivl d) (0+x.toNat*1) (.int .i64 v) (ivl (d.set x.toNat v)):=
 setAt_of (by rw[List.length_map];omega) (by rw[Nat.zero_add,Nat.mul_one];exact List.map_set.symm)
def iniD (k:Nat):List Int:=List.replicate k (-1)++List.replicate (6-k) 0
theorem iniD_set:∀ k,k<6->(iniD k).set k (-1)=iniD (k+1):=by decide
theorem iniD_len:∀ k,k<7->(iniD k).length=6:=by decide
theorem iniD_at {k:Nat} (hk:k<6):SetAt (ivl (iniD k)) (0+(k:Int).toNat*1) (.int .i64 (-1)) (ivl (iniD (k+1))):=by
 have:=ivl_set (d:=iniD k) (x:=(k:Int)) (v:=-1) (iniD_len k (by omega)) (by omega) (by omega)
 rw[Int.toNat_natCast,iniD_set k hk]at this;exact this
end Go.Mt
namespace Go.Proofs.YtnffcfhdnjbdbaaGreatDoor.M
open Go.Lw Go.Ps Go.Mt Go.RowKit
open Go.Gl (iv ivs zV)
section
variable {V:View} {b:Nat} {F:Int} {a:Option Addr} {c:Nat} {E:List Ms}
theorem iterA_f (h:TbM V b a c E) (hE:MbOk F E) (x:Int) (q2 q3:Addr) (hq2:Cells V q2 [.pointer (some ⟨b,0,none⟩)]) (hq3:Cells V q3 [iv x]):It Tryz.prog 72 [.pointer (some q2),.pointer (some q3)] V (ysA E x):=by
 have hsl:=h.sl
 have hlen:=hE.n
 have hv:jb V ⟨b,0+0+1,none⟩=some (.slice a E.length c):=h.sh
 refine it_of Tryz.func72 rfl Tryz.ntmps72 (Nat.le_of_ble_eq_true rfl) rfl ?_;intro l J K w0 H hJ;refine zb (tT 0 [0,0,0,0,0,0,0]) ?_;refine kV tk60 ?_;refine jh ?_;refine zw fo114_0 ?_;refine zw fo32_1 ?_;refine AtT.load rfl trivial rfl tk30 hv (by decide) ?_;refine zZ Tryz.underlying30 ?_;refine ze ?_;refine AtT.dn ?_;refine lpY H (ι:=Nat) (λi=>i<=E.length) (λi=>[(0,.func (.yield l) #[] #[]),(1,.pointer (some q2)),(2,.pointer (some q3)),(14,iv E.length),(15,iv i)]) (λi=>cntA E x (2*i)) (λi=>E.length-i) 0 (Nat.zero_le _) ⟨rfl,rfl,rfl,rfl,rfl,trivial⟩ (show J (cntA E x (2*0)) _ from hJ) ?_;rintro i w ks' hil hJ rfl;refine zb (tT 0 [0]) ?_;refine qc ?_;refine AtT.dn ?_;refine zI rfl (λhp=>?_) (λhp=>?_);rotate_left
 ·obtain rfl:i=E.length:=by omega
  refine nrm ?_;exact itEnd H (.inl rfl) rfl (.inl (by rw[List.length_map,<-cntA_all];exact hJ))
 have hil':i<E.length:=by omega
 obtain⟨s,hs⟩:∃ s,E[i]? = some s:=⟨_,List.getElem?_eq_getElem hil'⟩;refine zb (tT 0 [0,0]) ?_;refine ze ?_;refine zh ?_;refine zb (tT 0 [0]) ?_;refine ze ?_;refine AtT.dn ?_;refine nrm ?_;refine lpY H (ι:=Nat) (λt=>t<=2) (λt=>[(0,.func (.yield l) #[] #[]),(1,.pointer (some q2)),(2,.pointer (some q3)),(4,iv i),(14,iv E.length),(15,iv i),(18,iv t)]) (λt=>cntA E x (2*i+t)) (λt=>2-t) 0 (by decide) ⟨rfl,rfl,rfl,rfl,rfl,rfl,rfl,trivial⟩ hJ ?_;rintro t w2 ks' ht2 hJ rfl;refine zb (tT 0 [0]) ?_;refine qc ?_;refine AtT.dn ?_;refine zI rfl (λhp=>?_) (λhp=>?_);rotate_left
 ·obtain rfl:t=2:=by omega
  refine zb (tT 0 [0,0]) ?_;refine zM ?_;refine ze ?_;refine AtT.dn ?_;refine roundY H (i+1) ?_ (by omega) ?_ hJ
  ·show E.length-(i+1)<E.length-i;omega
  ·exact⟨rfl,rfl,rfl,rfl,ivs (by push_cast;omega),trivial⟩
 have hpl:=plA_at hil' (show t<2 by omega)
 have hcn:=cntA_more (x:=x) hpl
 have hbg:bgP E ⟨i,t⟩=bgn s t:=by unfold bgP;rw[atM_of hs]
 rw[hbg]at hcn;refine zb (tT 0 [0,0]) ?_;refine ze ?_;refine zh ?_;refine zb (tT 0 [0,0,0,1,2]) ?_;refine ze ?_;refine ze ?_;refine qD (bd72_0_1 _ _) ?_;refine zW z72 ?_;intro b6;refine zH tk72 ?_;refine AtT.dn ?_;refine zb (tT 0 [0,0,1,0,0,0,0,0]) ?_;refine kV tk60 ?_;refine qo tk72 ?_;refine zm rfl rfl ok25 (ends_f h i t s hs) ?_;rintro _ rfl;refine ze ?_;refine zx ?_;refine zx ?_;refine zu ?_;refine zh ?_;refine nrm ?_;by_cases hb:bgn s t=x
 ·have hys:=ysA_at hpl (hbg.trans hb)
  rw[if_pos hb]at hcn;refine zP (tT 0 [0,0,0,0,0,0,2,0,0]) ?_;refine ze ?_;refine kV tk3 ?_;refine keqI ?_;refine xk (d:=32) rfl (hb) ?_;refine ze ?_;all_goals (first | refine kY 33 ?_ | refine kX (d:=33) rfl (λhg33=>?_) (λhg33=>?_) | refine kW (d:=33) rfl (λhg33=>?_) (λhg33=>?_))
  all_goals refine zJ ?_
  all_goals refine p_la tk72 ?_
  all_goals (first | refine kpN ?_ | ((refine AtT.yield rfl ⟨_,_,rfl,rfl,rfl⟩ rfl rfl H (hys) (hJ) (by decide) ?_ ?_))<;>(intro w36 hJ36))
  all_goals refine p_nt ?_
  all_goals refine zF ?_
  all_goals refine AtT.done ?_
  all_goals refine nrm ?_
  rotate_left
  ·refine ql rfl rfl ?_;refine nrm ?_;exact itEnd H (.inr rfl) rfl (.inr hJ36)
  refine zS rfl rfl ?_;refine zb (tT 0 [0,0]) ?_;refine zM ?_;refine ze ?_;refine AtT.dn ?_;refine roundY H (t+1) ?_ (by omega) ?_ (by dsimp only;rw[<-Nat.add_assoc,hcn];exact hJ36)
  ·show 2-(t+1)<2-t;omega
  ·exact⟨rfl,rfl,rfl,rfl,rfl,rfl,ivs (by push_cast;omega),trivial⟩
 ·rw[if_neg hb]at hcn;refine zP (tT 0 [0,0,0,0,0,0,1,0,0]) ?_;refine ze ?_;refine kV tk3 ?_;refine keqI ?_;refine xh (d:=32) rfl (hb) ?_;refine ze ?_;all_goals (first | refine kY 33 ?_ | refine kX (d:=33) rfl (λhg33=>?_) (λhg33=>?_) | refine kW (d:=33) rfl (λhg33=>?_) (λhg33=>?_))
  all_goals refine zJ ?_
  all_goals refine p_la tk72 ?_
  all_goals first|refine kpN ?_|((fail))
  all_goals refine p_nt ?_
  all_goals refine zF ?_
  all_goals refine AtT.done ?_
  all_goals refine nrm ?_
  refine zS rfl rfl ?_;refine zb (tT 0 [0,0]) ?_;refine zM ?_;refine ze ?_;refine AtT.dn ?_;refine roundY H (t+1) ?_ (by omega) ?_ (by dsimp only;rw[<-Nat.add_assoc,hcn];exact hJ)
  ·show 2-(t+1)<2-t;omega
  ·exact⟨rfl,rfl,rfl,rfl,rfl,rfl,ivs (by push_cast;omega),trivial⟩
end
end Go.Proofs.YtnffcfhdnjbdbaaGreatDoor.M
namespace Go.Lw
open Go.RowKit
structure Cut (b:Nat) (pre q rest:List Value) (qa:Addr):Prop where
 loc:q.length+rest.length≠0->qa=⟨b,pre.length,none⟩
 len:q.length+rest.length<=maxLen
abbrev cutB (b:Nat) (pre q rest:List Value) (E:TypeId):Own:=.blk b (LC (pre++q++rest) E)
section
variable {cx:Cx} {n:Nat} {ks:List (Nat×Value)} {O R:List Own} {V:View} {P:Program} {ops:Array Oper} {Qn:Act->World->Prop} {t:Tr} {i d:Nat} {T:TypeId} {pos:String} {after:Array Edge} {gd:Option (Nat×Bool)} {x y:Operand}
theorem cutTail {X E:TypeId} {ag:Bool} {lo':Operand} {k:IntKind} {b m c:Nat} {pre q rest:List Value} {x0:Value} {qa:Addr} (ho:ops[i]? = some ⟨some d,.slice X x (some lo') none none,T,pos,after,gd⟩) (hg:Gd ks ops gd) (hX:P.underlying X=some (.slice E)) (hE:tkB P E=some (ag,1))
  (hx:ev ks x=some (.slice (some qa) m c)) (hh:ev ks lo'=some (.int k 1)) (hC:Cut b pre (x0::q) rest qa) (hm:m=q.length+1) (hc:c=q.length+1+rest.length) (hn:d<n)
  (next:∀ qa',Cut b (pre++[x0]) q rest qa'->AtT cx n ((d,.slice (some qa') q.length (q.length+rest.length))::ks) O V P ops Qn t):AtT cx n ks O V P ops Qn (.q i t):=by
 subst hm hc;refine .q (v:=.slice (some (if q.length+1+rest.length=1 then qa else qa.add 1)) q.length (q.length+rest.length)) ho hg rfl hn (λb w hk hm=>?_) (next _ ⟨λh=>?_,?_⟩)
 ·have hX':P.underlying X=some (.slice (P.elem X)):=by simp[Program.elem,hX]
  have hEl:P.elem X=E:=by simp[Program.elem,hX]
  have e1:q.length+1+rest.length-1=q.length+rest.length:=by omega
  simp only[execOp,hk.ev hx,hk.ev hh,Option.map_none,Option.map_some,Sem.run_bind,run_sliceAt_slice w X _ _ _ _ hX'];rw[run_slice_l w X (some qa) (q.length+1) (q.length+1+rest.length) hX' k 1 (by decide) (by omega),hEl,run_sizeOf hE];simp only[Result.andThen_ok,Sem.run_pure,sliced];show Result.ok (Next.value (Value.slice (if q.length+1+rest.length=1 then some qa else some (qa.add (1*1))) (q.length+1-1) (q.length+1+rest.length-1))) w=_;rw[e1];by_cases e:q.length+1+rest.length=1
  ·rw[if_pos e,if_pos e];rfl
  ·rw[if_neg e,if_neg e];rfl
 ·have h1:=hC.loc (by simp)
  rw[if_neg (by omega),h1,Addr.add_lit];simp
 ·have:=hC.len
  simp only[List.length_cons]at this;omega
theorem cutApp {X E:TypeId} {z:Value} {by_ b m c k2:Nat} {pre q rest:List Value} {qa q2:Addr} {u:Value} (ho:ops[i]? = some ⟨some d,.call ⟨.builtin .append,#[x,y],#[X,X]⟩,T,pos,after,gd⟩) (hg:Gd ks ops gd) (hX:P.underlying X=some (.slice E)) (hE:rowB P E=some (z,1,by_)) (hzs:z.cells.size=1)
  (hx:ev ks x=some (.slice (some qa) m c)) (hy:ev ks y=some (.slice (some q2) 1 k2)) (hC:Cut b pre q rest qa) (hm:m=q.length) (hc:c=q.length+rest.length) (hp:zo (cutB b pre q rest E) O R) (hu:Cells V q2 [u]) (h1:u.oneCell'=true) (hb:q.length+1<=maxLen) (hby:(q.length+1)*by_<=140737488355328) (hn:d<n)
  (next:∀ b' pre' rest' qa',Cut b' pre' (q++[u]) rest' qa'->AtT cx n ((d,.slice (some qa') (q.length+1) (q.length+1+rest'.length))::ks) (cutB b' pre' (q++[u]) rest' E::R) V P ops Qn t):AtT cx n ks O V P ops Qn (.n true i t):=
 .x ho hg λa w hk hmm=>by
  subst hm hc;have hm1:=hmm.pick hp;obtain⟨ti,hi,hz,hsz,hbz⟩:=jk hE;have hnews:=hu.run hmm.view;simp only[opW,execOp,resolve,invoke,builtin,Sem.run_bind,Sem.run_pure,Result.andThen_ok,List.map_toArray,List.map_cons,List.map_nil,hk.ev hx,hk.ev hy];cases rest with
  | nil=>
   have hold:∀ j v,q[j]? = some v->w.cell? (qa.add j)=some v:=λj v hj=>by
    have hj':=(List.getElem?_eq_some_iff.1 hj).1
    rw[hC.loc (by omega),Addr.add_lit,qP hm1.blk,List.append_nil,List.getElem?_append_right (by omega)];rw[<-hj];congr 1;omega
   have hr:=run_append_grow (P:=P) w X T E ti z hX hi hz qa q.length (q.length+0) q (by rw[hsz,Nat.mul_one]) hold q2 1 k2 [u] (by rw[hsz];rfl) hnews (by omega) (by simp only[maxLen]at hb;omega) (growslice_fits (by omega) (by rw[hbz];exact hby))
   have hr':(Builtin.append_ #[X,X] T #[.slice (some qa) q.length (q.length+([]:List Value).length),.slice (some q2) 1 k2]).run P w=_:=hr
   simp only[hr',Result.andThen_ok];have ha:=(hm1.drop.ext (Below.refl _ w).drew).alloc (.cells (q.toArray++[u].toArray++Builtin.zeroCells z.cells (grownCap w (q.length+1) (q.length+0) E-(q.length+1))) E);have hge:=grownCap_ge w (q.length+1) (q.length+0) E;have hle:=grownCap_le_maxLen w (q.length+1) (q.length+0) E hb;have hsize:(Builtin.zeroCells z.cells (grownCap w (q.length+1) (q.length+0) E-(q.length+1))).toList.length=grownCap w (q.length+1) (q.length+0) E-(q.length+1):=by rw[Array.length_toList,size_zeroCells,hzs,Nat.mul_one]
   have hcap:q.length+1+(Builtin.zeroCells z.cells (grownCap w (q.length+1) (q.length+0) E-(q.length+1))).toList.length=grownCap w (q.length+1) (q.length+0) E:=by rw[hsize];omega
   have:=next w.heap.size [] (Builtin.zeroCells z.cells (grownCap w (q.length+1) (q.length+0) E-(q.length+1))).toList ⟨w.heap.size,0,none⟩ ⟨λ_=>rfl,by rw[List.length_append,List.length_singleton,hcap];exact hle⟩
   rw[hcap]at this;refine⟨_,_,V,hk.put hn _,?_,λh=>(by cases h),this⟩;have e:(LC ([]++(q++[u])++(Builtin.zeroCells z.cells (grownCap w (q.length+1) (q.length+0) E-(q.length+1))).toList) E:Obj)=.cells (q.toArray++[u].toArray++Builtin.zeroCells z.cells (grownCap w (q.length+1) (q.length+0) E-(q.length+1))) E:=by
    show Obj.cells _ E (0,0)=Obj.cells _ E (0,0)
    congr 1;apply Array.ext';simp
   show Mem cx (.blk w.heap.size (LC ([]++(q++[u])++(Builtin.zeroCells z.cells (grownCap w (q.length+1) (q.length+0) E-(q.length+1))).toList) E)::R) V _
   rw[e];exact ha
  | cons r0 rest=>
   have hloc:=hC.loc (by simp)
   subst hloc;have hfc:=run_firstCells_some (P:=P) w ti.size 1 q2 1 k2 [u] (by rw[hsz];rfl) hnews;obtain⟨w',hst,hgr,hh⟩:=zX (P:=P) [u] 0 (pre.length+q.length*ti.size) (pre++q++r0::rest) w hm1.blk (by rw[hsz];simp;omega) (λv hv=>by rw[List.mem_singleton]at hv;rw[hv];exact h1);have hr:(Builtin.append_ #[X,X] T #[.slice (some ⟨b,pre.length,none⟩) q.length (q.length+(r0::rest).length),.slice (some q2) 1 k2]).run P w=.ok (.slice (some ⟨b,pre.length,none⟩) (q.length+1) (q.length+(r0::rest).length)) w':=by simp[Builtin.append_,run_underlying hX,sizeOf,typeInfo,hi,Builtin.lenOf,hfc,Addr.add_lit,hst]
   simp only[hr,Result.andThen_ok];rw[hsz,Nat.mul_one,Nat.add_zero]at hh;have e1:(pre++q++r0::rest).take (pre.length+q.length)=pre++q:=List.take_left' (by simp);have e2:(pre++q++r0::rest).drop (pre.length+q.length+[u].length)=rest:=by rw[<-List.drop_drop,List.drop_left' (by simp)];rfl
   rw[e1,e2]at hh;have hm2:=hm1.set hgr hh;have hlen:=hC.len;simp only[List.length_cons]at hlen;have:=next b pre rest ⟨b,pre.length,none⟩ ⟨λ_=>rfl,by rw[List.length_append,List.length_singleton];omega⟩
   have ec:q.length+(r0::rest).length=q.length+1+rest.length:=by rw[List.length_cons];omega
   rw[<-ec]at this;refine⟨_,_,V,hk.put hn _,?_,λh=>(by cases h),this⟩;show Mem cx (.blk b (LC (pre++(q++[u])++rest) E)::R) V _;have e3:pre++(q++[u])++rest=pre++q++[u]++rest:=by simp
   rw[e3];exact hm2
end
section
variable {cx:Cx} {n:Nat} {ks:List (Nat×Value)} {O O' R:List Own} {V V0:View} {P:Program} {ops:Array Oper} {Qn:Act->World->Prop} {t:Tr} {i d:Nat} {T:TypeId} {pos:String} {after:Array Edge} {gd:Option (Nat×Bool)} {x y:Operand} {u v:Value} {wr:Bool} {ro:Option Nat} {Q:Exit->Act->World->Prop} {K:Act->World->Prop}
 {l j:Nat} {J:Nat->World->Prop} {E:World->Prop} {ys:List (List Value)}
theorem rangeFuncD {g:Operand} {ps:Array Tmp} {assign body:Code} {f:FuncId} {caps:List Value} {Vi:View} {ι:Type} (idx:ι->Nat) (OS:ι->List Own) (VS:ι->View->Prop) (XS:Code->List Own->View->Prop)
  (hg:ev ks g=some (.func (.func f) #[] caps.toArray)) (hok:zi P f) (g0:ι) (hg0:idx g0=0) (hp:Pt (OS g0) O) (hv:VS g0 V) (hit:It P f caps Vi ys) (hVi:∀ g V',VS g V'->Le Vi V')
  (hps:∀ p∈ps.toList,p<n) (hlen:∀ y∈ys,y.length=ps.size)
  (hround:∀ i y l D r V' ks' O',ys[idx i]? = some y->VS i V'->Le cx.V0 V'->ks'=bindK ps.toList y ks->O'=OS i->At { cx with ds:=[] } n ks' (.blk l (.loop { r with state:=.ready,pending:=none })::.blk D (.deferred (some []))::O') V'
   (assign.wpIn (FW (some l)) 0 P (Exit.then (λa₁ w₁=>∃ w₂,(Instr.beginRound l).run P w₁=.ok () w₂/\body.wpIn (FW (some l)) 0 P (roundPost P l (RR { cx with ds:=[] } l D r idx OS VS XS (idx i))) a₁ w₂) (λ_ _ _=>False))))
  (hend:∀ i D V' O',idx i=ys.length->VS i V'->Le cx.V0 V'->O'=OS i->At { cx with ds:=mkD D::cx.ds } n ks (.blk D (.deferred (some []))::O') V' (Q .normal))
  (hexit:∀ D c O' V',XS c O' V'->Le cx.V0 V'->At { cx with ds:=mkD D::cx.ds } n ks (.blk D (.deferred (some []))::O') V' (c.wpIn (FW none) 0 P Q)) :
  At cx n ks O V ((Code.rangeFunc g ps assign body).wpIn (FW none) 0 P Q):=λa w hk hm=>by
 refine wpIn_rangeFunc λfn _=>?_
 let D:=w.heap.size
 let r:Loop:={ state:=.ready,pending:=none,fn:=fn,tmps:=a.tmps,params:=ps,assign:=assign,body:=body,defers:=D }
 let w1:=(w.alloc (.deferred (some []))).alloc (.loop r)
 have hm1:Mem { cx with ds:=[] } (.blk (D+1) (.loop r)::.blk D (.deferred (some []))::OS g0) V w1:=by
  have h1:=((hm.part hp.part).ds []).alloc (.deferred (some []))
  have h2:=h1.alloc (.loop r)
  rwa[World.size_alloc]at h2
 have H:Yd P (D+1) (RJ { cx with ds:=[] } (D+1) D r idx OS VS) (RE { cx with ds:=[] } (D+1) D r XS) Vi ys:=by
  refine⟨λj w w' h hb=>h.ext hb,λw w' h hb=>h.ext hb,λj w h=>?_,λj y w hy h=>?_⟩
  ·obtain⟨g',V',h0,h1,h2⟩:=h;exact(hVi _ _ h1).trans h2.view
  ·obtain⟨g',V',rfl,h1,h2⟩:=h;have hl:=hlen y (List.mem_of_getElem? hy);refine⟨_,_,_,_,run_yield h2.blk (by simpa using hl),?_⟩;rw[foldl_zip];refine roundIn_of_wpIn trivial ?_;refine hround g' y (D+1) D r V' _ _ hy h1 h2.le0 rfl rfl _ w ?_ h2;have:Kn { cx with ds:=[] } n ks { tmps:=a.tmps,defers:=[] }:=⟨rfl,hk.size,hk.known⟩;have:=Kn.bind ps.toList y ks a.tmps (by simpa using hl.symm) hps this;exact⟨this.defers,this.size,this.known⟩
 refine⟨D+1,[mkD D],w1,{ target:=.fn (.func f) caps.toArray,args:=#[.func (.yield (D+1)) #[] #[]] },w1,f,(Value.func (.yield (D+1)) #[] #[]::caps).toArray,w1,run_enterLoop_outer _ _ _ _ _,?_,λ_ _=>trivial,?_,FW_dep none,?_⟩
 ·have e1:a.eval (.const (.func (.yield (D+1)) #[] #[]))=.func (.yield (D+1)) #[] #[]:=rfl
  simp[resolve,hk.ev hg,Deferred.ofValue,e1]
 ·have e:(#[Value.func (.yield (D+1)) #[] #[]]++caps.toArray)=(Value.func (.yield (D+1)) #[] #[]::caps).toArray:=by simp
  simp only[invoke,e];exact hok _ _
 ·refine jG.2 ((hit (D+1) _ _ w1 H ⟨g0,V,hg0,hv,hm1⟩).mono λe w' ⟨v,he,hh⟩=>?_);subst he;have hk':Kn { cx with ds:=mkD D::cx.ds } n ks { a with defers:=[mkD D]++a.defers }:=⟨by show [mkD D]++a.defers=mkD D::cx.ds;rw[hk.defers];rfl,hk.size,hk.known⟩;rcases hh with ⟨g',V',h0,h1,h2⟩ | ⟨c,O',V',h1,h2⟩
  ·exact⟨none,_,run_endLoop h2.blk (by simp),hend g' D V' _ h0 h1 h2.le0 rfl _ _ hk' (h2.put.drop.rebase rfl rfl)⟩
  ·exact⟨some c,_,run_endLoop h2.blk (by simp),hexit D c O' V' h1 h2.le0 _ _ hk' (h2.put.drop.rebase rfl rfl)⟩
theorem lpD {ι:Type} {c:Code} (DS:ι->List Deferred) (KS:ι->List (Nat×Value)) (OS:ι->List Own) (VS:ι->View->Prop) (μ:ι->Nat) (i0:ι)
  (hd:cx.ds=DS i0) (hs:Sub (KS i0) ks) (hp:Pt (OS i0) O) (hv:VS i0 V)
  (hbody:∀ i V' ks' O',VS i V'->ks'=KS i->O'=OS i->Le cx.V0 V'->At { cx with ds:=DS i } n ks' O' V' (c.wpIn (FW ro) 0 P (Exit.then (λa w=>∃ i' V'',μ i'<μ i/\VS i' V''/\Kn { cx with ds:=DS i' } n (KS i') a/\Mem cx (OS i') V'' w) Q))) :
  At cx n ks O V ((Code.loop c).wpIn (FW ro) 0 P Q):=λa w hk hm=>
 wpIn_loop_ghost (λ(i:ι) a w=>∃ V',VS i V'/\Kn { cx with ds:=DS i } n (KS i) a/\Mem cx (OS i) V' w) μ
  (λi a w ⟨V',hV,hk,hm⟩=>wpIn_mono (hbody i V' _ _ hV rfl rfl hm.le0 a w hk (hm.ds _)) (λe a' w' hq=>by
   cases e with
   | normal=>
    obtain⟨i',V'',hlt,hV',hk',hm'⟩:=hq;exact⟨i',⟨V'',hV',hk',hm'⟩,hlt⟩
   | exit id=>exact hq
   | goto l=>exact hq
   | ret=>exact hq
   | panic ch=>exact hq
   | outgrown=>exact hq)) i0 a w ⟨V,hv,⟨hk.defers.trans hd,hk.size,(hk.sub hs).known⟩,hm.part hp.part⟩
theorem roundD {ι:Type} {DS:ι->List Deferred} {KS:ι->List (Nat×Value)} {OS:ι->List Own} {VS:ι->View->Prop} {μ:ι->Nat} {i:ι} {ds:List Deferred} (i':ι) (hμ:μ i'<μ i) (hv:VS i' V) (hd:ds=DS i') (hs:Sub (KS i') ks) (hp:Pt (OS i') O) :
  At { cx with ds:=ds } n ks O V (λa w=>∃ i' V'',μ i'<μ i/\VS i' V''/\Kn { cx with ds:=DS i' } n (KS i') a/\Mem cx (OS i') V'' w):=λa w hk hm=>⟨i',V,hμ,hv,⟨hk.defers.trans hd,hk.size,(hk.sub hs).known⟩,(hm.part hp.part).ds'⟩
abbrev dfB (D:Nat):Own:=.blk D (.deferred (some []))
theorem leaves_marks {fn:Func} {R':Ending->World->Prop} {tmps:Array Value} {u:FrameMode} (hu:u≠.run):∀ (Ds:List Nat) (w:World),Mem cx (Ds.map dfB++R) V w->(∀ w',Mem cx R V w'->LeavesInM (FW none) 0 P fn tmps R' [] u w')->LeavesInM (FW none) 0 P fn tmps R' (Ds.map mkD) u w
 | [],w,hm,h=>h w hm
 | D::Ds,w,hm,h=>by refine⟨hu,.inl ⟨D,_,rfl,run_takeDeferred (Mem.blk hm),?_⟩⟩;exact leaves_marks hu Ds _ (Mem.put (o':=.deferred none) hm).drop h
theorem unmarks {fn:Func} {R':Ending->World->Prop} {e:Exit} (Ds:List Nat) (he:e=.ret\/e=.normal) (hd:cx.ds=Ds.map mkD) (hp:O.Perm (Ds.map dfB++R)) (h:At { cx with ds:=[] } n ks R V (bodyPost P fn R' e)) :
  At cx n ks O V (bodyPostM (FW none) 0 P fn R' e):=λa w hk hm=>by
 have key:∀ w',Mem cx R V w'->LeavesInM (FW none) 0 P fn a.tmps R' [] .returning w':=λw' hm'=>by
  have:=h { a with defers:=[] } w' ⟨rfl,hk.size,hk.known⟩ (hm'.ds [])
  rcases he with rfl | rfl;all_goals
   obtain⟨_,h2⟩:=this;exact h2
 rcases he with rfl | rfl;all_goals
  show LeavesInM _ _ _ _ _ _ a.defers _ _
  rw[hk.defers,hd];exact leaves_marks (by simp) Ds w (hm.perm hp) key
end
end Go.Lw
namespace Go.Proofs.YtnffcfhdnjbdbaaGreatDoor.M
open Go.Lw Go.Ps Go.Mt Go.RowKit
open Go.Gl (iv ivs zV)
structure FrG where
 d:List Int
 q:List Int
 Ds:List Nat
 qb:Nat
 pre:List Value
 rest:List Value
 qa:Addr
structure FrI where
 j:Nat
 qb:Nat
 pre:List Value
 rest:List Value
 qa:Addr
abbrev zz6:List Value:=[iv 0,iv 0,iv 0,iv 0,iv 0,iv 0]
section
variable {V:View} {b:Nat} {F:Int} {a:Option Addr} {c:Nat} {E:List Ms}
set_option maxHeartbeats 3200000 in
theorem far_f (h:TbM V b a c E) (hE:MbOk F E) (to wo:Int) (ht:0<=to/\to<F):Fnc Tryz.prog 23 [.pointer (some ⟨b,0,none⟩),iv to,iv wo] V λr _=>r=.agg (ivl (farL E to wo)).toArray:=by
 have hF:=hE.f
 refine fn_ofM Tryz.func23 rfl Tryz.ntmps23 (Nat.le_of_ble_eq_true rfl) ?_;intro w0 hw0;refine zb (tT 0 [1,1,1]) ?_;refine qQ ?_;intro b3;refine qQ ?_;intro b5;refine zW z66 ?_;intro b6;refine xq (tT 0 [1]) ?_;refine zW z66 ?_;intro b7;refine xq (tT 0 [0]) ?_;refine ze ?_;refine AtT.dn ?_;refine jN (b:=b3) zo.zg (λV3 hV3 hb3=>?_);refine jN (b:=b5) zo.zg (λV5 hV5 hb5=>?_);have q3:=(zQ hb3).le hV5;have q5:=zQ hb5;have h5:=(h.le hV3).le hV5;refine nrm ?_;refine xc (ι:=Nat) (KS:=λk=>[(1,iv to),(3,.pointer (some ⟨b3,0,none⟩)),(5,.pointer (some ⟨b5,0,none⟩)),(6,.pointer (some ⟨b6,0,none⟩)),(7,.pointer (some ⟨b7,0,none⟩)),(14,iv k)]) (OS:=λk=>[.blk b7 (LC (ivl (iniD k)) 66),.blk b6 (LC zz6 66)])
  (VS:=λk V'=>Le V5 V'/\k<=6) (μ:=λk=>6-k) 0 ?_ ?_ ?_ ?_
 ·exact⟨rfl,rfl,rfl,rfl,rfl,rfl,trivial⟩
 ·exact Pt.zg
 ·exact⟨Le.refl _,by decide⟩
 rintro k V6 ks' O' ⟨hV6,hk6⟩ hk hO hl;subst hk hO;refine zb (tT 0 [0]) ?_;refine qc ?_;refine AtT.dn ?_;refine zI rfl (λhp=>?_) (λhp=>?_)
 ·have hset:=iniD_at (k:=k) (by omega)
  refine zb (tT 0 [0,0]) ?_;refine ze ?_;refine zh ?_;refine zb (tT 0 [0,0,2]) ?_;refine ze ?_;refine kidxA Tryz.underlying66 tk3 ?_;refine store1 rfl trivial rfl rfl tk3 rfl rfl (by repeat first|exact Upd.here|apply Upd.there) hset ?_;refine AtT.dn ?_;refine zb (tT 0 [0,0]) ?_;refine zM ?_;refine ze ?_;refine AtT.dn ?_;refine At.round (k+1) ?_ ?_ ?_ ?_
  ·show 6-(k+1)<6-k;omega
  ·exact⟨hV6,by omega⟩
  ·exact⟨rfl,rfl,rfl,rfl,rfl,ivs (by omega),trivial⟩
  ·exact Pt.zg
 obtain rfl:k=6:=by omega
 have hst:=FI.start (w:=wo) hE ht
 have hset:SetAt (ivl (iniD 6)) (0+to.toNat*1) (iv 0) (ivl ((List.replicate 6 (-1)).set to.toNat 0)):=ivl_set (d:=iniD 6) rfl ht.1 (by omega)
 have h6:=h5.le hV6
 have q36:=q3.le hV6
 have q56:=q5.le hV6
 refine zb (tT 0 [0,0,2]) ?_;refine ze ?_;refine kidxA Tryz.underlying66 tk3 ?_;refine store1 rfl trivial rfl rfl tk3 rfl rfl (by repeat first|exact Upd.here|apply Upd.there) hset ?_;refine xq (tT 0 [0,1,1,2]) ?_;refine ze ?_;refine kbslice (zR _) ?_;intro b23;refine zW z34 ?_;intro b9;first | refine qK qp ?_ | refine zH qp ?_
 refine AtT.dn ?_;refine nrm ?_;refine lpD (ι:=FrG) (DS:=λg=>g.Ds.map mkD) (KS:=λg=>[(3,.pointer (some ⟨b3,0,none⟩)),(5,.pointer (some ⟨b5,0,none⟩)),(6,.pointer (some ⟨b6,0,none⟩)),(7,.pointer (some ⟨b7,0,none⟩)),(9,.pointer (some ⟨b9,0,none⟩))])
  (OS:=λg=>.blk b9 (LC [.slice (some g.qa) (ivl g.q).length ((ivl g.q).length+g.rest.length)] 34)::.blk g.qb (LC (g.pre++ivl g.q++g.rest) 3)::.blk b7 (LC (ivl g.d) 66)::.blk b6 (LC zz6 66)::g.Ds.map dfB)
  (VS:=λg V'=>Le V6 V'/\FI F E wo to g.d g.q/\Cut g.qb g.pre (ivl g.q) g.rest g.qa/\g.q.length+ng g.d<=6/\farK E wo (g.q.length+ng g.d+1) (g.d,g.q)=farK E wo 7 ((List.replicate 6 (-1)).set to.toNat 0,[to]))
  (μ:=λg=>g.q.length+ng g.d) ⟨(List.replicate 6 (-1)).set to.toNat 0,[to],[],b23,[],[],⟨b23,0,none⟩⟩ rfl ?_ ?_ ?_ ?_
 ·exact⟨rfl,rfl,rfl,rfl,rfl,trivial⟩
 ·exact Pt.zO
 ·refine⟨Le.refl _,hst.1,⟨λ_=>rfl,by simp[maxLen]⟩,?_,?_⟩
  ·dsimp only;rw[hst.2];exact Nat.le_refl _
  ·dsimp only;rw[hst.2];rfl
 rintro⟨d,q,Ds,qb,pre,rest,qa⟩ V7 ks' O' ⟨hV7,hFI,hC,hms,hfk⟩ hk hO hl2;dsimp only at hFI hC hms hfk hk hO;subst hk hO;have h7:=h6.le hV7;have q37:=q36.le hV7;have q57:=q56.le hV7;refine zb (tT 0 [0,0,0]) ?_;refine kV qp ?_;refine zZ Tryz.underlying34 ?_;refine kgtr ?_;refine AtT.dn ?_;refine zI rfl (λhp=>?_) (λhp=>?_);rotate_left
 ·obtain rfl:q=[]:=by
   cases q with
   | nil=>rfl
   | cons x l=>exact absurd (show(0:Int)<((ivl (x::l)).length:Int) by simp only[List.map_cons,List.length_cons];omega) hp
  have hd:d=farL E to wo:=by
   have:=congrArg Prod.fst hfk
   rw[farK_nil]at this;exact this
  have hlen:(ivl d).length=6:=by rw[List.length_map];exact hFI.len
  refine zb (tT 0 [0,2]) ?_;refine loadOA rfl trivial rfl tk66 zo.zg hlen (by decide) ?_;refine storeA rfl trivial rfl rfl tk66 hlen rfl (ivl_all d) (by repeat first|exact Upd.here|apply Upd.there) ?_;refine AtT.dn ?_;refine unmarks Ds (.inl rfl) rfl (List.perm_append_comm (l₁:=[_,_,_,_])) ?_;exact zL rfl (.agg rfl tk66 zo.zg hlen) (by rw[hd])
 obtain⟨f,q',rfl⟩:∃ f q',q=f::q':=by
  cases q with
  | nil=>exact absurd hp (by simp)
  | cons f q'=>exact⟨f,q',rfl⟩
 obtain rfl:=hC.loc (by simp);have hq:=hFI.qok f (by simp);have hcell:(pre++ivl (f::q')++rest)[pre.length+(0:Int).toNat*1]? = some (iv f):=by
  show(pre++ivl (f::q')++rest)[pre.length]? = _
  rw[List.append_assoc,List.getElem?_append_right (Nat.le_refl _),Nat.sub_self];rfl
 have hre:pre++ivl (f::q')++rest=(pre++[iv f])++ivl q'++rest:=by simp
 refine zb (tT 0 [0,0,0,1,2]) ?_;refine kV qp ?_;refine idxO rfl trivial Tryz.underlying34 tk3 rfl rfl (by decide) hp (by decide) ?_;refine jM rfl trivial rfl tk3 zo.zg hcell (by decide) ?_;refine zW z3 ?_;intro b10;first | refine qK tk3 ?_ | refine zH tk3 ?_
 refine AtT.dn ?_;refine zb (tT 0 [0,0,2]) ?_;refine kV qp ?_;refine cutTail rfl trivial Tryz.underlying34 tk3 rfl rfl hC rfl rfl (by decide) ?_;rintro qa' hC';first | refine qK qp ?_ | refine zH qp ?_
 refine AtT.dn ?_;rw[hre];refine zb (tT 0 [0,0,1]) ?_;refine kV tk60 ?_;refine kV tk3 ?_;refine kK rfl rfl ok24 (at_f f) ?_;rintro v34 V34 hV34 ⟨q2,q3',rfl,hq2,hq3⟩;refine AtT.dn ?_;have h34:=h7.le hV34;have q334:=q37.le hV34;have q534:=q57.le hV34;have hms':q'.length+1+ng d<=6:=hms;refine nrm ?_;refine rangeFuncD (Vi:=V34) (ys:=ysA E f) (ι:=FrI) (λg=>g.j)
  (λg=>.blk b9 (LC [.slice (some g.qa) (ivl (rdF E wo f (d,q') g.j).2).length ((ivl (rdF E wo f (d,q') g.j).2).length+g.rest.length)] 34)::.blk g.qb (LC (g.pre++ivl (rdF E wo f (d,q') g.j).2++g.rest) 3)::.blk b7 (LC (ivl (rdF E wo f (d,q') g.j).1) 66)::.blk b10 (LC [iv f] 3)::.blk b6 (LC zz6 66)::Ds.map dfB)
  (λg V'=>Le V34 V'/\Cut g.qb g.pre (ivl (rdF E wo f (d,q') g.j).2) g.rest g.qa) (λ_ _ _=>False) rfl ok72 ⟨0,qb,pre++[iv f],rest,qa'⟩ rfl ?_ ⟨Le.refl _,hC'⟩ (iterA_f h34 hE f q2 q3' hq2 hq3) (λ_ _ h=>h.1) (by decide) (λy hy=>by obtain⟨j,_,rfl⟩:=List.mem_map.1 hy;rfl) ?_ ?_ (λ_ _ _ _ h=>h.elim)
 ·exact Pt.zO
 ·rintro⟨j,qb2,pre2,rest2,qa2⟩ y l D r V8 ks' O' hy ⟨hV8,hC8⟩ hl8 rfl rfl;dsimp only at hy hC8⊢;obtain⟨p,hpj,rfl⟩:∃ p,(plF E f)[j]? = some p/\y=[mpv p]:=by
   rw[List.getElem?_map]at hy;cases hpj:(plF E f)[j]? with
   | none=>rw[hpj]at hy;cases hy
   | some p=>rw[hpj]at hy;exact⟨p,rfl,(Option.some.inj hy).symm⟩
  have hpm:=List.mem_of_getElem? hpj
  obtain⟨⟨hps,hpt⟩,hpb⟩:=plF_mem.1 hpm;obtain⟨s,hs⟩:∃ s,E[p.s]? = some s:=⟨_,List.getElem?_eq_getElem hps⟩;have hnx:=rdF_next (w:=wo) (S:=(d,q')) hpj;obtain⟨hR,hR2,_⟩:=hFI.pop.round hE hq j;have hmono:=hR2.mono f.toNat hq.2.2;have hms8:=hR2.ms;obtain⟨S,hS⟩:∃ S,S=rdF E wo f (d,q') j:=⟨_,rfl⟩;rw[<-hS]at hR hR2 hC8 hnx hmono hms8⊢;obtain⟨d8,q8⟩:=S;dsimp only at hR hC8 hnx hmono hms8⊢;have hfe:fin s p.t=fnP E p:=by unfold fnP;rw[atM_of hs]
  have heb:=fnP_bd hE hpm
  have h8:=h34.le hV8
  have q38:=q334.le hV8
  have q58:=q534.le hV8
  have hdl:=hR.len
  have hge:=ivl_get hdl heb.1 (by omega)
  have hgf:=ivl_get (x:=f) hdl hq.1 (by omega)
  show At _ _ ((35,mpv p)::_) _ _ _
  refine zb (tT 0 [1,2]) ?_;refine zW z72 ?_;intro b11;refine zH tk72 ?_;refine AtT.dn ?_;refine xC zo.zg ?_;refine zb (tT 0 [0,0,1,0,0,0,0,0]) ?_;refine kV tk60 ?_;refine qo tk72 ?_;refine zm rfl rfl ok25 (ends_f h8 p.s p.t s hs) ?_;rintro _ rfl;refine ze ?_;refine zx ?_;refine zx ?_;refine zu ?_;refine zh ?_;rw[hfe];refine nrm ?_;by_cases hw:(p.s:Int)≠wo;rotate_left
  ·have hst8:stP E wo f (d8,q8) p=(d8,q8):=if_neg (λh=>hw h.1)
   rw[hst8]at hnx;refine zP (tT 0 [0,0,0,0,0,0,0,0,0,0]) ?_;refine zw fo72_0 ?_;refine kV tk3 ?_;refine kV tk3 ?_;refine kJ ?_;refine xh (d:=45) rfl (hw) ?_;refine ze ?_;all_goals (first | refine kY 46 ?_ | refine kX (d:=46) rfl (λhg46=>?_) (λhg46=>?_) | refine kW (d:=46) rfl (λhg46=>?_) (λhg46=>?_))
   all_goals refine zJ ?_
   all_goals first|refine AtT.kp ?_|(refine kidxA Tryz.underlying66 tk3 ?_)
   all_goals refine qi tk3 ?_
   all_goals refine p_lt ?_
   all_goals refine zF ?_
   all_goals refine AtT.done ?_
   all_goals refine nrm ?_
   refine zS rfl rfl ?_;refine nrm ?_;refine roundN ⟨j+1,qb2,pre2,rest2,qa2⟩ rfl ⟨hV8,by rw[hnx];exact hC8⟩ zo.zg ?_;dsimp only;rw[hnx];exact Pt.zO
  by_cases hn:d8.getD (fnP E p).toNat 0<0;rotate_left
  ·have hst8:stP E wo f (d8,q8) p=(d8,q8):=if_neg (λh=>hn h.2)
   rw[hst8]at hnx;refine zP (tT 0 [0,0,0,0,0,0,0,0,0,0]) ?_;refine zw fo72_0 ?_;refine kV tk3 ?_;refine kV tk3 ?_;refine kJ ?_;refine xk (d:=45) rfl (hw) ?_;refine ze ?_;all_goals (first | refine kY 46 ?_ | refine kX (d:=46) rfl (λhg46=>?_) (λhg46=>?_) | refine kW (d:=46) rfl (λhg46=>?_) (λhg46=>?_))
   all_goals refine zJ ?_
   all_goals first|refine AtT.kp ?_|(refine kidxA Tryz.underlying66 tk3 ?_)
   all_goals first|refine AtT.kp ?_|(refine jM rfl ⟨_,_,rfl,rfl,rfl⟩ rfl tk3 zo.zg hge (by decide) ?_)
   all_goals refine p_lt ?_
   all_goals refine xh (d:=50) rfl (hn) ?_
   all_goals refine zF ?_
   all_goals refine AtT.done ?_
   all_goals refine nrm ?_
   refine zS rfl rfl ?_;refine nrm ?_;refine roundN ⟨j+1,qb2,pre2,rest2,qa2⟩ rfl ⟨hV8,by rw[hnx];exact hC8⟩ zo.zg ?_;dsimp only;rw[hnx];exact Pt.zO
  have hst8:stP E wo f (d8,q8) p=(d8.set (fnP E p).toNat (d8.getD f.toNat 0+1),q8++[fnP E p]):=if_pos ⟨hw,hn⟩
  rw[hst8]at hnx;have hset8:=ivl_set (v:=d8.getD f.toNat 0+1) hdl heb.1 (by omega);have hfb:=hR.hi f.toNat (by omega);have hfl:=hR.lo f.toNat (by omega);have hap:ivl (q8++[fnP E p])=ivl q8++[iv (fnP E p)]:=List.map_append;refine zP (tT 0 [0,0,0,0,0,0,0,0,0,0]) ?_;refine zw fo72_0 ?_;refine kV tk3 ?_;refine kV tk3 ?_;refine kJ ?_;refine xk (d:=45) rfl (hw) ?_;refine ze ?_;all_goals (first | refine kY 46 ?_ | refine kX (d:=46) rfl (λhg46=>?_) (λhg46=>?_) | refine kW (d:=46) rfl (λhg46=>?_) (λhg46=>?_))
  all_goals refine zJ ?_
  all_goals first|refine AtT.kp ?_|(refine kidxA Tryz.underlying66 tk3 ?_)
  all_goals first|refine AtT.kp ?_|(refine jM rfl ⟨_,_,rfl,rfl,rfl⟩ rfl tk3 zo.zg hge (by decide) ?_)
  all_goals refine p_lt ?_
  all_goals refine xk (d:=50) rfl (hn) ?_
  all_goals refine zF ?_
  all_goals refine AtT.done ?_
  all_goals refine nrm ?_
  refine ql rfl rfl ?_;refine zb (tT 0 [0,0,0,0,0,0,2]) ?_;refine ze ?_;refine kV tk3 ?_;refine kidxA Tryz.underlying66 tk3 ?_;refine jM rfl trivial rfl tk3 zo.zg hgf (by decide) ?_;refine zM ?_;refine kidxA Tryz.underlying66 tk3 ?_;refine store1 rfl trivial rfl rfl tk3 rfl rfl (by repeat first|exact Upd.here|apply Upd.there) hset8 ?_;refine AtT.dn ?_;refine zb (tT 0 [0,0,1,2,2]) ?_;refine kV qp ?_;refine ze ?_;refine zy (zR _) ?_;intro q60 V60 hV60 hq60;have g60:Le V V60:=by first | exact hV60 | exact Le.trans (by assumption) hV60
  refine cutApp rfl trivial Tryz.underlying34 rw3 rfl rfl rfl hC8 rfl rfl zo.zg hq60 rfl (by rw[List.length_map];unfold maxLen;omega) (by rw[List.length_map];omega) (by decide) ?_;intro b61 p61 r61 a61 hC61;first | refine qK qp ?_ | refine zH qp ?_
  refine AtT.dn ?_;refine roundN ⟨j+1,b61,p61,r61,a61⟩ rfl ⟨hV8.trans (by assumption),by rw[hnx];dsimp only;rw[hap];exact hC61⟩ zo.zg ?_;dsimp only;rw[hnx];dsimp only;rw[hap,List.length_append];exact Pt.zO
 rintro⟨j,qb2,pre2,rest2,qa2⟩ D V8 O' hj ⟨hV8,hC8⟩ hl8 rfl;dsimp only at hj hC8⊢;rw[List.length_map]at hj;subst hj;obtain⟨hR1,hR2,_⟩:=hFI.pop.round hE hq (plF E f).length;have hms8:=hR2.ms;refine nrm ?_;refine roundD (cx:={ w0:=w0,V0:=V }) (DS:=λg:FrG=>g.Ds.map mkD) (i:=⟨d,f::q',Ds,qb,pre,rest,⟨qb,pre.length,none⟩⟩) (μ:=λg=>g.q.length+ng g.d) ⟨(rdF E wo f (d,q') (plF E f).length).1,(rdF E wo f (d,q') (plF E f).length).2,D::Ds,qb2,pre2,rest2,qa2⟩ ?_ ?_ rfl ?_ ?_
 ·show(rdF E wo f (d,q') (plF E f).length).2.length+ng (rdF E wo f (d,q') (plF E f).length).1<(f::q').length+ng d
  rw[List.length_cons];omega
 ·refine⟨(hV7.trans hV34).trans hV8,hR1,hC8,by dsimp only;omega,?_⟩;dsimp only;rw[<-hfk];show _=farK E wo (q'.length+1+ng d) (rdF E wo f (d,q') (plF E f).length);rw[hms8,show q'.length+ng d+1=q'.length+1+ng d by omega]
 ·exact⟨rfl,rfl,rfl,rfl,rfl,trivial⟩
 ·exact Pt.zO
end
end Go.Proofs.YtnffcfhdnjbdbaaGreatDoor.M
namespace Go.Proofs.YtnffcfhdnjbdbaaGreatDoor.M
open Go.Lw Go.Ps Go.Mt Go.RowKit
open Go.Gl (iv ivs zV outB wi)
section
variable {V:View} {F:Int} {a:Option Addr} {c:Nat} {E:List Ms}
structure ChG where
 x:Int
 out:List Mp
 Ds:List Nat
 ao:Option Addr
 co:Nat
def ChR (d:List Int) (from_:Int) (r:Value):Prop:=
 (d.getD from_.toNat 0<0/\r=.tuple #[.slice none 0 0,iv 5])\/(0<=d.getD from_.toNat 0/\∃ (a':Option Addr) (m c':Nat),r=.tuple #[.slice a' m c',iv 0]/\(m:Int)=d.getD from_.toNat 0)
theorem same_f (hE:MbOk F E) (hs:Sl V mse 2 (.slice a E.length c) E) (x:Int) (hx:0<=x/\x<F):Fnc Tryz.prog 10 [.agg #[iv F,.slice a E.length c],iv x,iv x] V λr _=>∃ v e,r=.tuple #[v,e]:=by
 have hF:=hE.f
 have hw:wi 0 (F-1) [x,x]=true:=wi_in λy hy=>by simp only[List.mem_cons,List.not_mem_nil,or_false,or_self]at hy;omega
 refine zG Tryz.func10 rfl Tryz.ntmps10 (Nat.le_of_ble_eq_true rfl) ?_;intro w0 hw0;refine zb (tT 0 [1,1,0,0]) ?_;refine qQ ?_;intro b3;refine qQ ?_;intro b4;refine zu ?_;refine ax (tT 0 [0,1,0,0,0,1,2,0]) ?_;refine qo tk32 ?_;refine kK rfl rfl ok19 (open_f hE hs) ?_;rintro _ V17 hV17 ⟨b,rfl,hb⟩;refine ze ?_;refine zx ?_;refine zx ?_;refine zW z60 ?_;intro b8;first | refine qK tk60 ?_ | refine zH tk60 ?_
 refine zh ?_;refine zb (tT 0 [0,0,0]) ?_;refine ze ?_;refine kJ ?_;refine zh ?_;refine zS rfl rfl ?_;refine zb (tT 0 [0,0,0,0,0,1,1,0,0,0,0,0,0,0]) ?_;refine zw fo32_0 ?_;refine kV tk3 ?_;refine k_sb ?_;refine kV tk3 ?_;refine ze ?_;refine zy (bs34_2_0_1 _ _) ?_;intro q30 V30 hV30 hq30;have g30:Le V V30:=by first | exact hV30 | exact Le.trans (by assumption) hV30
 refine zm rfl rfl ok22 (qd 0 (F-1) [x,x] _ _ (Sl.lit hq30 rfl (by simp))) ?_;rintro _ rfl;rw[hw];refine xn ?_;refine ze ?_;all_goals (first | refine kY 33 ?_ | refine kX (d:=33) rfl (λhg33=>?_) (λhg33=>?_) | refine kW (d:=33) rfl (λhg33=>?_) (λhg33=>?_))
 all_goals refine qi tk3 ?_
 all_goals refine zJ ?_
 all_goals refine p_qI ?_
 all_goals refine xk (d:=36) rfl (rfl) ?_
 all_goals refine zF ?_
 all_goals refine zu ?_
 all_goals refine AtT.done ?_
 all_goals refine nrm ?_
 refine ql rfl rfl ?_;refine zb (tT 0 [0,0]) ?_;refine zu ?_;refine zh ?_;exact ret2 rfl (.tmp rfl) (.tmp rfl) ⟨_,_,rfl⟩
set_option maxHeartbeats 6400000 in
theorem chain_f (hE:MbOk F E) (hs:Sl V mse 2 (.slice a E.length c) E) (fr to:Int) (hf:0<=fr/\fr<F) (ht:0<=to/\to<F) (hne:fr≠to):Fnc Tryz.prog 10 [.agg #[iv F,.slice a E.length c],iv fr,iv to] V λr _=>ChR (farL E to (-1)) fr r:=by
 have hF:=hE.f
 have hn:=hE.n
 have hd:=far_ok hE (-1) ht
 obtain⟨d,hdd⟩:∃ d,d=farL E to (-1):=⟨_,rfl⟩;rw[<-hdd]at hd⊢;have hlen:(ivl d).length=6:=by rw[List.length_map];exact hd.len
 have hw:wi 0 (F-1) [fr,to]=true:=wi_in λy hy=>by simp only[List.mem_cons,List.not_mem_nil,or_false]at hy;rcases hy with rfl | rfl<;>omega
 have hgf:=ivl_get hd.len hf.1 (by omega)
 refine fn_ofM Tryz.func10 rfl Tryz.ntmps10 (Nat.le_of_ble_eq_true rfl) ?_;intro w0 hw0;refine zb (tT 0 [1,1,0,0]) ?_;refine qQ ?_;intro b3;refine qQ ?_;intro b4;refine zu ?_;refine ax (tT 0 [0,1,0,0,0,1,2,0]) ?_;refine qo tk32 ?_;refine kK rfl rfl ok19 (open_f hE hs) ?_;rintro _ V17 hV17 ⟨b,rfl,hb⟩;refine ze ?_;refine zx ?_;refine zx ?_;refine zW z60 ?_;intro b8;first | refine qK tk60 ?_ | refine zH tk60 ?_
 refine zh ?_;refine zb (tT 0 [0,0,0]) ?_;refine ze ?_;refine kJ ?_;refine zh ?_;refine zS rfl rfl ?_;refine zb (tT 0 [0,0,0,0,0,1,1,0,0,0,0,0,0,0]) ?_;refine zw fo32_0 ?_;refine kV tk3 ?_;refine k_sb ?_;refine kV tk3 ?_;refine ze ?_;refine zy (bs34_2_0_1 _ _) ?_;intro q30 V30 hV30 hq30;have g30:Le V V30:=by first | exact hV30 | exact Le.trans (by assumption) hV30
 refine zm rfl rfl ok22 (qd 0 (F-1) [fr,to] _ _ (Sl.lit hq30 rfl (by simp))) ?_;rintro _ rfl;rw[hw];refine xn ?_;refine ze ?_;all_goals (first | refine kY 33 ?_ | refine kX (d:=33) rfl (λhg33=>?_) (λhg33=>?_) | refine kW (d:=33) rfl (λhg33=>?_) (λhg33=>?_))
 all_goals refine qi tk3 ?_
 all_goals refine zJ ?_
 all_goals refine p_qI ?_
 all_goals refine xh (d:=36) rfl (hne) ?_
 all_goals refine zF ?_
 all_goals refine zu ?_
 all_goals refine AtT.done ?_
 all_goals refine nrm ?_
 refine zS rfl rfl ?_;refine zb (tT 0 [0,0,1,1,2]) ?_;refine kV tk60 ?_;refine ze ?_;refine zm rfl rfl ok23 (far_f (hb.le (by assumption)) hE to (-1) ht) ?_;rintro _ rfl;rw[<-hdd];refine zW z66 ?_;intro b10;refine storeA rfl trivial rfl rfl tk66 hlen rfl (ivl_all d) (by repeat first|exact Upd.here|apply Upd.there) ?_;refine AtT.dn ?_;refine zb (tT 0 [0,0,0,0]) ?_;refine kV tk3 ?_;refine kidxA Tryz.underlying66 tk3 ?_;refine jM rfl trivial rfl tk3 zo.zg hgf (by decide) ?_;refine qc ?_;refine AtT.dn ?_;refine zI rfl (λhneg=>?_) (λhneg=>?_)
 ·refine zb (tT 0 [0,0]) ?_;refine zu ?_;refine zh ?_;refine At.plain (.inl rfl) rfl ?_;exact ret2 rfl (.tmp rfl) (.tmp rfl) (.inl ⟨hneg,rfl⟩)
 have hpos:0<=d.getD fr.toNat 0:=by omega
 refine jN (b:=b8) zo.zg (λV8 hV8 hb8=>?_);have q8:=zQ hb8;have h8:TbM V8 b a c E:=hb.le (by first | assumption | exact Le.trans (by assumption) (by assumption));refine zb (tT 0 [1]) ?_;refine zW z41 ?_;intro b11;refine AtT.dn ?_;refine xu 72 2 ?_;refine nrm ?_;refine lpD (ι:=ChG) (DS:=λg=>g.Ds.map mkD) (KS:=λg=>[(2,iv to),(4,.pointer (some ⟨b4,0,none⟩)),(8,.pointer (some ⟨b8,0,none⟩)),(10,.pointer (some ⟨b10,0,none⟩)),(11,.pointer (some ⟨b11,0,none⟩))])
  (OS:=λg=>.blk b4 (LC [iv g.x] 3)::.blk b11 (LC [.slice g.ao g.out.length g.co] 41)::.row (.slice g.ao g.out.length g.co) 72 2 g.out.length (flat mpe g.out)::.blk b10 (LC (ivl d) 66)::g.Ds.map dfB)
  (VS:=λg V'=>Le V8 V'/\(0<=g.x/\g.x<F)/\0<=d.getD g.x.toNat 0/\(g.out.length:Int)+d.getD g.x.toNat 0=d.getD fr.toNat 0)
  (μ:=λg=>(d.getD g.x.toNat 0).toNat) ⟨fr,[],[],none,0⟩ rfl ?_ ?_ ?_ ?_
 ·exact⟨rfl,rfl,rfl,rfl,rfl,trivial⟩
 ·exact Pt.zO
 ·exact⟨Le.refl _,hf,hpos,by simp⟩
 rintro⟨x,out,Ds,ao,co⟩ V9 ks' O' ⟨hV9,hx,hdx,hsum⟩ hk hO hl2;dsimp only at hx hdx hsum hk hO;subst hk hO;have h9:=h8.le hV9;have q89:=q8.le hV9;have hhi:=hd.hi x.toNat (by omega);have hhf:=hd.hi fr.toNat (by omega);refine zb (tT 0 [0,0,0]) ?_;refine kV tk3 ?_;refine ze ?_;refine kJ ?_;refine AtT.dn ?_;refine zI rfl (λhc=>?_) (λhc=>?_);rotate_left
 ·have hxt:x=to:=Classical.not_not.1 hc
  subst hxt;have ht0:=hd.t0;refine zb (tT 0 [0,0,0]) ?_;refine kV tk41 ?_;refine zu ?_;refine zh ?_;refine unmarks Ds (.inl rfl) rfl (List.perm_append_comm (l₁:=[_,_,_,_])) ?_;exact ret2 rfl (.tmp rfl) (.tmp rfl) (.inr ⟨hpos,ao,out.length,co,rfl,by omega⟩)
 obtain⟨hd1,p0,hp0,_,hp1⟩:=hd.prd x.toNat (by omega) hdx (by omega);rw[Int.toNat_of_nonneg hx.1]at hp0;have hgx:=ivl_get hd.len hx.1 (by omega);have hlx:=hd.lo x.toNat (by omega);refine zb (tT 0 [0,0,1]) ?_;refine kV tk60 ?_;refine kV tk3 ?_;refine kK rfl rfl ok24 (at_f x) ?_;rintro v50 V50 hV50 ⟨q2,q3',rfl,hq2,hq3⟩;refine AtT.dn ?_;have h50:=h9.le hV50;have q850:=q89.le hV50;refine nrm ?_;refine rangeFuncD (Vi:=V50) (ys:=ysA E x) (ι:=Nat) (λj=>j)
  (λ_=>.blk b4 (LC [iv x] 3)::.blk b11 (LC [.slice ao out.length co] 41)::.row (.slice ao out.length co) 72 2 out.length (flat mpe out)::.blk b10 (LC (ivl d) 66)::Ds.map dfB)
  (λj V'=>Le V50 V'/\∀ p∈(plF E x).take j,d.getD (fnP E p).toNat 0≠d.getD x.toNat 0-1)
  (λc' O' V'=>∃ (p:Mp) (a2:Option Addr) (c2:Nat),c'=.exit 3/\p∈plF E x/\d.getD (fnP E p).toNat 0=d.getD x.toNat 0-1/\Le V50 V'/\O'=.blk b4 (LC [iv (fnP E p)] 3)::.blk b11 (LC [.slice a2 (out.length+1) c2] 41)::.row (.slice a2 (out.length+1) c2) 72 2 (out.length+1) (flat mpe (out++[p]))::.blk b10 (LC (ivl d) 66)::Ds.map dfB)
  rfl ok72 0 rfl ?_ ⟨Le.refl _,λp hp=>by simp at hp⟩ (iterA_f h50 hE x q2 q3' hq2 hq3) (λ_ _ h=>h.1) (by decide) (λy hy=>by obtain⟨j,_,rfl⟩:=List.mem_map.1 hy;rfl) ?_ ?_ ?_
 ·exact Pt.zO
 ·rintro j y l D r V10 ks' O' hy ⟨hV10,hall⟩ hl10 rfl rfl;dsimp only at hy hall⊢;obtain⟨p,hpj,rfl⟩:∃ p,(plF E x)[j]? = some p/\y=[mpv p]:=by
   rw[List.getElem?_map]at hy;cases hpj:(plF E x)[j]? with
   | none=>rw[hpj]at hy;cases hy
   | some p=>rw[hpj]at hy;exact⟨p,rfl,(Option.some.inj hy).symm⟩
  have hpm:=List.mem_of_getElem? hpj
  obtain⟨⟨hps,hpt⟩,hpb⟩:=plF_mem.1 hpm;obtain⟨s,hs'⟩:∃ s,E[p.s]? = some s:=⟨_,List.getElem?_eq_getElem hps⟩;have hfe:fin s p.t=fnP E p:=by unfold fnP;rw[atM_of hs']
  have heb:=fnP_bd hE hpm
  have h10:=h50.le hV10
  have q810:=q850.le hV10
  have hge:=ivl_get hd.len heb.1 (by omega)
  show At _ _ ((51,mpv p)::_) _ _ _
  refine zb (tT 0 [1,2]) ?_;refine zW z72 ?_;intro b12;refine zH tk72 ?_;refine AtT.dn ?_;refine xC zo.zg ?_;refine zb (tT 0 [0,0,1,0,0,0,0,0]) ?_;refine kV tk60 ?_;refine qo tk72 ?_;refine zm rfl rfl ok25 (ends_f h10 p.s p.t s hs') ?_;rintro _ rfl;refine ze ?_;refine zx ?_;refine zx ?_;refine zu ?_;refine zh ?_;rw[hfe];refine nrm ?_;refine xm (tT 0 [0,0,0,0,0,0,0,0]) ffm (by kernel_rfl) ?_;refine ze ?_;refine kidxA Tryz.underlying66 tk3 ?_;refine jM rfl trivial rfl tk3 zo.zg hge (by decide) ?_;refine kV tk3 ?_;refine kidxA Tryz.underlying66 tk3 ?_;refine jM rfl trivial rfl tk3 zo.zg hgx (by decide) ?_;refine k_sb ?_;refine keqI ?_;refine AtT.dn ?_;refine zI rfl (λhc2=>?_) (λhc2=>?_)
  ·refine zb (tT 0 [0,0,1,2,0,2,2]) ?_;refine kV tk41 ?_;refine qo tk72 ?_;refine zy (bs41_1_0 _ _) ?_;intro q68 V68 hV68 hq68;have g68:Le V V68:=by first | exact hV68 | exact Le.trans (by assumption) hV68
   first | refine jq Tryz.underlying41 rw72 ?_
   intro a69 c69;refine ze ?_;first | refine qK tk41 ?_ | refine zH tk41 ?_
   first | refine qK tk3 ?_ | refine zH tk3 ?_
   refine AtT.dn ?_;refine nrm ?_;refine roundX (O':=.blk b4 (LC [iv (fnP E p)] 3)::.blk b11 (LC [.slice a69 (out.length+1) c69] 41)::.row (.slice a69 (out.length+1) c69) 72 2 (out.length+1) (flat mpe (out++[p]))::.blk b10 (LC (ivl d) 66)::Ds.map dfB) ⟨p,a69,c69,rfl,hpm,hc2,hV10.trans (by assumption),rfl⟩ zo.zg ?_;rw[zV];exact Pt.zO
  ·refine nrm ?_;refine roundN (j+1) rfl ⟨hV10,λp' hp'=>?_⟩ zo.zg ?_
   ·rw[List.take_add_one,hpj]at hp';rcases List.mem_append.1 hp' with h1 | h1
    ·exact hall p' h1
    ·obtain rfl:p'=p:=by simpa using h1
     exact hc2
   ·exact Pt.zO
 ·rintro j D V10 O' hj ⟨hV10,hall⟩ hl10 rfl;dsimp only at hj hall⊢;rw[List.length_map]at hj;subst hj;rw[List.take_length]at hall;exact absurd hp1 (hall p0 hp0)
 rintro D c' O' V10 ⟨p,a2,c2,rfl,hpm,hpd,hV10,rfl⟩ hl10;have heb:=fnP_bd hE hpm;refine nrm ?_;refine roundD (cx:={ w0:=w0,V0:=V }) (DS:=λg:ChG=>g.Ds.map mkD) (i:=⟨x,out,Ds,ao,co⟩) (μ:=λg=>(d.getD g.x.toNat 0).toNat) ⟨fnP E p,out++[p],D::Ds,a2,c2⟩ ?_ ?_ rfl ?_ ?_
 ·show(d.getD (fnP E p).toNat 0).toNat<(d.getD x.toNat 0).toNat
  omega
 ·refine⟨(hV9.trans hV50).trans hV10,heb,by dsimp only;omega,?_⟩;dsimp only;rw[List.length_append,List.length_singleton,hpd]
  push_cast
  omega
 ·exact⟨rfl,rfl,rfl,rfl,rfl,trivial⟩
 ·dsimp only;rw[List.length_append,List.length_singleton];exact Pt.zO
theorem chain_yes (hE:MbOk F E) (hs:Sl V mse 2 (.slice a E.length c) E) (fr to:Int) (hf:0<=fr/\fr<F) (ht:0<=to/\to<F) (hne:fr≠to) (h:0<=(farL E to (-1)).getD fr.toNat 0) :
  Fnc Tryz.prog 10 [.agg #[iv F,.slice a E.length c],iv fr,iv to] V λr _=>∃ (a':Option Addr) (m c':Nat),r=.tuple #[.slice a' m c',iv 0]/\(m:Int)=(farL E to (-1)).getD fr.toNat 0:=
 (chain_f hE hs fr to hf ht hne).mono λr V' _ hr=>by
  rcases hr with ⟨h1,_⟩ | ⟨_,h1⟩
  ·omega
  ·exact h1
theorem chain_no (hE:MbOk F E) (hs:Sl V mse 2 (.slice a E.length c) E) (fr to:Int) (hf:0<=fr/\fr<F) (ht:0<=to/\to<F) (hne:fr≠to) (h:(farL E to (-1)).getD fr.toNat 0<0) :
  Fnc Tryz.prog 10 [.agg #[iv F,.slice a E.length c],iv fr,iv to] V λr _=>r=.tuple #[.slice none 0 0,iv 5]:=
 (chain_f hE hs fr to hf ht hne).mono λr V' _ hr=>by
  rcases hr with ⟨_,h1⟩ | ⟨h1,_⟩
  ·exact h1
  ·omega
end
end Go.Proofs.YtnffcfhdnjbdbaaGreatDoor.M
namespace Go.Mt
open Go.Lw Go.Ps
abbrev Pz:=(Option Addr×Nat×Nat)×List Int
abbrev tvz (z:Pz):Value:=.slice z.1.1 z.1.2.1 z.1.2.2
abbrev slz (z:Pz):List Value:=[tvz z]
theorem slz_len (z:Pz):(slz z).length=1:=rfl
theorem flat_slz:∀ l:List Pz,flat slz l=l.map tvz
 | []=>rfl
 | z::l=>by have:=flat_slz l;simp only[flat]at this⊢;simp[slz,this]
theorem slz_at {zs:List Pz} {rest:List Value} {j:Nat} {z:Pz} (h:zs[j]? = some z):(zs.map tvz++rest)[j*1]? = some (tvz z):=by
 have hj:=(List.getElem?_eq_some_iff.1 h).1
 rw[Nat.mul_one,List.getElem?_append_left (by rw[List.length_map];exact hj),List.getElem?_map,h];rfl
theorem slz_set {zs:List Pz} {rest:List Value} {j:Nat} {z:Pz} (h:j<zs.length):SetAt (zs.map tvz++rest) (j*1) (tvz z) ((zs.set j z).map tvz++rest):=
 setAt_of (by rw[List.length_append,List.length_map];omega) (by rw[Nat.mul_one,List.set_append_left _ _ (by rw[List.length_map];exact h),<-List.map_set])
def tch (s u:Ms):Bool:=decide (s.l=u.l) || decide (s.l=u.r) || decide (s.r=u.l) || decide (s.r=u.r)
def tchE (E:List Ms) (i:Nat) (x:Int):Bool:=tch (atM E i) (atM E x.toNat)
theorem tch_symm (s u:Ms):tch s u=tch u s:=by unfold tch;rw[Bool.eq_iff_iff];simp only[Bool.or_eq_true,decide_eq_true_eq];omega
def rgI (n:Nat):List Int:=(List.range n).map λ(j:Nat)=>(j:Int)
theorem rgI_snoc (n:Nat):rgI (n+1)=rgI n++[(n:Int)]:=by unfold rgI;rw[List.range_succ,List.map_append];rfl
theorem rgI_len (n:Nat):(rgI n).length=n:=by unfold rgI;rw[List.length_map,List.length_range]
theorem rgI_at {n j:Nat} (h:j<n):(rgI n)[j]? = some (j:Int):=by unfold rgI;rw[List.getElem?_map,List.getElem?_range h];rfl
structure DelI {α:Type} (np:α->Bool) (zs cur:List α) (i j:Nat):Prop where
 len:cur.length=zs.length
 ij:i<j
 jl:j<=zs.length
 pre:cur.take i=(zs.take j).filter np
 suf:cur.drop j=zs.drop j
section
variable {α:Type} {np:α->Bool} {zs cur:List α} {i j:Nat} {z:α}
theorem DelI.start (h:zs[i]? = some z) (hz:np z=false) (hall:∀ x∈zs.take i,np x=true):DelI np zs zs i (i+1):=by
 have hi:=(List.getElem?_eq_some_iff.1 h).1
 refine⟨rfl,Nat.lt_succ_self _,hi,?_,rfl⟩;rw[List.take_add_one,h,List.filter_append,List.filter_eq_self.2 hall];simp[hz]
theorem DelI.at (h:DelI np zs cur i j) (hj:j<zs.length):cur[j]? = zs[j]?:=by
 have:=congrArg (λl=>l[0]?) h.suf
 simpa [List.getElem?_drop]using this
theorem DelI.out (h:DelI np zs cur i j) (hz:zs[j]? = some z) (hn:np z=false):DelI np zs cur i (j+1):=by
 have hj:=(List.getElem?_eq_some_iff.1 hz).1
 refine⟨h.len,by have:=h.ij;omega,hj,?_,?_⟩
 ·rw[List.take_add_one,hz,List.filter_append,h.pre];simp[hn]
 ·have:=congrArg (λl=>l.drop 1) h.suf
  simpa [List.drop_drop]using this
theorem DelI.keep (h:DelI np zs cur i j) (hz:zs[j]? = some z) (hn:np z=true):DelI np zs (cur.set i z) (i+1) (j+1):=by
 have hj:=(List.getElem?_eq_some_iff.1 hz).1
 have hij:=h.ij
 have hil:i<cur.length:=by rw[h.len];omega
 refine⟨by rw[List.length_set];exact h.len,by omega,hj,?_,?_⟩
 ·have e1:zs.take (j+1)=zs.take j++[z]:=by rw[List.take_add_one,hz];rfl
  have e2:(cur.set i z).take (i+1)=cur.take i++[z]:=by rw[List.take_add_one,List.getElem?_set_self hil,List.take_set_of_le (Nat.le_refl _)];rfl
  rw[e1,e2,List.filter_append,h.pre];simp[hn]
 ·rw[List.drop_set_of_lt (by omega)];have:=congrArg (λl=>l.drop 1) h.suf;simpa [List.drop_drop]using this
theorem DelI.done (h:DelI np zs cur i zs.length):cur.take i=zs.filter np/\i=(zs.filter np).length:=by
 have h1:=h.pre
 rw[List.take_length]at h1;refine⟨h1,?_⟩;rw[<-h1,List.length_take,h.len];have:=h.ij;omega
end
end Go.Mt
namespace Go.Lw
open Go.RowKit
section
variable {cx:Cx} {n:Nat} {ks:List (Nat×Value)} {O O' R R':List Own} {V:View} {P:Program} {ops:Array Oper} {Qn:Act->World->Prop} {t:Tr} {i d:Nat} {T:TypeId} {pos:String} {after:Array Edge} {gd:Option (Nat×Bool)} {x y z:Operand} {u v:Value} {wr:Bool}
theorem slVH {X:TypeId} {u h:Value} {hi':Operand} (ho:ops[i]? = some ⟨some d,.slice X x none (some hi') none,T,pos,after,gd⟩) (hg:Gd ks ops gd) (hx:ev ks x=some v) (hh:ev ks hi'=some h) (hr:∀ w,(Instr.sliceAt X v none (some h) none).run P w=.ok u w) (hn:d<n)
  (next:AtT cx n ((d,u)::ks) O V P ops Qn t):AtT cx n ks O V P ops Qn (.q i t):=
 .q ho hg rfl hn (λa w hk _=>by simp[execOp,hk.ev hx,hk.ev hh,hr,goInt,Sem.run_bind]) next
end
end Go.Lw
namespace Go.Lw
open Go.Instr Go.RowKit
abbrev sT (l:List UInt8):Value:=.string ⟨l.toArray⟩
abbrev stL (l:List UInt8):List Value:=[sT l]
theorem sT_inj {a b:List UInt8} : (⟨a.toArray⟩:ByteArray)=⟨b.toArray⟩↔a=b:=⟨λh=>congrArg bt h,λh=>by rw[h]⟩
section
variable {cx:Cx} {n:Nat} {ks:List (Nat×Value)} {O R:List Own} {V:View} {P:Program} {ops:Array Oper} {Qn:Act->World->Prop} {t:Tr} {i d:Nat} {x y:Operand} {T:TypeId} {pos:String} {after:Array Edge} {gd:Option (Nat×Bool)} {X Y:TypeId} {wr:Bool}
theorem Zf {a b:List UInt8} (ho:ops[i]? = some ⟨some d,.binOp .eql X x y Y,T,pos,after,gd⟩) (hg:Gd ks ops gd) (hx:ev ks x=some (sT a)) (hy:ev ks y=some (sT b)) (hn:d<n)
  (next:AtT cx n ((d,.bool (decide (a=b)))::ks) O V P ops Qn t):AtT cx n ks O V P ops Qn (.q i t):=
 eqStr ho hg hx hy hn (by rw[show decide ((⟨a.toArray⟩:ByteArray)=⟨b.toArray⟩)=decide (a=b)from decide_eq_decide.2 sT_inj];exact next)
end
section
variable {cx:Cx} {n:Nat} {ks:List (Nat×Value)} {O R:List Own} {V:View} {P:Program} {ops:Array Oper} {Qn:Act->World->Prop} {t:Tr} {i d:Nat} {x y:Operand} {T:TypeId} {pos:String} {after:Array Edge} {gd:Option (Nat×Bool)} {X Y Z:TypeId} {wr:Bool} {p q:Int} {v:Value}
theorem slVL {u l:Value} {lo':Operand} (ho:ops[i]? = some ⟨some d,.slice X x (some lo') none none,T,pos,after,gd⟩) (hg:Gd ks ops gd) (hx:ev ks x=some v) (hl:ev ks lo'=some l) (hr:∀ w,(Instr.sliceAt X v (some l) none none).run P w=.ok u w) (hn:d<n)
  (next:AtT cx n ((d,u)::ks) O V P ops Qn t):AtT cx n ks O V P ops Qn (.q i t):=
 .q ho hg rfl hn (λa w hk hm=>by simp only[execOp,hk.ev hx,hk.ev hl,Option.map_none,Option.map_some,Sem.run_bind,hr,Result.andThen_ok,Sem.run_pure]) next
end
end Go.Lw
namespace Go.Proofs.YtnffcfhdnjbdbaaGreatDoor.M
open Go.Lw Go.Ps Go.Mt Go.RowKit
open Go.Gl (iv ivs zV)
open P (jF)
section
variable {V:View} {b:Nat} {a:Option Addr} {c:Nat} {E:List Ms}
theorem all_f (h:TbM V b a c E) (hn:E.length<=10):Fnc Tryz.prog 21 [.pointer (some ⟨b,0,none⟩)] V λr V'=>SlI V' r (rgI E.length):=by
 have hsl:=h.sl
 have hv:jb V ⟨b,0+0+1,none⟩=some (.slice a E.length c):=h.sh
 refine zG Tryz.func21 rfl Tryz.ntmps21 (Nat.le_of_ble_eq_true rfl) ?_;intro w0 hw0;refine zb (tT 0 [0]) ?_;refine ax (tT 0 [0]) ?_;refine ax (tT 0 [0,0,0,0,0,0,0]) ?_;refine ze ?_;refine jh ?_;refine zw fo114_0 ?_;refine zw fo32_1 ?_;refine AtT.load rfl trivial rfl tk30 hv (by decide) ?_;refine zZ Tryz.underlying30 ?_;refine ze ?_;refine AtT.dn ?_;refine xu 3 1 ?_;refine xc (ι:=Nat×Option Addr×Nat) (KS:=λg=>[(3,.slice g.2.1 g.1 g.2.2),(10,iv E.length),(11,iv g.1)]) (OS:=λg=>[.row (.slice g.2.1 g.1 g.2.2) 3 1 g.1 (flat ei (rgI g.1))])
  (VS:=λg V'=>Le V V'/\g.1<=E.length) (μ:=λg=>E.length-g.1) (0,none,0) ?_ ?_ ?_ ?_
 ·exact⟨rfl,rfl,rfl,trivial⟩
 ·exact Pt.zg
 ·exact⟨Le.refl _,Nat.zero_le _⟩
 rintro⟨k,a0,c0⟩ V' ks' O' ⟨hVV,hkl⟩ hk hO hl;dsimp only at hkl hk hO;subst hk hO;refine zb (tT 0 [0]) ?_;refine qc ?_;refine AtT.dn ?_;refine zI rfl (λhp=>?_) (λhp=>?_);rotate_left
 ·obtain rfl:k=E.length:=by omega
  refine zb (tT 0 [0,0]) ?_;refine ze ?_;refine zh ?_;refine xw (l:=rgI E.length) Lw.jP rfl (rgI_len _).symm zo.zg (λV4 hV4 hs4=>?_);exact zL rfl (.tmp rfl) hs4
 refine zb (tT 0 [0,0]) ?_;refine ze ?_;refine zh ?_;refine zb (tT 0 [0,0,1,2,0]) ?_;refine ze ?_;refine ze ?_;refine zy (zR _) ?_;intro q16 V16 hV16 hq16;have g16:Le V V16:=by first | exact hV16 | exact Le.trans (by assumption) hV16
 first | refine jq Tryz.underlying34 rw3 ?_
 intro a17 c17;refine zh ?_;refine zb (tT 0 [0,0]) ?_;refine zM ?_;refine ze ?_;refine AtT.dn ?_;refine At.round (k+1,a17,c17) ?_ ?_ ?_ ?_
 ·show E.length-(k+1)<E.length-k;omega
 ·exact⟨hVV.trans (by assumption),by dsimp only;omega⟩
 ·exact⟨rfl,rfl,ivs (by dsimp only;omega),trivial⟩
 ·dsimp only;rw[rgI_snoc,zV];exact Pt.zg
theorem touch_f (h:TbM V b a c E) (i k:Nat) (s u:Ms) (hs:E[i]? = some s) (hu:E[k]? = some u):Fnc Tryz.prog 67 [.pointer (some ⟨b,0,none⟩),iv i,iv k] V λr _=>r=.bool (tch s u):=by
 have hsl:=h.sl
 have hlen:=hsl.jC
 have hi:=(List.getElem?_eq_some_iff.1 hs).1
 have hk:=(List.getElem?_eq_some_iff.1 hu).1
 have hv:jb V ⟨b,0+0+1,none⟩=some (.slice a E.length c):=h.sh
 refine zG Tryz.func67 rfl Tryz.ntmps67 (Nat.le_of_ble_eq_true rfl) ?_;intro w0 hw0;refine zb (tT 0 [0]) ?_;refine zh ?_;refine cutG (ι:=Nat×Nat) (λg=>[(7,.pointer (some ⟨g.1,0,none⟩)),(8,.pointer (some ⟨g.2,0,none⟩))]) (λg=>[.blk g.1 (LC [iv s.l,iv s.r] 36),.blk g.2 (LC [iv u.l,iv u.r] 36)]) (λ_ V'=>V'=V) ?_ ?_
 ·refine xm (.q 0 (.q 1 (.q 2 (.q 3 (.q 4 (.q 5 (.q 6 (.q 7 (.q 8 (.q 9 (.q 10 (.q 11 (.q 12 (.q 13 (.q 14 (.q 15 (Tr.al 2 [16,17] (.n false 18 (.n false 19 .done))))))))))))))))))) ffm (by kernel_rfl) ?_;refine AtC.start ?_;refine AtC.pre (λhle0=>?_);refine xg (hp:=Pt.zO) (by(refine ze ?_);exact xe) ?_;refine xg (hp:=Pt.zO) (by(refine jh ?_);exact xe) ?_;refine xg (hp:=Pt.zO) (by(refine zw fo114_0 ?_);exact xe) ?_;refine xg (hp:=Pt.zO) (by(refine zw fo32_1 ?_);exact xe) ?_;refine xg (hp:=Pt.zO) (by(refine AtT.load rfl trivial rfl tk30 hv (by decide) ?_);exact xe) ?_;refine xg (hp:=Pt.zO) (by(refine ze ?_);exact xe) ?_;refine xH (hp:=Pt.zO) Tryz.underlying30 tk36 ?_;intro p15 e15 he15 hc15;obtain rfl:=qx hs he15;refine xg (hp:=Pt.zO) (by(refine qo tk36 ?_);exact xe) ?_;refine xg (hp:=Pt.zO) (by(refine ze ?_);exact xe) ?_;refine xg (hp:=Pt.zO) (by(refine jh ?_);exact xe) ?_;refine xg (hp:=Pt.zO) (by(refine zw fo114_0 ?_);exact xe) ?_;refine xg (hp:=Pt.zO) (by(refine zw fo32_1 ?_);exact xe) ?_;refine xg (hp:=Pt.zO) (by(refine AtT.load rfl trivial rfl tk30 hv (by decide) ?_);exact xe) ?_;refine xg (hp:=Pt.zO) (by(refine ze ?_);exact xe) ?_;refine xH (hp:=Pt.zO) Tryz.underlying30 tk36 ?_;intro p23 e23 he23 hc23;obtain rfl:=qx hu he23;refine xg (hp:=Pt.zO) (by(refine qo tk36 ?_);exact xe) ?_;refine xS ⟨⟨_,_,_,_,rfl,z36,rfl,by decide⟩,⟨_,_,_,_,rfl,z36,rfl,by decide⟩,trivial⟩ (by decide) (by decide) (sub1 Pt.zg (by first | exact Le.refl _ | assumption | exact Le.trans (by assumption) (by assumption)) (by assumption)) ?_;intro b7 b8;refine nz ?_;refine zH tk36 ?_;refine kgo (hp:=Pt.zO) ?_;refine nz ?_;refine zH tk36 ?_;refine kgo (hp:=Pt.zO) ?_;refine AtC.done ?_;refine nrm ?_;all_goals (exact qH (b7,b8) rfl ⟨rfl,rfl,trivial⟩ Pt.zg)
 rintro⟨b7,b8⟩ V2 ks' O' rfl hk' hO hl;dsimp only at hk' hO;subst hk' hO;refine zb (tT 0 [0,0,0,0,0,0,0,0,0,0,0,0,0,0,0,0,0,0,0,0,0,0,0,0,0,0,0]) ?_;refine zw fo36_0 ?_;refine kV tk3 ?_;refine zw fo36_0 ?_;refine kV tk3 ?_;refine keqI ?_;refine ze ?_;all_goals (first | refine kY 30 ?_ | refine kX (d:=30) rfl (λhg30=>?_) (λhg30=>?_) | refine kW (d:=30) rfl (λhg30=>?_) (λhg30=>?_))
 all_goals refine ja fo36_0 ?_
 all_goals refine qi tk3 ?_
 all_goals refine ja fo36_1 ?_
 all_goals refine qi tk3 ?_
 all_goals refine p_qI ?_
 all_goals refine zF ?_
 all_goals refine ze ?_
 all_goals (first | refine kY 37 ?_ | refine kX (d:=37) rfl (λhg37=>?_) (λhg37=>?_) | refine kW (d:=37) rfl (λhg37=>?_) (λhg37=>?_))
 all_goals refine ja fo36_1 ?_
 all_goals refine qi tk3 ?_
 all_goals refine ja fo36_0 ?_
 all_goals refine qi tk3 ?_
 all_goals refine p_qI ?_
 all_goals refine zF ?_
 all_goals refine ze ?_
 all_goals (first | refine kY 44 ?_ | refine kX (d:=44) rfl (λhg44=>?_) (λhg44=>?_) | refine kW (d:=44) rfl (λhg44=>?_) (λhg44=>?_))
 all_goals refine ja fo36_1 ?_
 all_goals refine qi tk3 ?_
 all_goals refine ja fo36_1 ?_
 all_goals refine qi tk3 ?_
 all_goals refine p_qI ?_
 all_goals refine zF ?_
 all_goals refine zu ?_
 all_goals refine AtT.done ?_
 all_goals refine nrm ?_
 all_goals (exact zL rfl (.tmp rfl) (by simp[tch, *]))
theorem touch1_f (h:TbM V b a c E) (i:Nat) (hi:i<E.length) (q1 q2:Addr) (h1:Cells V q1 [.pointer (some ⟨b,0,none⟩)]) (h2:Cells V q2 [iv i]) (x:Int) (hx:0<=x/\x<(E.length:Int)):Fnc Tryz.prog 66 ([]++[iv x]++[.pointer (some q1),.pointer (some q2)]) V λr _=>r=.bool (tchE E i x):=by obtain⟨k,rfl⟩:∃ k:Nat,x=(k:Int):=⟨x.toNat,by omega⟩;obtain⟨s,hs⟩:∃ s,E[i]? = some s:=⟨_,List.getElem?_eq_getElem hi⟩;obtain⟨u,hu⟩:∃ u,E[k]? = some u:=⟨_,List.getElem?_eq_getElem (by omega)⟩;refine zG Tryz.func66 rfl Tryz.ntmps66 (Nat.le_of_ble_eq_true rfl) ?_;intro w0 hw0;refine zb (tT 0 [0]) ?_;refine ax (tT 0 [0,0,0,1,0]) ?_;refine kV tk60 ?_;refine kV tk3 ?_;refine ze ?_;refine zm rfl rfl ok67 (touch_f h i k s u hs hu) ?_;rintro _ rfl;refine zh ?_;exact zL rfl (.tmp rfl) (by unfold tchE;rw[atM_of hs,Int.toNat_natCast,atM_of hu])
theorem hangs_f (h:TbM V b a c E) (i:Nat) (hi:i<E.length) (q1 q2:Addr) (h1:Cells V q1 [.pointer (some ⟨b,0,none⟩)]) (h2:Cells V q2 [iv i]) (z:Pz) (hz:SlI V (tvz z) z.2) (hzb:∀ x∈z.2,0<=x/\x<(E.length:Int)):Fnc Tryz.prog 65 ([]++[tvz z]++[.pointer (some q1),.pointer (some q2)]) V λr _=>r=.bool (z.2.any (tchE E i)):=by refine zG Tryz.func65 rfl Tryz.ntmps65 (Nat.le_of_ble_eq_true rfl) ?_;intro w0 hw0;refine zb (tT 0 [0]) ?_;refine ax (tT 0 [0,0,1,0]) ?_;refine ze ?_;refine kfn ?_;refine zm rfl rfl ok16 (jF 66 [.pointer (some q1),.pointer (some q2)] (tchE E i) V (tvz z) z.2 hz ok66 (λx hx=>touch1_f h i hi q1 q2 h1 h2 x (hzb x hx))) ?_;rintro _ rfl;refine zh ?_;exact zL rfl (.tmp rfl) rfl
end
theorem indexZ_f {cx:Cx} {O:List Own} {V:View} (g:FuncId) (cap:List Value) (p:Pz->Bool) (zs:List Pz) (rest:List Value) (b c:Nat) (hl:zs.length<=1000) (hok:zi Tryz.prog g)
  (hc:∀ V',Le V V'->∀ z∈zs,Fnc Tryz.prog g ([]++[tvz z]++cap) V' (λv _=>v=.bool (p z))) :
  FncM Tryz.prog cx 122 [.slice (some ⟨b,0,none⟩) zs.length c,.func (.func g) #[] cap.toArray] (.blk b (LC (zs.map tvz++rest) 34)::O) V λr O' V'=>Le V V'/\O'=.blk b (LC (zs.map tvz++rest) 34)::O/\
   ((r=iv (-1)/\∀ x∈zs,p x=false)\/∃ (k:Nat) (z:Pz),r=iv k/\zs[k]? = some z/\p z=true/\∀ x∈zs.take k,p x=false):=by
 refine fncM_of Tryz.func122 rfl Tryz.ntmps122 (Nat.le_of_ble_eq_true rfl) ?_;refine zb (tT 0 [0]) ?_;refine ax (tT 0 [0,0,0]) ?_;refine ze ?_;refine zZ Tryz.underlying37 ?_;refine ze ?_;refine AtT.dn ?_;refine xc (ι:=Nat) (KS:=λk=>[(0,.slice (some ⟨b,0,none⟩) zs.length c),(1,.func (.func g) #[] cap.toArray),(7,iv zs.length),(8,iv k)]) (OS:=λ_=>.blk b (LC (zs.map tvz++rest) 34)::O)
  (VS:=λk V'=>Le V V'/\k<=zs.length/\∀ x∈zs.take k,p x=false) (μ:=λk=>zs.length-k) 0 ?_ ?_ ?_ ?_
 ·exact⟨rfl,rfl,rfl,rfl,trivial⟩
 ·exact Pt.zO
 ·exact⟨Le.refl _,Nat.zero_le _,λx hx=>by simp at hx⟩
 rintro k V' ks' O' ⟨hVV,hkl,hall⟩ hk hO hl2;subst hk hO;refine zb (tT 0 [0]) ?_;refine qc ?_;refine AtT.dn ?_;refine zI rfl (λhp=>?_) (λhp=>?_);rotate_left
 ·obtain rfl:k=zs.length:=by omega
  rw[List.take_length]at hall;refine zb (tT 0 [0]) ?_;refine zh ?_;exact retM1 rfl (.tmp rfl) ⟨hVV,rfl,.inl ⟨rfl,hall⟩⟩
 obtain⟨z,hz⟩:∃ z,zs[k]? = some z:=⟨_,List.getElem?_eq_getElem (by omega)⟩;have hat:=slz_at (rest:=rest) hz;refine zb (tT 0 [0,0]) ?_;refine ze ?_;refine zh ?_;refine zb (tT 0 [0,0,0,0,0,1]) ?_;refine ze ?_;refine ze ?_;refine ze ?_;refine idxZ rfl trivial Tryz.underlying37 qp rfl rfl (by omega) (by decide) ?_;refine jM rfl trivial rfl qp zo.zg hat (by decide) ?_;refine jD rfl rfl rfl hok (hc _ hVV z (List.mem_of_getElem? hz)) ?_;rintro _ rfl;refine AtT.dn ?_;refine At.cond rfl (λhb=>?_) (λhb=>?_)
 ·refine zb (tT 0 [0,0]) ?_;refine ze ?_;refine zh ?_;exact retM1 rfl (.tmp rfl) ⟨hVV,rfl,.inr ⟨k,z,rfl,hz,hb,hall⟩⟩
 ·refine zb (tT 0 [0,0]) ?_;refine zM ?_;refine ze ?_;refine AtT.dn ?_;refine At.round (k+1) ?_ ?_ ?_ ?_
  ·show zs.length-(k+1)<zs.length-k;omega
  ·refine⟨hVV,by omega,λx hx=>?_⟩;rw[List.take_add_one,hz]at hx;rcases List.mem_append.1 hx with h1 | h1
   ·exact hall x h1
   ·obtain rfl:x=z:=by simpa using h1
    exact hb
  ·exact⟨rfl,rfl,rfl,ivs (by omega),trivial⟩
  ·exact Pt.zO
theorem index0_f {V:View} (g:FuncId) (cap:List Value):Fnc Tryz.prog 122 [.slice none 0 0,.func (.func g) #[] cap.toArray] V λr _=>r=iv (-1):=by
 refine zG Tryz.func122 rfl Tryz.ntmps122 (Nat.le_of_ble_eq_true rfl) ?_;intro w0 hw0;refine zb (tT 0 [0]) ?_;refine ax (tT 0 [0,0,0]) ?_;refine ze ?_;refine zZ Tryz.underlying37 ?_;refine ze ?_;refine AtT.dn ?_;refine xc (ι:=Unit) (KS:=λ_=>[(7,iv 0),(8,iv 0)]) (OS:=λ_=>[]) (VS:=λ_ V'=>V'=V) (μ:=λ_=>0) () ?_ ?_ ?_ ?_
 ·exact⟨rfl,rfl,trivial⟩
 ·exact Pt.zg
 ·rfl
 rintro _ V2 ks' O' rfl hk hO hl3;subst hk hO;refine zb (tT 0 [0]) ?_;refine qc ?_;refine AtT.dn ?_;refine zS rfl rfl ?_;refine zb (tT 0 [0]) ?_;refine zh ?_;exact zL rfl (.tmp rfl) rfl
theorem del_f {cx:Cx} {O:List Own} {V:View} (g:FuncId) (cap:List Value) (p:Pz->Bool) (zs:List Pz) (a0:Option Addr) (c:Nat) (hl:zs.length<=1000) (hok:zi Tryz.prog g)
  (hc:∀ V',Le V V'->∀ z∈zs,Fnc Tryz.prog g ([]++[tvz z]++cap) V' (λv _=>v=.bool (p z))) :
  FncM Tryz.prog cx 68 [.slice a0 zs.length c,.func (.func g) #[] cap.toArray] (.row (.slice a0 zs.length c) 34 1 zs.length (flat slz zs)::O) V λr O' V'=>Le V V'/\∃ a' c',r=.slice a' (zs.filter λz=>!p z).length c'/\
   O'=.row (.slice a' (zs.filter λz=>!p z).length c') 34 1 (zs.filter λz=>!p z).length (flat slz (zs.filter λz=>!p z))::O:=by
 refine fncM_of Tryz.func68 rfl Tryz.ntmps68 (Nat.le_of_ble_eq_true rfl) ?_;refine zb (tT 0 [0]) ?_;refine zh ?_;refine rowSplit (v:=.slice a0 zs.length c) zo.here (λh1 h2 _=>?_) (λb cp rest hv hlc hcm hln=>?_)
 ·injection h1 with e1 _ e3;subst e1 e3;obtain rfl:zs=[]:=List.eq_nil_of_length_eq_zero h2;refine zP (tT 0 [0,0,1,0]) ?_;refine ze ?_;refine ze ?_;refine zm rfl rfl ok122 (index0_f g cap) ?_;rintro _ rfl;refine zh ?_;refine zb (tT 0 [0,0]) ?_;refine ze ?_;refine keqI ?_;refine AtT.dn ?_;refine ql rfl rfl ?_;refine zb (tT 0 [0,0]) ?_;refine ze ?_;refine zh ?_;refine xu 34 1 ?_;exact retM1 rfl (.tmp rfl) ⟨Le.refl _,none,0,rfl,rfl⟩
 injection hv with e1 _ e3;subst e1 e3;rw[flat_slz]at hln⊢;refine zP (tT 0 [0,0,2,0]) ?_;refine ze ?_;refine ze ?_;refine callM rfl trivial rfl ok122 (by decide) (List.Perm.refl _) (indexZ_f g cap p zs rest b c hl hok hc) ?_;rintro v10 _ V10 ⟨hV10,rfl,hix⟩;refine zh ?_;rcases hix with ⟨rfl,hall⟩ | ⟨k,z,rfl,hz,hpz,hall⟩
 ·have hf:(zs.filter λz=>!p z)=zs:=List.filter_eq_self.2 λx hx=>by rw[hall x hx];rfl
  refine zb (tT 0 [0,0]) ?_;refine ze ?_;refine keqI ?_;refine AtT.dn ?_;refine ql rfl rfl ?_;refine zb (tT 0 [0,0]) ?_;refine ze ?_;refine zh ?_;refine At.blkRow (m:=zs.length) (cap:=c) (s:=1) zo.here hln (by rw[List.length_map,Nat.mul_one]) hlc hcm ?_;exact retM1 rfl (.tmp rfl) ⟨hV10,_,c,by rw[hf],by rw[hf,flat_slz]⟩
 have hkl:=(List.getElem?_eq_some_iff.1 hz).1
 refine zb (tT 0 [0,0]) ?_;refine ze ?_;refine keqI ?_;refine AtT.dn ?_;refine zS rfl (decide_eq_false (by omega)) ?_;refine zb (tT 0 [0,0,0]) ?_;refine ze ?_;refine zM ?_;refine zh ?_;refine nrm ?_;refine xc (ι:=Nat×List Pz×Nat) (KS:=λg'=>[(0,.slice (some ⟨b,0,none⟩) zs.length c),(1,.func (.func g) #[] cap.toArray),(5,iv g'.1),(6,iv g'.2.2)]) (OS:=λg'=>.blk b (LC (g'.2.1.map tvz++rest) 34)::O)
  (VS:=λg' V'=>Le V10 V'/\DelI (λz=>!p z) zs g'.2.1 g'.1 g'.2.2) (μ:=λg'=>zs.length-g'.2.2) (k,zs,k+1) ?_ ?_ ?_ ?_
 ·exact⟨rfl,rfl,rfl,ivs (by dsimp only;omega),trivial⟩
 ·exact Pt.zO
 ·exact⟨Le.refl _,DelI.start hz (by rw[hpz];rfl) λx hx=>by rw[hall x hx];rfl⟩
 rintro⟨i,cur,j⟩ V' ks' O' ⟨hVV,hD⟩ hk hO hl2;dsimp only at hD hk hO;subst hk hO;have hij:=hD.ij;have hjl:=hD.jl;have hcl:=hD.len;refine zb (tT 0 [0,0,0,0]) ?_;refine ze ?_;refine ze ?_;refine zZ Tryz.underlying37 ?_;refine qc ?_;refine AtT.dn ?_;refine zI rfl (λhp=>?_) (λhp=>?_)
 ·obtain⟨y,hy⟩:∃ y,zs[j]? = some y:=⟨_,List.getElem?_eq_getElem (by omega)⟩;have hyc:cur[j]? = some y:=by rw[hD.at (by omega)];exact hy
  have hat:=slz_at (rest:=rest) hyc
  have hset:=slz_set (zs:=cur) (rest:=rest) (j:=i) (z:=y) (by omega)
  refine zb (tT 0 [0,0,0,0,0]) ?_;refine ze ?_;refine ze ?_;refine idxZ rfl trivial Tryz.underlying37 qp rfl rfl (by omega) (by decide) ?_;refine jM rfl trivial rfl qp zo.zg hat (by decide) ?_;refine zh ?_;refine zb (tT 0 [0,0,1,0]) ?_;refine ze ?_;refine ze ?_;refine jD rfl rfl rfl hok (hc _ (hV10.trans hVV) y (List.mem_of_getElem? hy)) ?_;rintro _ rfl;refine xn ?_;refine AtT.dn ?_;refine At.cond rfl (λhb=>?_) (λhb=>?_)
  ·refine zb (tT 0 [0,0,0,0,2]) ?_;refine ze ?_;refine ze ?_;refine ze ?_;refine idxZ rfl trivial Tryz.underlying37 qp rfl rfl (by omega) (by decide) ?_;refine store1 rfl trivial rfl rfl qp rfl rfl (by repeat first|exact Upd.here|apply Upd.there) hset ?_;refine AtT.dn ?_;refine zb (tT 0 [0,0,0]) ?_;refine ze ?_;refine zM ?_;refine zh ?_;refine zb (tT 0 [0,0,0]) ?_;refine ze ?_;refine zM ?_;refine zh ?_;refine At.round (i+1,cur.set i y,j+1) ?_ ?_ ?_ ?_
   ·show zs.length-(j+1)<zs.length-j;omega
   ·exact⟨hVV,hD.keep hy hb⟩
   ·exact⟨rfl,rfl,ivs (by dsimp only;omega),ivs (by dsimp only;omega),trivial⟩
   ·exact Pt.zO
  ·refine zb (tT 0 [0,0,0]) ?_;refine ze ?_;refine zM ?_;refine zh ?_;refine At.round (i,cur,j+1) ?_ ?_ ?_ ?_
   ·show zs.length-(j+1)<zs.length-j;omega
   ·exact⟨hVV,hD.out hy hb⟩
   ·exact⟨rfl,rfl,rfl,ivs (by dsimp only;omega),trivial⟩
   ·exact Pt.zO
 obtain rfl:j=zs.length:=by omega
 obtain⟨hd1,hd2⟩:=hD.done;obtain⟨m,hm⟩:∃ m,zs.length=i+(m+1):=⟨zs.length-i-1,by omega⟩;have hlen:(cur.map tvz++rest).length=zs.length+rest.length:=by rw[List.length_append,List.length_map,hcl]
 have hsl:∀ w,(Instr.sliceAt 37 (.slice (some ⟨b,0,none⟩) zs.length c) (some (iv i)) none none).run Tryz.prog w=.ok (.slice (some ⟨b,i,none⟩) (m+1) (c-i)) w:=λw=>by
  have hX':Tryz.prog.underlying 37=some (.slice (Tryz.prog.elem 37)):=by simp[Program.elem,Tryz.underlying37]
  have hEl:Tryz.prog.elem 37=34:=by simp[Program.elem,Tryz.underlying37]
  rw[run_sliceAt_slice w 37 _ _ _ _ hX',run_slice_l w 37 (some ⟨b,0,none⟩) zs.length c hX' .i64 i (by omega) (by omega),hEl,Go.Lw.run_sizeOf qp];simp only[Result.andThen_ok,Int.toNat_natCast,sliced,Nat.mul_one];rw[if_neg (by omega),show zs.length-i=m+1 by omega];simp[Addr.add_lit]
 have hsh:∀ w,(Instr.sliceAt 37 (.slice (some ⟨b,0,none⟩) zs.length c) none (some (iv i)) none).run Tryz.prog w=.ok (.slice (some ⟨b,0,none⟩) i c) w:=λw=>by
  have hX':Tryz.prog.underlying 37=some (.slice (Tryz.prog.elem 37)):=by simp[Program.elem,Tryz.underlying37]
  have hEl:Tryz.prog.elem 37=34:=by simp[Program.elem,Tryz.underlying37]
  rw[run_sliceAt_slice w 37 _ _ _ _ hX',run_slice_h w 37 (some ⟨b,0,none⟩) zs.length c hX' .i64 i (by omega) (by omega),hEl,Go.Lw.run_sizeOf qp];simp only[Result.andThen_ok,Int.toNat_natCast,sliced,Nat.zero_mul,Nat.sub_zero];rw[if_neg (by omega)];simp[Addr.add_lit]
 obtain⟨us,hus⟩:∃ us,us=(Builtin.zeroCells (Value.slice none 0 0).cells (m+1)).toList:=⟨_,rfl⟩;have hul:us.length=m+1:=by rw[hus,Array.length_toList,size_zeroCells];simp[Value.cells]
 have hua:us.all Value.oneCell'=true:=by rw[hus,List.all_eq_true];intro x hx;rw[Array.mem_toList_iff]at hx;unfold Builtin.zeroCells at hx;obtain⟨j,_,rfl⟩:=Array.mem_map.1 hx;show Value.oneCell' ((#[Value.slice none 0 0]:Array Value)[j % 1]!)=true;rw[Nat.mod_one];rfl
 refine zb (tT 0 [0,0,0,2]) ?_;refine ze ?_;refine ze ?_;refine slVL rfl trivial rfl rfl hsl (by decide) ?_;refine clearAt rfl trivial Tryz.underlying37 z34 rfl hus.symm (by omega) hua rfl (by repeat first|exact Upd.here|apply Upd.there) ?_ (cs:=cur.map tvz++rest) (us:=us) (m:=m);refine AtT.dn ?_;refine zb (tT 0 [0,0,0,0]) ?_;refine ze ?_;refine ze ?_;refine slVH rfl trivial rfl rfl hsh (by decide) ?_;refine zh ?_;have e1:(cur.map tvz++rest).take i=(zs.filter λz=>!p z).map tvz:=by rw[List.take_append_of_le_length (by rw[List.length_map];omega),<-List.map_take,hd1]
 have hln':=hln
 rw[List.length_append,List.length_map]at hln';rw[e1,List.append_assoc];refine At.blkRow (m:=(zs.filter λz=>!p z).length) (cap:=c) (s:=1) zo.here ?_ (by rw[List.length_map,Nat.mul_one]) (by omega) hcm ?_
 ·rw[List.length_append,List.length_append,List.length_map,List.length_drop,hlen];omega
 refine retM1 rfl (.tmp rfl) ⟨hV10.trans hVV,some ⟨b,0,none⟩,c,by rw[<-hd2],by rw[flat_slz]⟩
end Go.Proofs.YtnffcfhdnjbdbaaGreatDoor.M
namespace Go.Mt
open Go.Lw Go.Ps
theorem swapZ_perm {α:Type} {l:List α} {k:Nat} {x y:α} (hk:0<k) (hx:l[k-1]? = some x) (hy:l[k]? = some y):((l.set k x).set (k-1) y).Perm l:=by
 obtain⟨k,rfl⟩:∃ j,k=j+1:=⟨k-1,by omega⟩;rw[Nat.add_sub_cancel]at hx⊢;obtain⟨h1,rfl⟩:=List.getElem?_eq_some_iff.1 hx;obtain⟨h2,rfl⟩:=List.getElem?_eq_some_iff.1 hy;have e:l=l.take k++l[k]::l[k+1]::l.drop (k+2):=by
  conv=>lhs;rw[<-List.take_append_drop k l,List.drop_eq_getElem_cons h1,List.drop_eq_getElem_cons h2]
 have e2:(l.set (k+1) l[k]).set k l[k+1]=l.take k++l[k+1]::l[k]::l.drop (k+2):=by
  apply List.ext_getElem?;intro i;have ht:(l.take k).length=k:=by rw[List.length_take];omega
  rw[List.getElem?_set,List.getElem?_set,List.length_set];by_cases c1:k=i
  ·subst c1;rw[if_pos rfl,if_pos h1,List.getElem?_append_right (by omega),ht,Nat.sub_self];rfl
  rw[if_neg c1];by_cases c2:k+1=i
  ·subst c2;rw[if_pos rfl,if_pos h2,List.getElem?_append_right (by omega),ht,Nat.add_sub_cancel_left];rfl
  rw[if_neg c2];by_cases c3:i<k
  ·rw[List.getElem?_append_left (by omega),List.getElem?_take,if_pos c3]
  ·obtain⟨j,rfl⟩:∃ j,i=k+2+j:=⟨i-(k+2),by omega⟩;rw[List.getElem?_append_right (by omega),ht,show k+2+j-k=j+1+1 by omega,List.getElem?_cons_succ,List.getElem?_cons_succ,List.getElem?_drop]
 rw[e2]
 conv=>rhs;rw[e]
 exact(List.Perm.swap _ _ _).append_left _
end Go.Mt
namespace Go.Proofs.YtnffcfhdnjbdbaaGreatDoor.M
open Go.Lw Go.Ps Go.Mt Go.RowKit
open Go.Gl (iv ivs zV)
structure ZOk (V:View) (z:Pz):Prop where
 sl:SlI V (tvz z) z.2
 ne:z.2≠[]
 bd:∀ x∈z.2,0<=x/\x<10
theorem ZOk.le {V V':View} {z:Pz} (h:ZOk V z) (hl:Le V V'):ZOk V' z:=⟨h.sl.le hl,h.ne,h.bd⟩
section
variable {V:View}
theorem cmp_f (z y:Pz) (hz:ZOk V z) (hy:ZOk V y):Fnc Tryz.prog 70 ([]++[tvz z,tvz y]++[]) V λr _=>∃ d:Int,r=iv d:=by
 have s1:=hz.sl
 have s2:=hy.sl
 obtain⟨x1,l1,e1⟩:∃ x l,z.2=x::l:=by
  cases h:z.2 with
  | nil=>exact absurd h hz.ne
  | cons x l=>exact⟨x,l,rfl⟩
 obtain⟨x2,l2,e2⟩:∃ x l,y.2=x::l:=by
  cases h:y.2 with
  | nil=>exact absurd h hy.ne
  | cons x l=>exact⟨x,l,rfl⟩
 have b1:=hz.bd x1 (by rw[e1];simp)
 have b2:=hy.bd x2 (by rw[e2];simp)
 have n1:0<z.2.length:=by rw[e1];simp
 have n2:0<y.2.length:=by rw[e2];simp
 have f1:∀ e,z.2[0]? = some e->e=x1:=λe h=>by rw[e1]at h;simpa using h.symm
 have f2:∀ e,y.2[0]? = some e->e=x2:=λe h=>by rw[e2]at h;simpa using h.symm
 refine zG Tryz.func70 rfl Tryz.ntmps70 (Nat.le_of_ble_eq_true rfl) ?_;intro w0 hw0;refine zb (tT 0 [0]) ?_;refine zh ?_;refine xm (tT 0 [0,0,0,0,0,0,0,0]) ffm (by kernel_rfl) ?_;refine ze ?_;refine kZ Tryz.underlying34 tk3 ?_;intro p6 e6 he6 hc6;obtain rfl:=f1 e6 (by simpa using he6);refine kV tk3 ?_;refine ze ?_;refine kZ Tryz.underlying34 tk3 ?_;intro p9 e9 he9 hc9;obtain rfl:=f2 e9 (by simpa using he9);refine kV tk3 ?_;refine k_sb ?_;refine zh ?_;exact zL rfl (.tmp rfl) ⟨_,rfl⟩
theorem bitsLen_f (m:Nat) (hm:m<=12):Fnc Tryz.prog 125 [.int .u64 (m:Int)] V λr _=>∃ k:Int,r=iv k:=by
 have F:Fnc Tryz.prog 202 [.int .u64 (m:Int)] V λr _=>∃ k:Int,r=iv k:=by
  have h256:∀ n:Nat,n=256->(m:Int)<(n:Int):=λn h=>by omega
  have hw:IntKind.u8.wrap (m:Int)=(m:Int):=by simp[IntKind.wrap,IntKind.bits,IntKind.signed];omega
  refine zG Tryz.func202 rfl Tryz.ntmps202 (Nat.le_of_ble_eq_true rfl) ?_;intro w0 hw0;refine zb (tT 0 [0]) ?_;refine ax (tT 0 [0,0]) ?_;refine ze ?_;refine kgeq ?_;refine AtT.dn ?_;refine zS rfl (decide_eq_false (by omega)) ?_;refine zb (tT 0 [0,0]) ?_;refine ze ?_;refine kgeq ?_;refine AtT.dn ?_;refine zS rfl (decide_eq_false (by omega)) ?_;refine zb (tT 0 [0,0]) ?_;refine ze ?_;refine kgeq ?_;refine AtT.dn ?_;refine zS rfl (decide_eq_false (by omega)) ?_;refine zb (tT 0 [0,0,0,0,0,0,0]) ?_;refine ze ?_;refine ze ?_;refine kconv un252 Tryz.underlying5 ?_;rw[hw];refine xz rfl trivial Tryz.underlying9 rfl rfl (by omega) (h256 _ (by kernel_rfl)) (by decide) ?_;refine kconv un5 Tryz.underlying3 ?_;refine zM ?_;refine zh ?_;exact zL rfl (.tmp rfl) ⟨_,rfl⟩
 refine zG Tryz.func125 rfl Tryz.ntmps125 (Nat.le_of_ble_eq_true rfl) ?_;intro w0 hw0;refine zb (tT 0 [0]) ?_;refine zh ?_;refine zS rfl rfl ?_;refine zb (tT 0 [0,1,0]) ?_;refine ze ?_;refine zm rfl rfl ok202 (F) ?_;rintro _ ⟨k,rfl⟩;refine zh ?_;exact zL rfl (.tmp rfl) ⟨_,rfl⟩
end
set_option maxHeartbeats 3200000 in
theorem isortZ_f {cx:Cx} {O:List Own} {V:View} (zs:List Pz) (rest:List Value) (bb cap:Nat) (hz:∀ z∈zs,ZOk V z) (hl8:1<=zs.length/\zs.length<=12) :
  FncM Tryz.prog cx 204 [.slice (some ⟨bb,0,none⟩) zs.length cap,iv 0,iv zs.length,.func (.func 70) #[] #[]] (.blk bb (LC (zs.map tvz++rest) 34)::O) V λr O' V'=>Le V V'/\r=.tuple #[]/\∃ zs':List Pz,zs'.Perm zs/\O'=.blk bb (LC (zs'.map tvz++rest) 34)::O:=by
 refine fncM_of Tryz.func204 rfl Tryz.ntmps204 (Nat.le_of_ble_eq_true rfl) ?_;refine zb (tT 0 [0,0,0]) ?_;refine ze ?_;refine zM ?_;refine zh ?_;refine xc (ι:=Nat×List Pz) (KS:=λg=>[(0,.slice (some ⟨bb,0,none⟩) zs.length cap),(1,iv 0),(2,iv zs.length),(3,.func (.func 70) #[] #[]),(8,iv g.1)]) (OS:=λg=>.blk bb (LC (g.2.map tvz++rest) 34)::O)
  (VS:=λg V'=>Le V V'/\1<=g.1/\g.1<=zs.length/\g.2.Perm zs) (μ:=λg=>zs.length-g.1) (1,zs) ?_ ?_ ?_ ?_
 ·exact⟨rfl,rfl,rfl,rfl,rfl,trivial⟩
 ·exact Pt.zO
 ·exact⟨Le.refl _,Nat.le_refl _,hl8.1,List.Perm.refl _⟩
 rintro⟨i,L⟩ V2 ks' O' ⟨hV2,hi1,hin,hperm⟩ hk hO hl3;dsimp only at hi1 hin hperm hk hO;subst hk hO;have hLl:=hperm.length_eq;refine zb (tT 0 [0,0,0]) ?_;refine ze ?_;refine ze ?_;refine qc ?_;refine AtT.dn ?_;refine zI rfl (λhp2=>?_) (λhp2=>?_);rotate_left
 ·obtain rfl:i=zs.length:=by omega
  refine nrm ?_;exact retM0 (.inl rfl) rfl ⟨hV2,rfl,L,hperm,rfl⟩
 have hiL:i<L.length:=by omega
 refine zb (tT 0 [0,0]) ?_;refine ze ?_;refine zh ?_;refine xc (ι:=Nat×List Pz) (KS:=λg=>[(0,.slice (some ⟨bb,0,none⟩) zs.length cap),(1,iv 0),(2,iv zs.length),(3,.func (.func 70) #[] #[]),(8,iv i),(9,iv g.1)]) (OS:=λg=>.blk bb (LC (g.2.map tvz++rest) 34)::O)
  (VS:=λg V'=>Le V V'/\g.1<=i/\g.2.Perm zs) (μ:=λg=>g.1) (i,L) ?_ ?_ ?_ ?_
 ·exact⟨rfl,rfl,rfl,rfl,rfl,rfl,trivial⟩
 ·exact Pt.zO
 ·exact⟨hV2,Nat.le_refl _,hperm⟩
 rintro⟨k,L2⟩ V3 ks' O' ⟨hV3,hki,hperm2⟩ hk hO hl4;dsimp only at hki hperm2 hk hO;subst hk hO;have hL2:=hperm2.length_eq;refine nrm ?_;by_cases d1:0<(k:Int);rotate_left
 ·refine xm (tT 0 [0,0,0,0,0,0,0,0,0,0,0,0,0,0,1,0,0]) ffm (by kernel_rfl) ?_;refine ze ?_;refine ze ?_;refine kgtr ?_;refine xh (d:=20) rfl (d1) ?_;refine ze ?_;all_goals (first | refine kY 21 ?_ | refine kX (d:=21) rfl (λhg21=>?_) (λhg21=>?_) | refine kW (d:=21) rfl (λhg21=>?_) (λhg21=>?_))
  all_goals refine zJ ?_
  all_goals refine zJ ?_
  all_goals refine zJ ?_
  all_goals first|refine AtT.kp ?_|(refine kZ Tryz.underlying37 qp ?_);(intro p25 e25 he25 hc25)
  all_goals refine qi qp ?_
  all_goals refine zJ ?_
  all_goals refine zJ ?_
  all_goals refine p_sb ?_
  all_goals first|refine AtT.kp ?_|(refine kZ Tryz.underlying37 qp ?_);(intro p30 e30 he30 hc30)
  all_goals refine qi qp ?_
  all_goals first|refine kpN ?_|((fail))
  all_goals refine p_lt ?_
  all_goals refine zF ?_
  all_goals refine AtT.done ?_
  all_goals refine nrm ?_
  refine zS rfl rfl ?_;refine zb (tT 0 [0,0,0]) ?_;refine ze ?_;refine zM ?_;refine zh ?_;refine At.round (i+1,L2) ?_ ?_ ?_ ?_
  ·show zs.length-(i+1)<zs.length-i;omega
  ·exact⟨hV3,by dsimp only;omega,by dsimp only;omega,hperm2⟩
  ·exact⟨rfl,rfl,rfl,rfl,ivs (by dsimp only;omega),trivial⟩
  ·exact Pt.zO
 obtain⟨y,hy⟩:∃ y,L2[k]? = some y:=⟨_,List.getElem?_eq_getElem (by omega)⟩;obtain⟨x,hx⟩:∃ x,L2[k-1]? = some x:=⟨_,List.getElem?_eq_getElem (by omega)⟩;have hyl:=hz y ((hperm2.mem_iff).1 (List.mem_of_getElem? hy));have hxl:=hz x ((hperm2.mem_iff).1 (List.mem_of_getElem? hx));have hk1:(k:Int)-1=((k-1:Nat):Int):=by omega
 have hcmp:=cmp_f y x (hyl.le hV3) (hxl.le hV3)
 have hyk:=slz_at (rest:=rest) hy
 have hxk:=slz_at (rest:=rest) hx
 refine cutG (ι:=Bool) (λt=>[(0,.slice (some ⟨bb,0,none⟩) zs.length cap),(1,iv 0),(2,iv zs.length),(3,.func (.func 70) #[] #[]),(8,iv i),(9,iv k),(34,.bool t)]) (λ_=>.blk bb (LC (L2.map tvz++rest) 34)::O) (λ_ V''=>Le V3 V'') ?_ ?_
 ·refine xm (tT 0 [0,0,0,0,0,0,0,0,0,0,0,0,0,0,1,0,0]) ffm (by kernel_rfl) ?_;refine ze ?_;refine ze ?_;refine kgtr ?_;refine xk (d:=20) rfl (d1) ?_;refine ze ?_;all_goals (first | refine kY 21 ?_ | refine kX (d:=21) rfl (λhg21=>?_) (λhg21=>?_) | refine kW (d:=21) rfl (λhg21=>?_) (λhg21=>?_))
  all_goals refine zJ ?_
  all_goals refine zJ ?_
  all_goals refine zJ ?_
  all_goals first|refine AtT.kp ?_|(refine idxZ rfl ⟨_,_,rfl,rfl,rfl⟩ Tryz.underlying37 qp rfl rfl (by omega) (by decide) ?_)
  all_goals first|refine AtT.kp ?_|(refine jM rfl ⟨_,_,rfl,rfl,rfl⟩ rfl qp zo.zg hyk (by decide) ?_)
  all_goals refine zJ ?_
  all_goals refine zJ ?_
  all_goals refine p_sb ?_
  all_goals (rw[hk1])
  all_goals first|refine AtT.kp ?_|(refine idxZ rfl ⟨_,_,rfl,rfl,rfl⟩ Tryz.underlying37 qp rfl rfl (by omega) (by decide) ?_)
  all_goals first|refine AtT.kp ?_|(refine jM rfl ⟨_,_,rfl,rfl,rfl⟩ rfl qp zo.zg hxk (by decide) ?_)
  all_goals first|refine kpN ?_|((refine jD rfl rfl rfl ok70 (hcmp) ?_);(rintro _ ⟨dd,rfl⟩))
  all_goals refine p_lt ?_
  all_goals refine zF ?_
  all_goals refine AtT.done ?_
  all_goals refine nrm ?_
  all_goals (exact qH (decide (dd<0)) (Le.refl _) ⟨rfl,rfl,rfl,rfl,rfl,rfl,rfl,trivial⟩ Pt.zO)
 rintro t V4 ks' O' hV4 hk hO hl5;subst hk hO;refine At.cond rfl (λhc=>?_) (λhc=>?_);rotate_left
 ·refine zb (tT 0 [0,0,0]) ?_;refine ze ?_;refine zM ?_;refine zh ?_;refine At.round (i+1,L2) ?_ ?_ ?_ ?_
  ·show zs.length-(i+1)<zs.length-i;omega
  ·exact⟨hV3.trans hV4,by dsimp only;omega,by dsimp only;omega,hperm2⟩
  ·exact⟨rfl,rfl,rfl,rfl,ivs (by dsimp only;omega),trivial⟩
  ·exact Pt.zO
 have hpe2:=swapZ_perm (by omega) hx hy
 have hset1:=slz_set (zs:=L2) (rest:=rest) (j:=k) (z:=x) (by omega)
 have hset2:=slz_set (zs:=L2.set k x) (rest:=rest) (j:=k-1) (z:=y) (by rw[List.length_set];omega)
 refine nrm ?_;refine cutG (ι:=Unit) (λ_=>[(0,.slice (some ⟨bb,0,none⟩) zs.length cap),(1,iv 0),(2,iv zs.length),(3,.func (.func 70) #[] #[]),(8,iv i),(9,iv k)]) (λ_=>.blk bb (LC (((L2.set k x).set (k-1) y).map tvz++rest) 34)::O) (λ_ V''=>Le V4 V'') ?_ ?_
 ·refine drawC O (.q 0 (.q 1 (.q 2 (.q 3 (.q 4 (.q 5 (.q 6 (.q 7 (.q 8 (.q 10 (.q 11 (.q 12 (.two 9 (.n false 13 (.q 14 (.n false 15 (.q 16 (.n false 17 .done))))) 13 (.n false 9 (.q 14 (.n false 15 (.q 16 (.n false 17 .done)))))))))))))))))) ffm (by kernel_rfl) Pt.zO ?_;refine AtC.pre (λhle0=>?_);refine xg (hp:=Pt.zO) (by(refine ze ?_);exact xe) ?_;refine xg (hp:=Pt.zO) (by(refine ze ?_);exact xe) ?_;refine xg (hp:=Pt.zO) (by(refine ze ?_);exact xe) ?_;refine xg (hp:=Pt.zO) (by(refine ze ?_);exact xe) ?_;refine xg (hp:=Pt.zO) (by(refine k_sb ?_);exact xe) ?_;rw[hk1];refine xg (hp:=Pt.zO) (by(refine ze ?_);exact xe) ?_;refine xg (hp:=Pt.zO) (by(refine ze ?_);exact xe) ?_;refine xg (hp:=Pt.zO) (by(refine k_sb ?_);exact xe) ?_;rw[hk1];refine xg (hp:=Pt.zO) (by(refine idxZ rfl trivial Tryz.underlying37 qp rfl rfl (by omega) (by decide) ?_);exact xe) ?_;refine xg (hp:=Pt.zO) (by(refine ze ?_);exact xe) ?_;refine xg (hp:=Pt.zO) (by(refine ze ?_);exact xe) ?_;refine xg (hp:=Pt.zO) (by(refine idxZ rfl trivial Tryz.underlying37 qp rfl rfl (by omega) (by decide) ?_);exact xe) ?_;refine AtC.two ?_ ?_
  focus
   refine nz ?_;refine xA ?_;refine jM rfl trivial rfl qp zo.zg hxk (by decide) ?_;refine kgo (hp:=Pt.zO) ?_;refine nz ?_;refine xA ?_;refine jM rfl trivial rfl qp zo.zg hyk (by decide) ?_;refine kgo (hp:=Pt.zO) ?_;refine xg (hp:=Pt.zO) (by(refine idxZ rfl trivial Tryz.underlying37 qp rfl rfl (by omega) (by decide) ?_);exact xe) ?_;refine nz ?_;refine store1 rfl trivial rfl rfl qp rfl rfl (by repeat first|exact Upd.here|apply Upd.there) hset1 ?_;refine kgo (hp:=Pt.zO) ?_;refine xg (hp:=Pt.zO) (by(refine idxZ rfl trivial Tryz.underlying37 qp rfl rfl (by omega) (by decide) ?_);exact xe) ?_;refine nz ?_;refine store1 rfl trivial rfl rfl qp rfl rfl (by repeat first|exact Upd.here|apply Upd.there) hset2 ?_;refine kgo (hp:=Pt.zO) ?_;refine AtC.done ?_
  rotate_right
  focus
   refine nz ?_;refine xA ?_;refine jM rfl trivial rfl qp zo.zg hyk (by decide) ?_;refine kgo (hp:=Pt.zO) ?_;refine nz ?_;refine xA ?_;refine jM rfl trivial rfl qp zo.zg hxk (by decide) ?_;refine kgo (hp:=Pt.zO) ?_;refine xg (hp:=Pt.zO) (by(refine idxZ rfl trivial Tryz.underlying37 qp rfl rfl (by omega) (by decide) ?_);exact xe) ?_;refine nz ?_;refine store1 rfl trivial rfl rfl qp rfl rfl (by repeat first|exact Upd.here|apply Upd.there) hset1 ?_;refine kgo (hp:=Pt.zO) ?_;refine xg (hp:=Pt.zO) (by(refine idxZ rfl trivial Tryz.underlying37 qp rfl rfl (by omega) (by decide) ?_);exact xe) ?_;refine nz ?_;refine store1 rfl trivial rfl rfl qp rfl rfl (by repeat first|exact Upd.here|apply Upd.there) hset2 ?_;refine kgo (hp:=Pt.zO) ?_;refine AtC.done ?_
  all_goals refine nrm ?_
  all_goals (exact qH () (Le.refl _) ⟨rfl,rfl,rfl,rfl,rfl,rfl,trivial⟩ Pt.zO)
 rintro _ V5 ks' O' hV5 hk hO hl6;subst hk hO;refine zb (tT 0 [0,0,0]) ?_;refine ze ?_;refine k_sb ?_;refine zh ?_;refine At.round (k-1,(L2.set k x).set (k-1) y) ?_ ?_ ?_ ?_
 ·show k-1<k;omega
 ·exact⟨(hV3.trans hV4).trans hV5,by dsimp only;omega,hpe2.trans hperm2⟩
 ·exact⟨rfl,rfl,rfl,rfl,rfl,ivs (by dsimp only;omega),trivial⟩
 ·exact Pt.zO
theorem pdqZ_f {cx:Cx} {O:List Own} {V:View} (zs:List Pz) (rest:List Value) (bb cap:Nat) (hz:∀ z∈zs,ZOk V z) (hl8:1<=zs.length/\zs.length<=12) (lim:Int) :
  FncM Tryz.prog cx 128 [.slice (some ⟨bb,0,none⟩) zs.length cap,iv 0,iv zs.length,iv lim,.func (.func 70) #[] #[]] (.blk bb (LC (zs.map tvz++rest) 34)::O) V λr O' V'=>Le V V'/\r=.tuple #[]/\∃ zs':List Pz,zs'.Perm zs/\O'=.blk bb (LC (zs'.map tvz++rest) 34)::O:=by
 refine fncM_of Tryz.func128 rfl Tryz.ntmps128 (Nat.le_of_ble_eq_true rfl) ?_;refine zb (tT 0 [0]) ?_;refine ax (tT 0 [0]) ?_;refine zh ?_;refine nrm ?_;refine xc (ι:=Unit) (KS:=λg=>[(0,.slice (some ⟨bb,0,none⟩) zs.length cap),(1,iv 0),(2,iv zs.length),(4,.func (.func 70) #[] #[])]) (OS:=λg=>.blk bb (LC (zs.map tvz++rest) 34)::O)
  (VS:=λg V'=>V'=V) (μ:=λg=>0) () ?_ ?_ ?_ ?_
 ·exact⟨rfl,rfl,rfl,rfl,trivial⟩
 ·exact Pt.zO
 ·rfl
 rintro _ V2 ks' O' rfl hk hO hl3;subst hk hO;refine zb (tT 0 [0,0,0,0]) ?_;refine ze ?_;refine ze ?_;refine k_sb ?_;refine zh ?_;refine zb (tT 0 [0,0]) ?_;refine ze ?_;refine kleq ?_;refine AtT.dn ?_;refine ql rfl (decide_eq_true (by omega)) ?_;refine zb (tT 0 [0,0,0,0,2]) ?_;refine ze ?_;refine ze ?_;refine ze ?_;refine ze ?_;refine callM rfl trivial rfl ok204 (by decide) (zo.perm zo.zg) (isortZ_f zs rest bb cap hz hl8) ?_;rintro _ _ V3 ⟨hV3,rfl,zs',hp',rfl⟩;refine AtT.dn ?_;exact retM0 (.inr rfl) rfl ⟨hV3,rfl,zs',hp',rfl⟩
theorem sortZ_f {cx:Cx} {O:List Own} {V:View} (zs:List Pz) (rest:List Value) (bb cap:Nat) (hz:∀ z∈zs,ZOk V z) (hl8:1<=zs.length/\zs.length<=12) :
  FncM Tryz.prog cx 69 [.slice (some ⟨bb,0,none⟩) zs.length cap,.func (.func 70) #[] #[]] (.blk bb (LC (zs.map tvz++rest) 34)::O) V λr O' V'=>Le V V'/\r=.tuple #[]/\∃ zs':List Pz,zs'.Perm zs/\O'=.blk bb (LC (zs'.map tvz++rest) 34)::O:=by
 refine fncM_of Tryz.func69 rfl Tryz.ntmps69 (Nat.le_of_ble_eq_true rfl) ?_;refine zb (tT 0 [0,0,0]) ?_;refine ze ?_;refine zZ Tryz.underlying37 ?_;refine ax (tT 0 [0,0,0,0,1,0,2]) ?_;refine ze ?_;refine ze ?_;refine ze ?_;refine kconv un3 Tryz.underlying169 ?_;rw[wrapU (by omega)];refine zm rfl rfl ok125 (bitsLen_f zs.length hl8.2) ?_;rintro _ ⟨lim,rfl⟩;refine ze ?_;refine callM rfl trivial rfl ok128 (by decide) (zo.perm zo.zg) (pdqZ_f zs rest bb cap hz hl8 lim) ?_;rintro _ _ V3 ⟨hV3,rfl,zs',hp',rfl⟩;refine AtT.dn ?_;exact retM0 (.inl rfl) rfl ⟨hV3,rfl,zs',hp',rfl⟩
theorem sort0_f {V:View} : Fnc Tryz.prog 69 [.slice none 0 0,.func (.func 70) #[] #[]] V λr _=>r=.tuple #[]:=by
 have F:Fnc Tryz.prog 204 [.slice none 0 0,iv 0,iv 0,.func (.func 70) #[] #[]] V λr _=>r=.tuple #[]:=by
  refine zG Tryz.func204 rfl Tryz.ntmps204 (Nat.le_of_ble_eq_true rfl) ?_;intro w0 hw0;refine zb (tT 0 [0,0,0]) ?_;refine ze ?_;refine zM ?_;refine zh ?_;refine xc (ι:=Unit) (KS:=λ_=>[(2,iv 0),(8,iv 1)]) (OS:=λ_=>[]) (VS:=λ_ V'=>V'=V) (μ:=λ_=>0) () ?_ ?_ ?_ ?_
  ·exact⟨rfl,rfl,trivial⟩
  ·exact Pt.zg
  ·rfl
  rintro _ V2 ks' O' rfl hk hO hl3;subst hk hO;refine zb (tT 0 [0,0,0]) ?_;refine ze ?_;refine ze ?_;refine qc ?_;refine AtT.dn ?_;refine zS rfl rfl ?_;refine nrm ?_;exact end0 rfl rfl
 have G:∀ lim:Int,Fnc Tryz.prog 128 [.slice none 0 0,iv 0,iv 0,iv lim,.func (.func 70) #[] #[]] V λr _=>r=.tuple #[]:=λlim=>by
  refine zG Tryz.func128 rfl Tryz.ntmps128 (Nat.le_of_ble_eq_true rfl) ?_;intro w0 hw0;refine zb (tT 0 [0]) ?_;refine ax (tT 0 [0]) ?_;refine zh ?_;refine nrm ?_;refine xc (ι:=Unit) (KS:=λg=>[(0,.slice none 0 0),(1,iv 0),(2,iv 0),(4,.func (.func 70) #[] #[])]) (OS:=λg=>[])
   (VS:=λg V'=>V'=V) (μ:=λg=>0) () ?_ ?_ ?_ ?_
  ·exact⟨rfl,rfl,rfl,rfl,trivial⟩
  ·exact Pt.zg
  ·rfl
  rintro _ V2 ks' O' rfl hk hO hl3;subst hk hO;refine zb (tT 0 [0,0,0,0]) ?_;refine ze ?_;refine ze ?_;refine k_sb ?_;refine zh ?_;refine zb (tT 0 [0,0]) ?_;refine ze ?_;refine kleq ?_;refine AtT.dn ?_;refine ql rfl (decide_eq_true (by omega)) ?_;refine zb (tT 0 [0,0,0,0,1]) ?_;refine ze ?_;refine ze ?_;refine ze ?_;refine ze ?_;refine zm rfl rfl ok204 (F) ?_;rintro _ rfl;refine AtT.dn ?_;exact ret0 rfl rfl
 refine zG Tryz.func69 rfl Tryz.ntmps69 (Nat.le_of_ble_eq_true rfl) ?_;intro w0 hw0;refine zb (tT 0 [0,0,0]) ?_;refine ze ?_;refine zZ Tryz.underlying37 ?_;refine ax (tT 0 [0,0,0,0,1,0,1]) ?_;refine ze ?_;refine ze ?_;refine ze ?_;refine kconv un3 Tryz.underlying169 ?_;rw[show IntKind.u64.wrap (((0:Nat):Int))=((0:Nat):Int)from rfl];refine zm rfl rfl ok125 (bitsLen_f 0 (by omega)) ?_;rintro _ ⟨lim,rfl⟩;refine ze ?_;refine zm rfl rfl ok128 (G lim) ?_;rintro _ rfl;refine AtT.dn ?_;exact end0 rfl rfl
end Go.Proofs.YtnffcfhdnjbdbaaGreatDoor.M
namespace Go.Mt
open Go.Lw Go.Ps
inductive FR (E:List Ms) (f:Int):Int->Prop
 | refl:FR E f f
 | fw {g:Int} {s:Ms} : FR E f g->s∈E->s.l=g->FR E f s.r
 | bw {g:Int} {s:Ms} : FR E f g->s∈E->s.r=g->FR E f s.l
section
variable {E:List Ms} {f g h:Int}
theorem FR.trans (a:FR E f g) (b:FR E g h):FR E f h:=by
 induction b with
 | refl=>exact a
 | fw _ hs he ih=>exact .fw ih hs he
 | bw _ hs he ih=>exact .bw ih hs he
theorem FR.symm (a:FR E f g):FR E g f:=by
 induction a with
 | refl=>exact .refl
 | @fw g' s _ hs he ih=>subst he;exact(FR.bw .refl hs rfl).trans ih
 | @bw g' s _ hs he ih=>subst he;exact(FR.fw .refl hs rfl).trans ih
theorem fr_tch {s u:Ms} (hs:s∈E) (hu:u∈E) (ht:tch s u=true):FR E s.l u.l:=by
 unfold tch at ht;simp only[Bool.or_eq_true,decide_eq_true_eq]at ht;rcases ht with ((h1 | h1) | h1) | h1
 ·rw[h1];exact .refl
 ·exact .bw .refl hu h1.symm
 ·rw[<-h1];exact .fw .refl hs rfl
 ·exact .bw (.fw .refl hs rfl) hu h1.symm
theorem atM_mem {i:Nat} (hi:i<E.length):atM E i∈E:=by rw[atM_of (List.getElem?_eq_getElem hi)];exact List.getElem_mem hi
end
abbrev lfI (E:List Ms) (x:Int):Int:=(atM E x.toNat).l
structure PtI (E:List Ms) (i:Nat) (ll:List (List Int)):Prop where
 ne:∀ l∈ll,l≠[]
 bd:∀ l∈ll,∀ x∈l,0<=x/\x<(i:Int)
 cov:∀ x:Nat,x<i->∃ l∈ll,(x:Int)∈l
 cl:ll.Pairwise λl m=>∀ x∈l,∀ y∈m,tch (atM E x.toNat) (atM E y.toNat)=false
 con:∀ l∈ll,∀ x∈l,∀ y∈l,FR E (lfI E x) (lfI E y)
theorem tch_self (s:Ms):tch s s=true:=by simp[tch]
theorem PtI.nil (E:List Ms):PtI E 0 []:=⟨λ_ h=>(by cases h),λ_ h=>(by cases h),λx hx=>absurd hx (Nat.not_lt_zero x),List.Pairwise.nil,λ_ h=>(by cases h)⟩
section
variable {E:List Ms} {i:Nat} {ll:List (List Int)}
theorem PtI.one (h:PtI E i ll) {l m:List Int} (hl:l∈ll) (hm:m∈ll) {x y:Int} (hx:x∈l) (hy:y∈m) (ht:tch (atM E x.toNat) (atM E y.toNat)=true):l=m:=by
 obtain⟨a,ha,rfl⟩:=List.getElem_of_mem hl;obtain⟨b,hb,rfl⟩:=List.getElem_of_mem hm;have hp:=List.pairwise_iff_getElem.1 h.cl;rcases Nat.lt_trichotomy a b with c | c | c
 ·have:=hp a b ha hb c x hx y hy
  rw[ht]at this;cases this
 ·subst c;rfl
 ·have:=hp b a hb ha c y hy x hx
  rw[tch_symm,ht]at this;cases this
theorem PtI.step (h:PtI E i ll) (hi:i<E.length) {ow:List Int} (hp:ow.Perm ((i:Int)::(ll.filter λl=>l.any (tchE E i)).flatten)):PtI E (i+1) ((ll.filter λl=>!(l.any (tchE E i)))++[ow]):=by
 have hE:∀ l∈ll,∀ x∈l,atM E x.toNat∈E:=λl hl x hx=>atM_mem (by have:=h.bd l hl x hx;omega)
 have hmem:∀ x,x∈ow↔x=(i:Int)\/∃ l∈ll,l.any (tchE E i)=true/\x∈l:=λx=>by
  rw[hp.mem_iff,List.mem_cons,List.mem_flatten];constructor
  ·rintro(h1 | ⟨l,h1,h2⟩)
   ·exact .inl h1
   ·obtain⟨h3,h4⟩:=List.mem_filter.1 h1;exact .inr ⟨l,h3,h4,h2⟩
  ·rintro(h1 | ⟨l,h1,h2,h3⟩)
   ·exact .inl h1
   ·exact .inr ⟨l,List.mem_filter.2 ⟨h1,h2⟩,h3⟩
 have hfr:∀ x∈ow,FR E (lfI E i) (lfI E x):=λx hx=>by
  rcases(hmem x).1 hx with rfl | ⟨l,hl,ha,hxl⟩
  ·exact .refl
  ·obtain⟨z,hz,ht⟩:=List.any_eq_true.1 ha;unfold tchE at ht;have h1:=fr_tch (atM_mem hi) (hE l hl z hz) ht;have h2:=h.con l hl z hz x hxl;show FR E (atM E (i:Int).toNat).l _;rw[Int.toNat_natCast];exact h1.trans h2
 refine⟨λl hl=>?_,λl hl x hx=>?_,λx hx=>?_,?_,λl hl x hx y hy=>?_⟩
 ·rcases List.mem_append.1 hl with hl | hl
  ·exact h.ne l (List.mem_filter.1 hl).1
  ·rw[List.mem_singleton]at hl;subst hl;intro e;rw[e]at hp;exact absurd hp.length_eq (by simp)
 ·rcases List.mem_append.1 hl with hl | hl
  ·have:=h.bd l (List.mem_filter.1 hl).1 x hx;omega
  ·rw[List.mem_singleton]at hl;subst hl;rcases(hmem x).1 hx with rfl | ⟨m,hm,_,hxm⟩
   ·omega
   ·have:=h.bd m hm x hxm;omega
 ·by_cases c:x=i
  ·subst c;exact⟨ow,List.mem_append_right _ (by simp),(hmem _).2 (.inl rfl)⟩
  ·obtain⟨l,hl,hxl⟩:=h.cov x (by omega);cases ha:l.any (tchE E i)with
   | true=>exact⟨ow,List.mem_append_right _ (by simp),(hmem _).2 (.inr ⟨l,hl,ha,hxl⟩)⟩
   | false=>exact⟨l,List.mem_append_left _ (List.mem_filter.2 ⟨hl,by rw[ha];rfl⟩),hxl⟩
 ·rw[List.pairwise_append];refine⟨h.cl.sublist List.filter_sublist,List.pairwise_singleton _ _,λl hl m hm x hx y hy=>?_⟩;rw[List.mem_singleton]at hm;subst hm;obtain⟨hl1,hl2⟩:=List.mem_filter.1 hl;rw[Bool.not_eq_true']at hl2;cases ht:tch (atM E x.toNat) (atM E y.toNat)with
  | false=>rfl
  | true=>
   rcases(hmem y).1 hy with rfl | ⟨m,hm,ha,hym⟩
   ·rw[List.any_eq_true.2 ⟨x,hx,by unfold tchE;rw[tch_symm];exact ht⟩]at hl2;cases hl2
   ·have:=h.one hl1 hm hx hym ht
    subst this;rw[ha]at hl2;cases hl2
 ·rcases List.mem_append.1 hl with hl | hl
  ·exact h.con l (List.mem_filter.1 hl).1 x hx y hy
  ·rw[List.mem_singleton]at hl;subst hl;exact(hfr x hx).symm.trans (hfr y hy)
theorem PtI.glue (h:PtI E E.length ll) {l m:List Int} (hl:l∈ll) (hm:m∈ll) {x y:Int} (hx:x∈l) (hy:y∈m) (hf:FR E (lfI E x) (lfI E y)):l=m:=by
 have key:∀ g,FR E (lfI E x) g->∀ k:Nat,k<E.length->((atM E k).l=g\/(atM E k).r=g)->(k:Int)∈l:=by
  have at':∀ (z:Int),z∈l->∀ k:Nat,k<E.length->tch (atM E z.toNat) (atM E k)=true->(k:Int)∈l:=λz hz k hk ht=>by obtain⟨m',hm',hk'⟩:=h.cov k hk;have:=h.one hl hm' hz hk' (by rw[Int.toNat_natCast];exact ht);rw[this];exact hk'
  have tcl:∀ (s u:Ms) (q:Int),(s.l=q\/s.r=q)->(u.l=q\/u.r=q)->tch s u=true:=λs u q h1 h2=>by unfold tch;simp only[Bool.or_eq_true,decide_eq_true_eq];omega
  intro g hg;induction hg with
  | refl=>exact λk hk hkg=>at' x hx k hk (tcl _ _ _ (.inl rfl) hkg)
  | @fw g' s _ hs he ih=>
   intro k hk hkg;obtain⟨j,hj,rfl⟩:=List.getElem_of_mem hs;have e:atM E j=E[j]:=atM_of (List.getElem?_eq_getElem hj);have hjl:=ih j hj (.inl (by rw[e];exact he));refine at' (j:Int) hjl k hk ?_;rw[Int.toNat_natCast,e];exact tcl _ _ _ (.inr rfl) hkg
  | @bw g' s _ hs he ih=>intro k hk hkg;obtain⟨j,hj,rfl⟩:=List.getElem_of_mem hs;have e:atM E j=E[j]:=atM_of (List.getElem?_eq_getElem hj);have hjl:=ih j hj (.inr (by rw[e];exact he));refine at' (j:Int) hjl k hk ?_;rw[Int.toNat_natCast,e];exact tcl _ _ _ (.inl rfl) hkg
 have hyb:=h.bd m hm y hy
 have hyl:=key _ hf y.toNat (by omega) (.inl rfl)
 rw[Int.toNat_of_nonneg hyb.1]at hyl;exact h.one hl hm hyl hy (tch_self _)
end
/-! Knots that share, and sheets with both. -/
structure ShE (N:Nat) (S:Nat->Nat->Bool) (E:List Ms):Prop where
 to:∀ s∈E,∃ i k:Nat,s=⟨i,k⟩/\i<k/\k<N/\S i k=true
 of:∀ i k:Nat,i<k->k<N->S i k=true->(⟨i,k⟩:Ms)∈E
section
open Go.Pm
variable {N:Nat} {S:Nat->Nat->Bool} {E:List Ms}
theorem rch_of_fr (h:ShE N S E) (hS:∀ a b,S a b=S b a) {i:Nat} {g:Int} (hf:FR E i g):∃ k:Nat,g=(k:Int)/\Rch N S i k:=by
 induction hf with
 | refl=>exact⟨i,rfl,.refl⟩
 | @fw g' s _ hs he ih=>
  obtain⟨a,b,rfl,h1,h2,h3⟩:=h.to s hs;obtain⟨k,hk,hr⟩:=ih;dsimp only at he;obtain rfl:a=k:=by omega
  exact⟨b,rfl,.step hr h2 h3⟩
 | @bw g' s _ hs he ih=>
  obtain⟨a,b,rfl,h1,h2,h3⟩:=h.to s hs;obtain⟨k,hk,hr⟩:=ih;dsimp only at he;obtain rfl:b=k:=by omega
  exact⟨a,rfl,.step hr (by omega) (by rw[hS];exact h3)⟩
theorem fr_of_rch (h:ShE N S E) (hS:∀ a b,S a b=S b a) {i k:Nat} (hi:i<N) (hr:Rch N S i k):FR E i k:=by
 induction hr with
 | refl=>exact .refl
 | @step j k hr hk hs ih=>
  have hj:=rch_lt hi hr
  rcases Nat.lt_trichotomy j k with c | c | c
  ·exact .fw (s:=⟨j,k⟩) ih (h.of j k c hk hs) rfl
  ·subst c;exact ih
  ·exact .bw (s:=⟨k,j⟩) ih (h.of k j c hj (by rw[hS];exact hs)) rfl
theorem prtK_nodup:∀ {n:Nat} {out:List (List Int)},PrtK N S n out->out.Nodup
 | 0,out,h=>by cases h;exact List.nodup_nil
 | n+1,out,h=>by
  cases h with
  | skip h1 h2=>exact prtK_nodup h1
  | add h1 h2 h3=>rw[List.nodup_append];refine⟨prtK_nodup h1,List.nodup_cons.2 ⟨by simp,List.nodup_nil⟩,λa ha b hb e=>?_⟩;rw[List.mem_singleton]at hb;subst hb e;exact h2 ⟨_,ha,(h3.2 _).2 ⟨n,rfl,.refl⟩⟩
theorem part_at (hS:∀ a b,S a b=S b a) {i k:Nat} (hi:i<N) {p:List Int} (h:IsPart N S i p) (hk:(k:Int)∈p):IsPart N S k p:=by
 obtain⟨k',e,hr⟩:=(h.2 _).1 hk;obtain rfl:k=k':=by omega
 refine⟨h.1,λx=>?_⟩;rw[h.2];constructor
 ·rintro⟨j,rfl,hj⟩;exact⟨j,rfl,rch_trans (rch_symm hS hi hr) hj⟩
 ·rintro⟨j,rfl,hj⟩;exact⟨j,rfl,rch_trans hr hj⟩
theorem rch_edge (h:ShE N S E) (hS:∀ a b,S a b=S b a) {i k:Nat} (hi:i<N) (hr:Rch N S i k) (hne:k≠i):∃ s∈E,∃ j:Nat,s.l=(j:Int)/\Rch N S i j:=by
 induction hr with
 | refl=>exact absurd rfl hne
 | @step j k hr hk hs ih=>
  have hj:=rch_lt hi hr
  rcases Nat.lt_trichotomy j k with c | c | c
  ·exact⟨_,h.of j k c hk hs,j,rfl,hr⟩
  ·subst c;exact ih hne
  ·exact⟨_,h.of k j c hj (by rw[hS];exact hs),k,rfl,.step hr hk hs⟩
theorem parts_count (h:ShE N S E) (hS:∀ a b,S a b=S b a) {ll LL:List (List Int)} (hp:PtI E E.length ll) (hK:PrtK N S N LL):ll.length=(LL.filter λp=>decide (1<p.length)).length:=by
 obtain⟨k1,k2⟩:=kG hK;have hnd:=prtK_nodup hK
 let φ:List Int->List Int:=λl=>(LL.find? λp=>decide (lfI E (l.headD 0)∈p)).getD []
 have hφ:∀ l∈ll,∃ (x:Int) (f:Nat),x∈l/\lfI E x=(f:Int)/\f<N/\φ l∈LL/\IsPart N S f (φ l)/\1<(φ l).length:=λl hl=>by
  obtain⟨x,l',rfl⟩:∃ x l',l=x::l':=by
   cases l with
   | nil=>exact absurd rfl (hp.ne _ hl)
   | cons x l'=>exact⟨x,l',rfl⟩
  have hxb:=hp.bd _ hl x (by simp)
  obtain⟨i,k,e,hik,hkN,hs⟩:=h.to _ (atM_mem (E:=E) (i:=x.toNat) (by omega));have hlf:lfI E x=(i:Int):=by show(atM E x.toNat).l=_;rw[e]
  obtain⟨p,hpL,hip⟩:=k2 i (by omega);have hsome:(LL.find? λp=>decide (lfI E x∈p)).isSome=true:=by rw[List.find?_isSome];exact⟨p,hpL,decide_eq_true (by rw[hlf];exact hip)⟩
  obtain⟨p0,hp0⟩:=Option.isSome_iff_exists.1 hsome;have hφe:φ (x::l')=p0:=by show(LL.find? λp=>decide (lfI E x∈p)).getD []=p0;rw[hp0];rfl
  have hm0:=List.mem_of_find?_eq_some hp0
  have hi0:(i:Int)∈p0:=by have:=List.find?_some hp0;rw[decide_eq_true_eq,hlf]at this;exact this
  obtain⟨j,hj,hpj⟩:=k1 p0 hm0;have hpi:=part_at hS hj hpj hi0;refine⟨x,i,by simp,hlf,by omega,by rw[hφe];exact hm0,by rw[hφe];exact hpi,?_⟩;rw[hφe];have hk0:(k:Int)∈p0:=(hpi.2 _).2 ⟨k,rfl,.step .refl hkN hs⟩
  match p0,hi0,hk0 with
  | [],hi0,_=>cases hi0
  | [u],hi0,hk0=>rw[List.mem_singleton]at hi0 hk0;omega
  | _::_::_,_,_=>simp
 have hinj:∀ l∈ll,∀ m∈ll,φ l=φ m->l=m:=λl hl m hm e=>by
  obtain⟨x,f,hx,hf,hfN,_,hpf,_⟩:=hφ l hl;obtain⟨y,g,hy,hg,hgN,_,hpg,_⟩:=hφ m hm;have:(g:Int)∈φ l:=by rw[e];exact(hpg.2 _).2 ⟨g,rfl,.refl⟩
  obtain⟨g',eg,hr⟩:=(hpf.2 _).1 this;obtain rfl:g=g':=by omega
  refine hp.glue hl hm hx hy ?_;rw[hf,hg];exact fr_of_rch h hS hfN hr
 have hllnd:ll.Nodup:=by
  rw[List.Nodup,List.pairwise_iff_getElem];intro a b ha hb hab e;have:=List.pairwise_iff_getElem.1 hp.cl a b ha hb hab;obtain⟨x,l',ex⟩:∃ x l',ll[a]=x::l':=by
   cases hc:ll[a]with
   | nil=>exact absurd hc (hp.ne _ (List.getElem_mem ha))
   | cons x l'=>exact⟨x,l',rfl⟩
  have h1:=this x (by rw[ex];simp) x (by rw[<-e,ex];simp)
  rw[tch_self]at h1;cases h1
 have hmnd:(ll.map φ).Nodup:=by rw[List.Nodup,List.pairwise_map,List.pairwise_iff_getElem];intro a b ha hb hab e;exact(List.pairwise_iff_getElem.1 hllnd a b ha hb hab) (hinj _ (List.getElem_mem ha) _ (List.getElem_mem hb) e)
 have hperm:(ll.map φ).Perm (LL.filter λp=>decide (1<p.length)):=by
  rw[List.perm_ext_iff_of_nodup hmnd (hnd.sublist List.filter_sublist)];intro p;rw[List.mem_map,List.mem_filter,decide_eq_true_eq];constructor
  ·rintro⟨l,hl,rfl⟩;obtain⟨_,_,_,_,_,h1,_,h2⟩:=hφ l hl;exact⟨h1,h2⟩
  ·rintro⟨hpL,hlen⟩;obtain⟨j,hj,hpj⟩:=k1 p hpL;obtain⟨v,hv,hvj⟩:∃ v:Nat,(v:Int)∈p/\v≠j:=by
    match p,hlen,hpj with
    | u::w::p',_,hpj=>
     obtain⟨u',eu,hu⟩:=(hpj.2 u).1 (by simp);obtain⟨w',ew,hw⟩:=(hpj.2 w).1 (by simp);have:=List.rel_of_pairwise_cons hpj.1 (a':=w) (by simp);by_cases c:u'=j
     ·exact⟨w',by rw[<-ew];simp,by omega⟩
     ·exact⟨u',by rw[<-eu];simp,c⟩
    | [],hl,_=>simp at hl
    | [_],hl,_=>simp at hl
   obtain⟨v',ev,hr⟩:=(hpj.2 _).1 hv;obtain rfl:v=v':=by omega
   obtain⟨s,hs,i,hsi,hri⟩:=rch_edge h hS hj hr hvj;obtain⟨x,hx,rfl⟩:=List.getElem_of_mem hs;obtain⟨l,hl,hxl⟩:=hp.cov x hx;obtain⟨y,f,hy,hf,hfN,h1,h2,h3⟩:=hφ l hl;refine⟨l,hl,?_⟩;have hfr:=hp.con l hl (x:Int) hxl y hy;have hlx:lfI E (x:Int)=(i:Int):=by
    show(atM E (x:Int).toNat).l=_
    rw[Int.toNat_natCast,atM_of (List.getElem?_eq_getElem hx)];exact hsi
   rw[hlx,hf]at hfr;obtain⟨f',ef,hrf⟩:=rch_of_fr h hS hfr;obtain rfl:f=f':=by omega
   have hpf:=part_at hS hj hpj ((hpj.2 _).2 ⟨f,rfl,rch_trans hri hrf⟩)
   exact part_uniq h2 hpf
 have:=hperm.length_eq
 rwa[List.length_map]at this
end
end Go.Mt
namespace Go.Proofs.YtnffcfhdnjbdbaaGreatDoor.P
open Go.Shelf Go.RowKit Go.Lib
def srt_ren:Go.Shelf.Ren:=⟨λ| 125=>125 | 128=>201 | 129=>202 | 189=>63 | 215=>283 | 216=>198 | 257=>124 | 294=>192 | 295=>193 | 296=>194 | 297=>195 | 298=>196 | 299=>197 | 300=>199 | 301=>200 | 328=>278 | 329=>279 | 330=>280 | 331=>281 | 332=>282 | 343=>347 | n=>n,λ| 0=>0 | 3=>3 | 4=>4 | 5=>5 | 9=>9 | 28=>34 | 46=>169 | 51=>250 | 53=>252 | 131=>247 | 182=>242 | 183=>243 | 218=>318 | 222=>322 | 228=>399 | 229=>73 | n=>n,λ| n=>n⟩
theorem lay_sort:Lays.n189 Tryz.prog srt_ren where
 mixed:=by kernel_rfl
 f125:=Tryz.func125.trans (congrArg some (by kernel_rfl))
 f128:=Tryz.func201.trans (congrArg some (by kernel_rfl))
 f129:=Tryz.func202.trans (congrArg some (by kernel_rfl))
 f189:=Tryz.func63.trans (congrArg some (by kernel_rfl))
 f215:=Tryz.func283.trans (congrArg some (by kernel_rfl))
 f216:=Tryz.func198.trans (congrArg some (by kernel_rfl))
 f257:=Tryz.func124.trans (congrArg some (by kernel_rfl))
 f294:=Tryz.func192.trans (congrArg some (by kernel_rfl))
 f295:=Tryz.func193.trans (congrArg some (by kernel_rfl))
 f296:=Tryz.func194.trans (congrArg some (by kernel_rfl))
 f297:=Tryz.func195.trans (congrArg some (by kernel_rfl))
 f298:=Tryz.func196.trans (congrArg some (by kernel_rfl))
 f299:=Tryz.func197.trans (congrArg some (by kernel_rfl))
 f300:=Tryz.func199.trans (congrArg some (by kernel_rfl))
 f301:=Tryz.func200.trans (congrArg some (by kernel_rfl))
 f328:=Tryz.func278.trans (congrArg some (by kernel_rfl))
 f329:=Tryz.func279.trans (congrArg some (by kernel_rfl))
 f330:=Tryz.func280.trans (congrArg some (by kernel_rfl))
 f331:=Tryz.func281.trans (congrArg some (by kernel_rfl))
 f332:=Tryz.func282.trans (congrArg some (by kernel_rfl))
 f343:=Tryz.func347.trans (congrArg some (by kernel_rfl))
 t0:=Tryz.underlying0
 a0:=Tryz.isAgg0
 z0:=Tryz.sizeOf0
 v0:=Tryz.zeroValue0
 t3:=Tryz.underlying3
 a3:=Tryz.isAgg3
 z3:=Tryz.sizeOf3
 v3:=Tryz.zeroValue3
 t4:=Tryz.underlying4
 a4:=Tryz.isAgg4
 z4:=Tryz.sizeOf4
 v4:=Tryz.zeroValue4
 t5:=Tryz.underlying5
 a5:=Tryz.isAgg5
 z5:=Tryz.sizeOf5
 v5:=Tryz.zeroValue5
 t9:=Tryz.underlying9
 a9:=Tryz.isAgg9
 z9:=Tryz.sizeOf9
 v9:=Tryz.zeroValue9
 t28:=Tryz.underlying34
 a28:=Tryz.isAgg34
 z28:=Tryz.sizeOf34
 v28:=Tryz.zeroValue34
 t46:=Tryz.underlying169
 a46:=Tryz.isAgg169
 z46:=Tryz.sizeOf169
 v46:=Tryz.zeroValue169
 t51:=Tryz.underlying250
 a51:=Tryz.isAgg250
 z51:=Tryz.sizeOf250
 v51:=Tryz.zeroValue250
 t53:=Tryz.underlying252
 a53:=Tryz.isAgg252
 z53:=Tryz.sizeOf252
 v53:=Tryz.zeroValue252
 t131:=Tryz.underlying247
 a131:=Tryz.isAgg247
 z131:=Tryz.sizeOf247
 v131:=Tryz.zeroValue247
 t182:=Tryz.underlying242
 a182:=Tryz.isAgg242
 z182:=Tryz.sizeOf242
 v182:=Tryz.zeroValue242
 t183:=Tryz.underlying243
 a183:=Tryz.isAgg243
 z183:=Tryz.sizeOf243
 v183:=Tryz.zeroValue243
 t218:=Tryz.underlying318
 a218:=Tryz.isAgg318
 z218:=Tryz.sizeOf318
 v218:=Tryz.zeroValue318
 t222:=Tryz.underlying322
 a222:=Tryz.isAgg322
 z222:=Tryz.sizeOf322
 v222:=Tryz.zeroValue322
 t228:=Tryz.underlying399
 a228:=Tryz.isAgg399
 z228:=Tryz.sizeOf399
 v228:=Tryz.zeroValue399
 t229:=Tryz.underlying73
 a229:=Tryz.isAgg73
 z229:=Tryz.sizeOf73
 v229:=Tryz.zeroValue73
def ky:Go.Shelf.Ren:=⟨λ| 119=>344 | 120=>273 | 137=>343 | 138=>54 | 143=>118 | 151=>189 | 152=>272 | 156=>52 | 160=>53 | 165=>106 | 166=>107 | 169=>108 | 195=>116 | 197=>188 | 217=>274 | 218=>117 | 219=>191 | 224=>276 | 225=>275 | 227=>111 | 228=>187 | 231=>109 | 232=>110 | 233=>112 | 234=>113 | 235=>114 | 236=>115 | 240=>185 | 241=>186 | 260=>271 | 266=>345 | 267=>277 | 271=>190 | 276=>269 | 277=>270 | 314=>346 | n=>n,λ| 0=>0 | 3=>3 | 4=>4 | 5=>5 | 9=>9 | 20=>20 | 21=>21 | 31=>22 | 37=>143 | 46=>169 | 51=>250 | 70=>142 | 72=>145 | 75=>148 | 76=>149 | 80=>151 | 105=>238 | 116=>154 | 117=>155 | 119=>392 | 124=>158 | 127=>236 | 138=>394 | 139=>395 | 146=>397 | 164=>313 | n=>n,λ| 1=>0 | 3=>1 | 4=>2 | n=>n⟩
theorem lay_join:Lays.n156 Tryz.prog ky where
 mixed:=by kernel_rfl
 f156:=Tryz.func52.trans (congrArg some (by kernel_rfl))
 f165:=Tryz.func106.trans (congrArg some (by kernel_rfl))
 f166:=Tryz.func107.trans (congrArg some (by kernel_rfl))
 f169:=Tryz.func108.trans (congrArg some (by kernel_rfl))
 f240:=Tryz.func185.trans (congrArg some (by kernel_rfl))
 f241:=Tryz.func186.trans (congrArg some (by kernel_rfl))
 f276:=Tryz.func269.trans (congrArg some (by kernel_rfl))
 f277:=Tryz.func270.trans (congrArg some (by kernel_rfl))
 t0:=Tryz.underlying0
 a0:=Tryz.isAgg0
 z0:=Tryz.sizeOf0
 v0:=Tryz.zeroValue0
 t3:=Tryz.underlying3
 a3:=Tryz.isAgg3
 z3:=Tryz.sizeOf3
 v3:=Tryz.zeroValue3
 t4:=Tryz.underlying4
 a4:=Tryz.isAgg4
 z4:=Tryz.sizeOf4
 v4:=Tryz.zeroValue4
 t9:=Tryz.underlying9
 a9:=Tryz.isAgg9
 z9:=Tryz.sizeOf9
 v9:=Tryz.zeroValue9
 t20:=Tryz.underlying20
 a20:=Tryz.isAgg20
 z20:=Tryz.sizeOf20
 v20:=Tryz.zeroValue20
 t31:=Tryz.underlying22
 a31:=Tryz.isAgg22
 z31:=Tryz.sizeOf22
 v31:=Tryz.zeroValue22
 t37:=Tryz.underlying143
 a37:=Tryz.isAgg143
 z37:=Tryz.sizeOf143
 v37:=Tryz.zeroValue143
 t70:=Tryz.underlying142
 a70:=Tryz.isAgg142
 z70:=Tryz.sizeOf142
 v70:=Tryz.zeroValue142
 t72:=Tryz.underlying145
 a72:=Tryz.isAgg145
 z72:=Tryz.sizeOf145
 v72:=Tryz.zeroValue145
 t75:=Tryz.underlying148
 a75:=Tryz.isAgg148
 z75:=Tryz.sizeOf148
 v75:=Tryz.zeroValue148
 t76:=Tryz.underlying149
 a76:=Tryz.isAgg149
 z76:=Tryz.sizeOf149
 v76:=Tryz.zeroValue149
 t127:=Tryz.underlying236
 a127:=Tryz.isAgg236
 z127:=Tryz.sizeOf236
 v127:=Tryz.zeroValue236
 t164:=Tryz.underlying313
 a164:=Tryz.isAgg313
 z164:=Tryz.sizeOf313
 v164:=Tryz.zeroValue313
theorem lay_count:Lays.n138 Tryz.prog ky where
 mixed:=by kernel_rfl
 f138:=Tryz.func54.trans (congrArg some (by kernel_rfl))
 f143:=Tryz.func118.trans (congrArg some (by kernel_rfl))
 f195:=Tryz.func116.trans (congrArg some (by kernel_rfl))
 f217:=Tryz.func274.trans (congrArg some (by kernel_rfl))
 f218:=Tryz.func117.trans (congrArg some (by kernel_rfl))
 f219:=Tryz.func191.trans (congrArg some (by kernel_rfl))
 f224:=Tryz.func276.trans (congrArg some (by kernel_rfl))
 f225:=Tryz.func275.trans (congrArg some (by kernel_rfl))
 f266:=Tryz.func345.trans (congrArg some (by kernel_rfl))
 f267:=Tryz.func277.trans (congrArg some (by kernel_rfl))
 f314:=Tryz.func346.trans (congrArg some (by kernel_rfl))
 t0:=Tryz.underlying0
 a0:=Tryz.isAgg0
 z0:=Tryz.sizeOf0
 v0:=Tryz.zeroValue0
 t3:=Tryz.underlying3
 a3:=Tryz.isAgg3
 z3:=Tryz.sizeOf3
 v3:=Tryz.zeroValue3
 t4:=Tryz.underlying4
 a4:=Tryz.isAgg4
 z4:=Tryz.sizeOf4
 v4:=Tryz.zeroValue4
 t5:=Tryz.underlying5
 a5:=Tryz.isAgg5
 z5:=Tryz.sizeOf5
 v5:=Tryz.zeroValue5
 t9:=Tryz.underlying9
 a9:=Tryz.isAgg9
 z9:=Tryz.sizeOf9
 v9:=Tryz.zeroValue9
 t46:=Tryz.underlying169
 a46:=Tryz.isAgg169
 z46:=Tryz.sizeOf169
 v46:=Tryz.zeroValue169
 t51:=Tryz.underlying250
 a51:=Tryz.isAgg250
 z51:=Tryz.sizeOf250
 v51:=Tryz.zeroValue250
 t146:=Tryz.underlying397
 a146:=Tryz.isAgg397
 z146:=Tryz.sizeOf397
 v146:=Tryz.zeroValue397
 g1:=by kernel_rfl
theorem lay_trim:Lays.n160 Tryz.prog ky where
 mixed:=by kernel_rfl
 f119:=Tryz.func344.trans (congrArg some (by kernel_rfl))
 f120:=Tryz.func273.trans (congrArg some (by kernel_rfl))
 f137:=Tryz.func343.trans (congrArg some (by kernel_rfl))
 f151:=Tryz.func189.trans (congrArg some (by kernel_rfl))
 f152:=Tryz.func272.trans (congrArg some (by kernel_rfl))
 f160:=Tryz.func53.trans (congrArg some (by kernel_rfl))
 f197:=Tryz.func188.trans (congrArg some (by kernel_rfl))
 f217:=Tryz.func274.trans (congrArg some (by kernel_rfl))
 f224:=Tryz.func276.trans (congrArg some (by kernel_rfl))
 f225:=Tryz.func275.trans (congrArg some (by kernel_rfl))
 f227:=Tryz.func111.trans (congrArg some (by kernel_rfl))
 f228:=Tryz.func187.trans (congrArg some (by kernel_rfl))
 f231:=Tryz.func109.trans (congrArg some (by kernel_rfl))
 f232:=Tryz.func110.trans (congrArg some (by kernel_rfl))
 f233:=Tryz.func112.trans (congrArg some (by kernel_rfl))
 f234:=Tryz.func113.trans (congrArg some (by kernel_rfl))
 f235:=Tryz.func114.trans (congrArg some (by kernel_rfl))
 f236:=Tryz.func115.trans (congrArg some (by kernel_rfl))
 f260:=Tryz.func271.trans (congrArg some (by kernel_rfl))
 f266:=Tryz.func345.trans (congrArg some (by kernel_rfl))
 f271:=Tryz.func190.trans (congrArg some (by kernel_rfl))
 t0:=Tryz.underlying0
 a0:=Tryz.isAgg0
 z0:=Tryz.sizeOf0
 v0:=Tryz.zeroValue0
 t3:=Tryz.underlying3
 a3:=Tryz.isAgg3
 z3:=Tryz.sizeOf3
 v3:=Tryz.zeroValue3
 t4:=Tryz.underlying4
 a4:=Tryz.isAgg4
 z4:=Tryz.sizeOf4
 v4:=Tryz.zeroValue4
 t5:=Tryz.underlying5
 a5:=Tryz.isAgg5
 z5:=Tryz.sizeOf5
 v5:=Tryz.zeroValue5
 t9:=Tryz.underlying9
 a9:=Tryz.isAgg9
 z9:=Tryz.sizeOf9
 v9:=Tryz.zeroValue9
 t21:=Tryz.underlying21
 a21:=Tryz.isAgg21
 z21:=Tryz.sizeOf21
 v21:=Tryz.zeroValue21
 t46:=Tryz.underlying169
 a46:=Tryz.isAgg169
 z46:=Tryz.sizeOf169
 v46:=Tryz.zeroValue169
 t105:=Tryz.underlying238
 a105:=Tryz.isAgg238
 z105:=Tryz.sizeOf238
 v105:=Tryz.zeroValue238
 t116:=Tryz.underlying154
 a116:=Tryz.isAgg154
 z116:=Tryz.sizeOf154
 t117:=Tryz.underlying155
 a117:=Tryz.isAgg155
 z117:=Tryz.sizeOf155
 v117:=Tryz.zeroValue155
 t119:=Tryz.underlying392
 a119:=Tryz.isAgg392
 z119:=Tryz.sizeOf392
 t124:=Tryz.underlying158
 a124:=Tryz.isAgg158
 z124:=Tryz.sizeOf158
 v124:=Tryz.zeroValue158
 t138:=Tryz.underlying394
 a138:=Tryz.isAgg394
 z138:=Tryz.sizeOf394
 v138:=Tryz.zeroValue394
 t139:=Tryz.underlying395
 a139:=Tryz.isAgg395
 z139:=Tryz.sizeOf395
 v139:=Tryz.zeroValue395
 g3:=by kernel_rfl
 g4:=by kernel_rfl
theorem str_ext:Builder.Extra Tryz.prog ky where
 sizeBuilder:=by kernel_rfl
 liesBuilder:=by kernel_rfl
 t5:=Tryz.underlying5
 a5:=Tryz.isAgg5
 z5:=Tryz.sizeOf5
 v5:=Tryz.zeroValue5
 infoByte:=by kernel_rfl
 cellsByte:=by kernel_rfl
 sizeByte:=by kernel_rfl
 neB5:=by decide
end Go.Proofs.YtnffcfhdnjbdbaaGreatDoor.P
namespace Go.Bl
open Go.Gl Go.Lw
structure Pq where
 m:Int
 o:Int
 h:Int
 deriving DecidableEq
structure Tq where
 p:Pq
 f:Bool
abbrev pqv (p:Pq):Value:=.agg #[iv p.m,iv p.o,iv p.h]
abbrev tqe (t:Tq):List Value:=[iv t.p.m,iv t.p.o,iv t.p.h,.bool t.f]
abbrev tqv (t:Tq):Value:=.agg #[iv t.p.m,iv t.p.o,iv t.p.h,.bool t.f]
abbrev ste (s:Nat):List Value:=[iv (s:Int)]
abbrev stv (s:Nat):Value:=.agg #[iv (s:Int)]
theorem ste_len (s:Nat):(ste s).length=1:=rfl
def sndB (p:Pq):Bool:=decide (0<=p.m/\p.m<=4/\0<=p.o/\p.o<=4/\0<=p.h/\p.h<=4)
theorem wi_pq (p:Pq):wi 0 4 [p.m,p.o,p.h]=sndB p:=by unfold wi sndB outB;rw[Bool.eq_iff_iff];simp only[List.any_cons,List.any_nil,Bool.or_false,Bool.not_eq_true',Bool.or_eq_false_iff,decide_eq_false_iff_not,decide_eq_true_eq];omega
def badT (t:Tq):Bool:=!sndB t.p
def trE (ts:List Tq):Int:=if 16<ts.length then 6 else if ts.any badT then 3 else 0
theorem trE_ok {ts:List Tq} (h:trE ts=0):ts.length<=16/\∀ t∈ts,sndB t.p=true:=by
 unfold trE at h;split at h
 ·cases h
 ·split at h
  ·cases h
  ·rename_i h1 h2;refine⟨by omega,λt ht=>?_⟩;cases c:sndB t.p with
   | true=>rfl
   | false=>exact absurd (List.any_eq_true.2 ⟨t,ht,by simp[badT,c]⟩) h2
def caL (p:Pq):List Int:=[p.m,5+p.o,10+p.h]
def btL (l:List Int):Nat:=l.foldl (λn i=>n ||| 2 ^ i.toNat) 0
theorem btL_snoc (l:List Int) (i:Int):btL (l++[i])=btL l ||| 2 ^ i.toNat:=by simp[btL,List.foldl_append]
theorem btF_bit {i:Nat} : ∀ (l:List Int) (n:Nat),(∀ x∈l,0<=x)->((l.foldl (λn i=>n ||| 2 ^ i.toNat) n).testBit i=true↔n.testBit i=true\/(i:Int)∈l)
 | [],n,_=>by simp
 | x::l,n,h=>by
  have h0:=h x List.mem_cons_self
  rw[List.foldl_cons,btF_bit l _ λy hy=>h y (List.mem_cons_of_mem _ hy),Nat.testBit_or,Bool.or_eq_true,Nat.testBit_two_pow,decide_eq_true_eq,List.mem_cons];constructor
  ·rintro((h1 | h1) | h1)
   ·exact .inl h1
   ·exact .inr (.inl (by omega))
   ·exact .inr (.inr h1)
  ·rintro(h1 | h1 | h1)
   ·exact .inl (.inl h1)
   ·exact .inl (.inr (by omega))
   ·exact .inr h1
theorem btL_bit {l:List Int} {i:Nat} (h:∀ x∈l,0<=x):(btL l).testBit i=true↔(i:Int)∈l:=by unfold btL;rw[btF_bit l 0 h];simp
theorem btL_lt {l:List Int} {n:Nat} (h:∀ x∈l,0<=x/\x<(n:Int)):btL l<2 ^ n:=by
 refine Nat.lt_pow_two_of_testBit _ λi hi=>?_;cases c:(btL l).testBit i with
 | false=>rfl
 | true=>
  have:=(btL_bit λx hx=>(h x hx).1).1 c
  have:=h _ this;omega
def cbN (p:Pq):Nat:=btL (caL p)
theorem caL_in {p:Pq} (h:sndB p=true):∀ x∈caL p,0<=x/\x<15:=by unfold sndB at h;rw[decide_eq_true_eq]at h;intro x hx;simp only[caL,List.mem_cons,List.not_mem_nil,or_false]at hx;omega
theorem cbN_lt {p:Pq} (h:sndB p=true):cbN p<32768:=btL_lt (n:=15) λx hx=>by have:=caL_in h x hx;omega
def clN:List Tq->Nat->Nat
 | _,0=>0
 | ts,k+1=>match ts[k]? with
  | some t=>if t.f=false then clN ts k ||| cbN t.p else clN ts k
  | none=>clN ts k
def clA (ts:List Tq):Nat:=clN ts ts.length
theorem clN_at {ts:List Tq} {k:Nat} {t:Tq} (h:ts[k]? = some t):clN ts (k+1)=if t.f=false then clN ts k ||| cbN t.p else clN ts k:=by simp only[clN,h]
theorem or_lt {a b n:Nat} (ha:a<2 ^ n) (hb:b<2 ^ n):a ||| b<2 ^ n:=Nat.or_lt_two_pow ha hb
theorem clN_lt {ts:List Tq} (h:∀ t∈ts,sndB t.p=true):∀ k,clN ts k<32768
 | 0=>by simp[clN]
 | k+1=>by
  have ih:=clN_lt h k
  cases c:ts[k]? with
  | none=>simp only[clN,c];exact ih
  | some t=>
   rw[clN_at c];split
   ·exact or_lt (n:=15) ih (cbN_lt (h t (List.mem_of_getElem? c)))
   ·exact ih
end Go.Bl
namespace Go.Gl
theorem bitL_len (A:Nat):∀ k,(qy A k).length<=k
 | 0=>Nat.le_refl 0
 | k+1=>by
  have:=bitL_len A k
  simp only[qy];split
  ·simp;omega
  ·omega
theorem bit_iff (A k:Nat):((A >>> k &&& 1:Nat):Int)=1↔A.testBit k=true:=by rw[Nat.and_one_is_mod,Nat.shiftRight_eq_div_pow,Nat.testBit_eq_decide_div_mod_eq,decide_eq_true_eq];omega
end Go.Gl
namespace Go.Proofs.YtnffcfhdnjbdbaaGreatDoor
open Go.Lw Go.Gl Go.Bl Go.RowKit
theorem index_n (g:FuncId) (cap:List Value) (p:Int->Bool) (V:View) (vl:Value) (l:List Int) (hs:Sl V ei 1 vl l) (hok:zi Tryz.prog g)
  (hc:∀ x,x∈l->Fnc Tryz.prog g ([]++[iv x]++cap) V (λv _=>v=.bool (p x))) :
  Fnc Tryz.prog 59 [vl,.func (.func g) #[] cap.toArray] V λv _=>∃ j:Int,v=iv j/\(decide (0<=j))=l.any p:=by
 have hlen:=hs.jC
 refine zG Tryz.func59 rfl Tryz.ntmps59 (Nat.le_of_ble_eq_true rfl) ?_;intro w0 hw0;refine zb (tT 0 [0]) ?_;refine ax (tT 0 [0,0,0]) ?_;refine ze ?_;refine zZ Tryz.underlying34 ?_;refine ze ?_;refine AtT.dn ?_;refine xc (ι:=Nat) (KS:=λk=>[(0,vl),(1,.func (.func g) #[] cap.toArray),(4,iv 0),(7,iv l.length),(8,iv k)]) (OS:=λ_=>[])
  (VS:=λk V'=>V'=V/\k<=l.length/\(l.take k).any p=false) (μ:=λk=>l.length-k) 0 ?_ ?_ ?_ ?_
 ·exact⟨rfl,rfl,rfl,rfl,rfl,trivial⟩
 ·exact Pt.zg
 ·exact⟨rfl,Nat.zero_le _,rfl⟩
 ·rintro k V' ks' O' ⟨rfl,hkl,hany⟩ hk hO hl;subst hk hO;refine zb (tT 0 [0]) ?_;refine qc ?_;refine AtT.dn ?_;refine zI rfl (λhp=>?_) (λhp=>?_)
  ·refine zb (tT 0 [0,0]) ?_;refine ze ?_;refine ax (tT 0 [0,0,0,0,0,1]) ?_;refine ze ?_;refine ze ?_;refine ze ?_;refine kZ Tryz.underlying34 tk3 ?_;intro p14 e14 he14 hc14;refine kV tk3 ?_;refine jD rfl rfl rfl hok (hc e14 (List.mem_of_getElem? he14)) ?_;rintro _ rfl;refine AtT.dn ?_;have hee:l[k]? = some e14:=by simpa using he14
   have hnx:l.take (k+1)=l.take k++[e14]:=by rw[List.take_succ_eq_append_getElem (by omega)];congr 1;rw[List.getElem?_eq_getElem (by omega)]at hee;simpa using hee
   refine At.cond rfl (λhb=>?_) (λhb=>?_)
   ·refine zb (tT 0 [0,0]) ?_;refine ze ?_;refine zh ?_;refine zL rfl (.tmp rfl) ⟨k,rfl,?_⟩;have:l.any p=true:=List.any_eq_true.2 ⟨e14,List.mem_of_getElem? hee,hb⟩;rw[this];simp
   ·refine zb (tT 0 [0,0]) ?_;refine zM ?_;refine ze ?_;refine AtT.dn ?_;refine At.round (k+1) ?_ ?_ ?_ ?_
    ·show l.length-(k+1)<l.length-k;omega
    ·refine⟨rfl,by omega,?_⟩;rw[hnx,List.any_append,hany];simp[hb]
    ·exact⟨rfl,rfl,rfl,rfl,rfl,trivial⟩
    ·exact Pt.zg
  ·have hkk:k=l.length:=by omega
   subst hkk;rw[List.take_length]at hany;refine zb (tT 0 [0]) ?_;refine zh ?_;refine zL rfl (.tmp rfl) ⟨-1,rfl,?_⟩;rw[hany];rfl
theorem jF (g:FuncId) (cap:List Value) (p:Int->Bool) (V:View) (vl:Value) (l:List Int) (hs:Sl V ei 1 vl l) (hok:zi Tryz.prog g)
  (hc:∀ x,x∈l->Fnc Tryz.prog g ([]++[iv x]++cap) V (λv _=>v=.bool (p x))) :
  Fnc Tryz.prog 16 [vl,.func (.func g) #[] cap.toArray] V λv _=>v=.bool (l.any p):=by
 refine zG Tryz.func16 rfl Tryz.ntmps16 (Nat.le_of_ble_eq_true rfl) ?_;intro w0 hw0;refine zb (tT 0 [0]) ?_;refine ax (tT 0 [0,0,1,0,0]) ?_;refine ze ?_;refine ze ?_;refine zm rfl rfl ok59 (index_n g cap p V vl l hs hok hc) ?_;rintro _ ⟨j,rfl,hj⟩;refine kgeq ?_;refine zh ?_;refine zL rfl (.tmp rfl) ?_;rw[hj]
theorem index_t (g:FuncId) (cap:List Value) (p:Tq->Bool) (V:View) (vl:Value) (l:List Tq) (hs:Sl V tqe 4 vl l) (hok:zi Tryz.prog g)
  (hc:∀ x,x∈l->Fnc Tryz.prog g ([]++[tqv x]++cap) V (λv _=>v=.bool (p x))) :
  Fnc Tryz.prog 342 [vl,.func (.func g) #[] cap.toArray] V λv _=>∃ j:Int,v=iv j/\(decide (0<=j))=l.any p:=by
 have hlen:=hs.jC
 refine zG Tryz.func342 rfl Tryz.ntmps342 (Nat.le_of_ble_eq_true rfl) ?_;intro w0 hw0;refine zb (tT 0 [0]) ?_;refine ax (tT 0 [0,0,0]) ?_;refine ze ?_;refine zZ Tryz.underlying119 ?_;refine ze ?_;refine AtT.dn ?_;refine xc (ι:=Nat) (KS:=λk=>[(0,vl),(1,.func (.func g) #[] cap.toArray),(4,iv 0),(7,iv l.length),(8,iv k)]) (OS:=λ_=>[])
  (VS:=λk V'=>V'=V/\k<=l.length/\(l.take k).any p=false) (μ:=λk=>l.length-k) 0 ?_ ?_ ?_ ?_
 ·exact⟨rfl,rfl,rfl,rfl,rfl,trivial⟩
 ·exact Pt.zg
 ·exact⟨rfl,Nat.zero_le _,rfl⟩
 ·rintro k V' ks' O' ⟨rfl,hkl,hany⟩ hk hO hl;subst hk hO;refine zb (tT 0 [0]) ?_;refine qc ?_;refine AtT.dn ?_;refine zI rfl (λhp=>?_) (λhp=>?_)
  ·refine zb (tT 0 [0,0]) ?_;refine ze ?_;refine ax (tT 0 [0,0,0,0,0,1]) ?_;refine ze ?_;refine ze ?_;refine ze ?_;refine kZ Tryz.underlying119 tk196 ?_;intro p14 e14 he14 hc14;refine qo tk196 ?_;refine jD rfl rfl rfl hok (hc e14 (List.mem_of_getElem? he14)) ?_;rintro _ rfl;refine AtT.dn ?_;have hee:l[k]? = some e14:=by simpa using he14
   have hnx:l.take (k+1)=l.take k++[e14]:=by rw[List.take_succ_eq_append_getElem (by omega)];congr 1;rw[List.getElem?_eq_getElem (by omega)]at hee;simpa using hee
   refine At.cond rfl (λhb=>?_) (λhb=>?_)
   ·refine zb (tT 0 [0,0]) ?_;refine ze ?_;refine zh ?_;refine zL rfl (.tmp rfl) ⟨k,rfl,?_⟩;have:l.any p=true:=List.any_eq_true.2 ⟨e14,List.mem_of_getElem? hee,hb⟩;rw[this];simp
   ·refine zb (tT 0 [0,0]) ?_;refine zM ?_;refine ze ?_;refine AtT.dn ?_;refine At.round (k+1) ?_ ?_ ?_ ?_
    ·show l.length-(k+1)<l.length-k;omega
    ·refine⟨rfl,by omega,?_⟩;rw[hnx,List.any_append,hany];simp[hb]
    ·exact⟨rfl,rfl,rfl,rfl,rfl,trivial⟩
    ·exact Pt.zg
  ·have hkk:k=l.length:=by omega
   subst hkk;rw[List.take_length]at hany;refine zb (tT 0 [0]) ?_;refine zh ?_;refine zL rfl (.tmp rfl) ⟨-1,rfl,?_⟩;rw[hany];rfl
theorem contains_t (g:FuncId) (cap:List Value) (p:Tq->Bool) (V:View) (vl:Value) (l:List Tq) (hs:Sl V tqe 4 vl l) (hok:zi Tryz.prog g)
  (hc:∀ x,x∈l->Fnc Tryz.prog g ([]++[tqv x]++cap) V (λv _=>v=.bool (p x))) :
  Fnc Tryz.prog 261 [vl,.func (.func g) #[] cap.toArray] V λv _=>v=.bool (l.any p):=by
 refine zG Tryz.func261 rfl Tryz.ntmps261 (Nat.le_of_ble_eq_true rfl) ?_;intro w0 hw0;refine zb (tT 0 [0]) ?_;refine ax (tT 0 [0,0,1,0,0]) ?_;refine ze ?_;refine ze ?_;refine zm rfl rfl ok342 (index_t g cap p V vl l hs hok hc) ?_;rintro _ ⟨j,rfl,hj⟩;refine kgeq ?_;refine zh ?_;refine zL rfl (.tmp rfl) ?_;rw[hj]
theorem index_s (g:FuncId) (cap:List Value) (p:Nat->Bool) (V:View) (vl:Value) (l:List Nat) (hs:Sl V ste 1 vl l) (hok:zi Tryz.prog g)
  (hc:∀ x,x∈l->Fnc Tryz.prog g ([]++[stv x]++cap) V (λv _=>v=.bool (p x))) :
  Fnc Tryz.prog 258 [vl,.func (.func g) #[] cap.toArray] V λv _=>∃ j:Int,v=iv j/\(decide (0<=j))=l.any p:=by
 have hlen:=hs.jC
 refine zG Tryz.func258 rfl Tryz.ntmps258 (Nat.le_of_ble_eq_true rfl) ?_;intro w0 hw0;refine zb (tT 0 [0]) ?_;refine ax (tT 0 [0,0,0]) ?_;refine ze ?_;refine zZ Tryz.underlying207 ?_;refine ze ?_;refine AtT.dn ?_;refine xc (ι:=Nat) (KS:=λk=>[(0,vl),(1,.func (.func g) #[] cap.toArray),(4,iv 0),(7,iv l.length),(8,iv k)]) (OS:=λ_=>[])
  (VS:=λk V'=>V'=V/\k<=l.length/\(l.take k).any p=false) (μ:=λk=>l.length-k) 0 ?_ ?_ ?_ ?_
 ·exact⟨rfl,rfl,rfl,rfl,rfl,trivial⟩
 ·exact Pt.zg
 ·exact⟨rfl,Nat.zero_le _,rfl⟩
 ·rintro k V' ks' O' ⟨rfl,hkl,hany⟩ hk hO hl;subst hk hO;refine zb (tT 0 [0]) ?_;refine qc ?_;refine AtT.dn ?_;refine zI rfl (λhp=>?_) (λhp=>?_)
  ·refine zb (tT 0 [0,0]) ?_;refine ze ?_;refine ax (tT 0 [0,0,0,0,0,1]) ?_;refine ze ?_;refine ze ?_;refine ze ?_;refine kZ Tryz.underlying207 qG ?_;intro p14 e14 he14 hc14;refine qo qG ?_;refine jD rfl rfl rfl hok (hc e14 (List.mem_of_getElem? he14)) ?_;rintro _ rfl;refine AtT.dn ?_;have hee:l[k]? = some e14:=by simpa using he14
   have hnx:l.take (k+1)=l.take k++[e14]:=by rw[List.take_succ_eq_append_getElem (by omega)];congr 1;rw[List.getElem?_eq_getElem (by omega)]at hee;simpa using hee
   refine At.cond rfl (λhb=>?_) (λhb=>?_)
   ·refine zb (tT 0 [0,0]) ?_;refine ze ?_;refine zh ?_;refine zL rfl (.tmp rfl) ⟨k,rfl,?_⟩;have:l.any p=true:=List.any_eq_true.2 ⟨e14,List.mem_of_getElem? hee,hb⟩;rw[this];simp
   ·refine zb (tT 0 [0,0]) ?_;refine zM ?_;refine ze ?_;refine AtT.dn ?_;refine At.round (k+1) ?_ ?_ ?_ ?_
    ·show l.length-(k+1)<l.length-k;omega
    ·refine⟨rfl,by omega,?_⟩;rw[hnx,List.any_append,hany];simp[hb]
    ·exact⟨rfl,rfl,rfl,rfl,rfl,trivial⟩
    ·exact Pt.zg
  ·have hkk:k=l.length:=by omega
   subst hkk;rw[List.take_length]at hany;refine zb (tT 0 [0]) ?_;refine zh ?_;refine zL rfl (.tmp rfl) ⟨-1,rfl,?_⟩;rw[hany];rfl
theorem contains_s (g:FuncId) (cap:List Value) (p:Nat->Bool) (V:View) (vl:Value) (l:List Nat) (hs:Sl V ste 1 vl l) (hok:zi Tryz.prog g)
  (hc:∀ x,x∈l->Fnc Tryz.prog g ([]++[stv x]++cap) V (λv _=>v=.bool (p x))) :
  Fnc Tryz.prog 158 [vl,.func (.func g) #[] cap.toArray] V λv _=>v=.bool (l.any p):=by
 refine zG Tryz.func158 rfl Tryz.ntmps158 (Nat.le_of_ble_eq_true rfl) ?_;intro w0 hw0;refine zb (tT 0 [0]) ?_;refine ax (tT 0 [0,0,1,0,0]) ?_;refine ze ?_;refine ze ?_;refine zm rfl rfl ok258 (index_s g cap p V vl l hs hok hc) ?_;rintro _ ⟨j,rfl,hj⟩;refine kgeq ?_;refine zh ?_;refine zL rfl (.tmp rfl) ?_;rw[hj]
theorem within1_f (n lo hi:Int) (V:View) (p1 p2:Addr) (h1:Cells V p1 [iv lo]) (h2:Cells V p2 [iv hi]) :
  Fnc Tryz.prog 263 [iv n,.pointer (some p1),.pointer (some p2)] V λv _=>v=.bool (outB lo hi n):=by
 refine zG Tryz.func263 rfl Tryz.ntmps263 (Nat.le_of_ble_eq_true rfl) ?_;intro w0 hw0;refine zb (tT 0 [0]) ?_;refine ax (tT 0 [0,0,0,0,0,0,0,0,0]) ?_;refine ze ?_;refine kV tk3 ?_;refine qc ?_;refine ze ?_;all_goals (first | refine kY 8 ?_ | refine kX (d:=8) rfl (λhg8=>?_) (λhg8=>?_) | refine kW (d:=8) rfl (λhg8=>?_) (λhg8=>?_))
 all_goals refine zJ ?_
 all_goals refine qi tk3 ?_
 all_goals refine p_gt ?_
 all_goals refine zF ?_
 all_goals refine zu ?_
 all_goals refine AtT.done ?_
 all_goals refine nrm ?_
 ·exact zL rfl (.tmp rfl) (by simp[outB,hg8])
 ·exact zL rfl (.tmp rfl) (by simp[outB,hg8])
theorem qd (lo hi:Int) (l:List Int) (V:View) (vl:Value) (hs:SlI V vl l) :
  Fnc Tryz.prog 165 [iv lo,iv hi,vl] V λv _=>v=.bool (wi lo hi l):=by
 refine zG Tryz.func165 rfl Tryz.ntmps165 (Nat.le_of_ble_eq_true rfl) ?_;intro w0 hw0;refine zb (tT 0 [1,1,0]) ?_;refine qQ ?_;intro b3;refine qQ ?_;intro b4;refine zh ?_;refine jN (b:=b3) zo.zg ?_;intro V3 hV3 hb3;refine jN (b:=b4) zo.zg ?_;intro V4 hV4 hb4;have hs4:=hs.le (hV3.trans hV4);have hc3:=(zQ hb3).le hV4;have hc4:=zQ hb4;refine zP (tT 0 [0,0,1,0,0]) ?_;refine ze ?_;refine kfn ?_;refine zm rfl rfl ok16 (jF 263 [.pointer (some ⟨b3,0,none⟩),.pointer (some ⟨b4,0,none⟩)] (outB lo hi) V4 vl l hs4 ok263 (λx _=>within1_f x lo hi V4 _ _ hc3 hc4)) ?_;rintro _ rfl;refine xn ?_;refine zh ?_;exact zL rfl (.tmp rfl) rfl
end Go.Proofs.YtnffcfhdnjbdbaaGreatDoor
namespace Go.Proofs.YtnffcfhdnjbdbaaGreatDoor.P
open Go.Lw Go.Gl Go.Pm Go.RowKit
def ixI (o:Option Nat):Int:=match o with
 | some n=>(n:Int)
 | none=>-1
theorem fi_hit {α:Type} {p:α->Bool} {l:List α} {k:Nat} {x:α} (hx:l[k]? = some x) (hp:p x=true) (h:∀ (j:Nat) (y:α),j<k->l[j]? = some y->p y=false):l.findIdx? p=some k:=by rw[List.findIdx?_eq_some_iff_getElem];obtain⟨hk,rfl⟩:=List.getElem?_eq_some_iff.1 hx;exact⟨hk,hp,λj hj=>by rw[h j _ hj (List.getElem?_eq_getElem (by omega))];simp⟩
theorem fi_none {α:Type} {p:α->Bool} {l:List α} (h:∀ (j:Nat) (y:α),j<l.length->l[j]? = some y->p y=false):l.findIdx? p=none:=by rw[List.findIdx?_eq_none_iff];intro x hx;obtain⟨j,hj,rfl⟩:=List.getElem_of_mem hx;exact h j _ hj (List.getElem?_eq_getElem hj)
abbrev sle (q:Option Addr×Nat×Nat):List Value:=[.slice q.1 q.2.1 q.2.2]
theorem sle_len (q:Option Addr×Nat×Nat):(sle q).length=1:=rfl
def SL (V:View) (v:Value) (ll:List (List Int)):Prop:=∃ qs:List (Option Addr×Nat×Nat),Sl V sle 1 v qs/\qs.length=ll.length/\∀ (i:Nat) (q:Option Addr×Nat×Nat) (l:List Int),qs[i]? = some q->ll[i]? = some l->SlI V (.slice q.1 q.2.1 q.2.2) l
theorem SL.le {V V':View} {v:Value} {ll:List (List Int)} (h:SL V v ll) (hl:Le V V'):SL V' v ll:=by obtain⟨qs,h1,h2,h3⟩:=h;exact⟨qs,h1.le hl,h2,λi q l a b=>(h3 i q l a b).le hl⟩
theorem SL.nil (V:View):SL V (.slice none 0 0) []:=⟨[],Sl.nil _ _ _,rfl,λi q l h=>by simp at h⟩
theorem indexI_f (l:List Int) (s:Int) (V:View) (v:Value) (hs:SlI V v l):Fnc Tryz.prog 123 [v,iv s] V λr _=>r=iv (ixI (l.findIdx? (· == s))):=by
 have hlen:=hs.jC
 obtain⟨a,c,rfl,k1,k2,_⟩:=id hs;clear k1 k2;refine zG Tryz.func123 rfl Tryz.ntmps123 (Nat.le_of_ble_eq_true rfl) ?_;intro w0 hw0;refine zb (tT 0 [0]) ?_;refine ax (tT 0 [0,0,0]) ?_;refine ze ?_;refine zZ Tryz.underlying34 ?_;refine ze ?_;refine AtT.dn ?_;refine xc (ι:=Nat) (KS:=λk=>[(0,.slice a l.length c),(1,iv s),(7,iv l.length),(8,iv k)]) (OS:=λ_=>[]) (VS:=λk V'=>V'=V/\k<=l.length/\∀ (j:Nat) (y:Int),j<k->l[j]? = some y->(y == s)=false) (μ:=λk=>l.length-k) 0 ?_ ?_ ?_ ?_
 ·exact⟨rfl,rfl,rfl,rfl,trivial⟩
 ·exact Pt.zg
 ·exact⟨rfl,Nat.zero_le _,λj y hj=>absurd hj (Nat.not_lt_zero j)⟩
 rintro k V' ks' O' ⟨rfl,hkl,hok⟩ hk hO hl2;subst hk hO;refine zb (tT 0 [0]) ?_;refine qc ?_;refine AtT.dn ?_;refine zI rfl (λhp=>?_) (λhp=>?_)
 ·obtain⟨x,hx⟩:∃ x,l[k]? = some x:=⟨_,List.getElem?_eq_getElem (by omega)⟩;refine zb (tT 0 [0,0]) ?_;refine ze ?_;refine ax (tT 0 [0,0,0,0,0,0]) ?_;refine ze ?_;refine ze ?_;refine ze ?_;refine kZ Tryz.underlying34 tk3 ?_;intro p14 e14 he14 hc14;obtain rfl:=qx hx he14;refine kV tk3 ?_;refine keqI ?_;refine AtT.dn ?_;refine zI rfl (λhc=>?_) (λhc=>?_)
  ·refine zb (tT 0 [0,0]) ?_;refine ze ?_;refine zh ?_;exact zL rfl (.tmp rfl) (by rw[fi_hit hx (by simp[hc]) hok];rfl)
  ·refine zb (tT 0 [0,0]) ?_;refine zM ?_;refine ze ?_;refine AtT.dn ?_;refine At.round (k+1) ?_ ?_ ?_ ?_
   ·show l.length-(k+1)<l.length-k;omega
   ·refine⟨rfl,by omega,λj y hj hy=>?_⟩;by_cases hjk:j=k
    ·subst hjk;rw[hx]at hy;cases hy;exact beq_false_of_ne (λe=>hc e.symm)
    ·exact hok j y (by omega) hy
   ·exact⟨rfl,rfl,rfl,ivs (by omega),trivial⟩
   ·exact Pt.zg
 ·refine zb (tT 0 [0]) ?_;refine zh ?_;exact zL rfl (.tmp rfl) (by rw[fi_none λj y hj hy=>hok j y (by omega) hy];rfl)
theorem min_f (l:List Int) (hl:l≠[]) (V:View) (v:Value) (hs:SlI V v l):Fnc Tryz.prog 120 [v] V λr _=>∃ m,r=iv m/\m∈l/\∀ x∈l,m<=x:=by
 have hlen:=hs.jC
 have hpos:0<l.length:=List.length_pos_iff.2 hl
 obtain⟨a,c,rfl,k1,k2,_⟩:=id hs;clear k1 k2;refine zG Tryz.func120 rfl Tryz.ntmps120 (Nat.le_of_ble_eq_true rfl) ?_;intro w0 hw0;refine zb (tT 0 [0]) ?_;refine ax (tT 0 [0,0,0]) ?_;refine ze ?_;refine zZ Tryz.underlying34 ?_;refine qc ?_;refine AtT.dn ?_;refine zS rfl (decide_eq_false (by omega)) ?_;refine zb (tT 0 [0,0,0,0]) ?_;refine ze ?_;refine kZ Tryz.underlying34 tk3 ?_;intro p10 e10 he10 hc10;refine kV tk3 ?_;refine zh ?_;have hm0:e10∈l:=List.mem_of_getElem? he10;have h0:l[0]? = some e10:=by simpa using he10
 refine zP (tT 0 [0]) ?_;refine zh ?_;refine xc (ι:=Nat×Int) (KS:=λg=>[(0,.slice a l.length c),(3,iv g.2),(4,iv g.1)]) (OS:=λ_=>[]) (VS:=λg V'=>V'=V/\g.1<=l.length/\g.2∈l/\∀ (j:Nat) (x:Int),j<g.1->l[j]? = some x->g.2<=x) (μ:=λg=>l.length-g.1) (1,e10) ?_ ?_ ?_ ?_
 ·exact⟨rfl,rfl,rfl,trivial⟩
 ·exact Pt.zg
 ·refine⟨rfl,hpos,hm0,λj x hj hx=>?_⟩;obtain rfl:j=0:=by dsimp only at hj;omega
  rw[h0]at hx;cases hx;exact Int.le_refl _
 ·rintro⟨k,m⟩ V' ks' O' ⟨rfl,hkl,hm,hok⟩ hk hO hl2;dsimp only at hkl hm hok hk hO;subst hk hO;refine zb (tT 0 [0,0,0,0]) ?_;refine ze ?_;refine ze ?_;refine zZ Tryz.underlying34 ?_;refine qc ?_;refine AtT.dn ?_;refine zI rfl (λhp=>?_) (λhp=>?_)
  ·obtain⟨x,hx⟩:∃ x,l[k]? = some x:=⟨_,List.getElem?_eq_getElem (by omega)⟩;refine zb (tT 0 [0,0,0,0,0,0,0]) ?_;refine ze ?_;refine ze ?_;refine ze ?_;refine kZ Tryz.underlying34 tk3 ?_;intro p21 e21 he21 hc21;obtain rfl:e21=x:=by have:l[k]? = some e21:=(by simpa using he21);rw[hx]at this;simpa using this.symm
   refine kV tk3 ?_;refine kmin2 ?_;refine ax (tT 0 [0,0,0]) ?_;refine ze ?_;refine zM ?_;refine zh ?_;refine At.round (k+1,min m e21) ?_ ?_ ?_ ?_
   ·show l.length-(k+1)<l.length-k;omega
   ·refine⟨rfl,by dsimp only;omega,?_,λj y hj hy=>?_⟩
    ·show min m e21∈l
     by_cases c:m<=e21
     ·rw[Int.min_eq_left c];exact hm
     ·rw[Int.min_eq_right (by omega)];exact List.mem_of_getElem? hx
    ·show min m e21<=y
     dsimp only at hj;by_cases hjk:j=k
     ·subst hjk;rw[hx]at hy;cases hy;omega
     ·have:=hok j y (by omega) hy;omega
   ·exact⟨rfl,rfl,ivs (by dsimp only;omega),trivial⟩
   ·exact Pt.zg
  ·obtain rfl:k=l.length:=by omega
   refine zb (tT 0 [0,0]) ?_;refine ze ?_;refine zh ?_;exact zL rfl (.tmp rfl) ⟨m,rfl,hm,λx hx=>by obtain⟨j,hj,rfl⟩:=List.getElem_of_mem hx;exact hok j _ hj (List.getElem?_eq_getElem hj)⟩
theorem SL.lit {V:View} {q:Addr} (qs:List (Option Addr×Nat×Nat)) (ll:List (List Int)) (m:Nat) (h:Cells V q (flat sle qs)) (hm:m=qs.length) (hl:qs.length=ll.length) (h1:qs.length<=1000000) (hq:∀ (i:Nat) (q:Option Addr×Nat×Nat) (l:List Int),qs[i]? = some q->ll[i]? = some l->SlI V (.slice q.1 q.2.1 q.2.2) l):SL V (.slice (some q) m m) ll:=
 ⟨qs,by subst hm;exact Sl.of_cells sle_len h (Nat.le_refl _) (by unfold maxLen;omega),hl,hq⟩
end Go.Proofs.YtnffcfhdnjbdbaaGreatDoor.P
namespace Go.Pm
open Go.Gl Go.Lw
theorem knK_len {rows:List ByteArray} (h:∀ r∈rows,r.size<=12):∀ i,(knK rows i).length<=12*i
 | 0=>Nat.le_refl _
 | i+1=>by
  have ih:=knK_len h i
  cases c:rows[i]? with
  | none=>simp only[knK,c];omega
  | some r=>rw[knK_at c,List.length_append];have:=knR_len r i r.size;have:=h r (List.mem_of_getElem? c);omega
theorem frR_at {r:ByteArray} (h:∀ k,k<r.size->okC (bv r k)=true):frR r=true:=by unfold frR;rw[List.all_eq_true];intro b hb;obtain⟨k,hk⟩:=List.getElem?_of_mem hb;have hl:=(List.getElem?_eq_some_iff.1 hk).1;rw[bt_len]at hl;have:=h k hl;unfold bv at this;rwa[show(bt r).getD k 0=b by simp[List.getD,hk]]at this
theorem frR_no {r:ByteArray} {k:Nat} (hk:k<r.size) (h:okC (bv r k)=false):frR r=false:=by
 cases c:frR r with
 | false=>rfl
 | true=>
  unfold frR at c;rw[List.all_eq_true]at c;have hl:k<(bt r).length:=by rw[bt_len];exact hk
  have:=c _ (List.getElem_mem hl)
  unfold bv at h;rw[show(bt r).getD k 0=(bt r)[k] by simp[List.getD,List.getElem?_eq_getElem hl],this]at h;cases h
end Go.Pm
namespace Go.Proofs.YtnffcfhdnjbdbaaGreatDoor.P
open Go.Lw Go.Gl Go.Pm Go.RowKit
theorem knotsOf_f (s:Sh) (hn:s.rows.length<=10) (hw:∀ r∈s.rows,r.size<=12) (V:View) (v:Value) (hv:ShV V v s):Fnc Tryz.prog 6 [v] V λr V'=>Sl V' cle 2 r (knL s):=by
 obtain⟨a,c,rfl,hs⟩:=hv;refine zG Tryz.func6 rfl Tryz.ntmps6 (Nat.le_of_ble_eq_true rfl) ?_;intro w0 hw0;refine zb (tT 0 [1,0]) ?_;refine qQ ?_;intro b1;refine ax (tT 0 [0]) ?_;refine zh ?_;refine xu 46 2 ?_;refine zP (tT 0 [0]) ?_;refine zh ?_;refine xc (ι:=Nat×Option Addr×Nat) (KS:=λg=>[(1,.pointer (some ⟨b1,0,none⟩)),(3,.slice g.2.1 (knK s.rows g.1).length g.2.2),(4,iv g.1)])
  (OS:=λg=>[.blk b1 (LC [.slice a s.rows.length c,iv s.most] 24),.row (.slice g.2.1 (knK s.rows g.1).length g.2.2) 46 2 (knK s.rows g.1).length (flat cle (knK s.rows g.1))])
  (VS:=λg V'=>Le V V'/\g.1<=s.rows.length) (μ:=λg=>s.rows.length-g.1) (0,none,0) ?_ ?_ ?_ ?_
 ·exact⟨rfl,rfl,rfl,trivial⟩
 ·exact Pt.zg
 ·exact⟨Le.refl _,Nat.zero_le _⟩
 rintro⟨i,ao,co⟩ V' ks' O' ⟨hVV,hil⟩ hk hO hl2;dsimp only at hil hk hO;subst hk hO;have hs':=hs.le hVV;refine zb (tT 0 [0,0,0,0,0]) ?_;refine ze ?_;refine zw qg ?_;refine kV jO ?_;refine zZ Tryz.underlying22 ?_;refine qc ?_;refine AtT.dn ?_;refine zI rfl (λhp=>?_) (λhp=>?_);rotate_left
 ·obtain rfl:i=s.rows.length:=by omega
  refine zb (tT 0 [0,0]) ?_;refine ze ?_;refine zh ?_;refine xw (l:=knL s) cle_len rfl rfl zo.zg (λV6 hV6 hs6=>?_);exact zL rfl (.tmp rfl) hs6
 obtain⟨r,hr⟩:∃ r,s.rows[i]? = some r:=⟨_,List.getElem?_eq_getElem (by omega)⟩;have hrs:=hw r (List.mem_of_getElem? hr);have hkl:=knK_len hw i;have hat:=knK_at hr;refine zb (tT 0 [0]) ?_;refine zh ?_;refine xc (ι:=Nat×Option Addr×Nat) (KS:=λg=>[(1,.pointer (some ⟨b1,0,none⟩)),(3,.slice g.2.1 (knK s.rows i++knR r i g.1).length g.2.2),(4,iv i),(5,iv g.1)])
  (OS:=λg=>[.blk b1 (LC [.slice a s.rows.length c,iv s.most] 24),.row (.slice g.2.1 (knK s.rows i++knR r i g.1).length g.2.2) 46 2 (knK s.rows i++knR r i g.1).length (flat cle (knK s.rows i++knR r i g.1))])
  (VS:=λg V''=>Le V' V''/\g.1<=r.size) (μ:=λg=>r.size-g.1) (0,ao,co) ?_ ?_ ?_ ?_
 ·simp only[knR,List.append_nil];exact⟨rfl,rfl,rfl,rfl,trivial⟩
 ·simp only[knR,List.append_nil];exact Pt.zg
 ·exact⟨Le.refl _,Nat.zero_le _⟩
 rintro⟨k,ao2,co2⟩ V2 ks' O' ⟨hV2,hkr⟩ hk hO hl3;dsimp only at hkr hk hO;subst hk hO;have hs2:=hs'.le hV2;have hkn:=knR_len r i k;have hll:(knK s.rows i++knR r i k).length<=140:=by rw[List.length_append];omega
 refine zb (tT 0 [0,0,0,0,0,0,0,0]) ?_;refine ze ?_;refine zw qg ?_;refine kV jO ?_;refine ze ?_;refine kZ Tryz.underlying22 tk9 ?_;intro p17 e17 he17 hc17;obtain rfl:=qx hr he17;refine kV tk9 ?_;refine qX rfl trivial Tryz.underlying9 rfl (by decide) ?_;refine qc ?_;refine AtT.dn ?_;refine zI rfl (λhp2=>?_) (λhp2=>?_);rotate_left
 ·obtain rfl:k=r.size:=by omega
  refine zb (tT 0 [0,0,0]) ?_;refine ze ?_;refine zM ?_;refine zh ?_;refine At.round (i+1,ao2,co2) ?_ ?_ ?_ ?_
  ·show s.rows.length-(i+1)<s.rows.length-i;omega
  ·exact⟨hVV.trans hV2,by dsimp only;omega⟩
  ·dsimp only;rw[hat];exact⟨rfl,rfl,ivs (by omega),trivial⟩
  ·dsimp only;rw[hat];exact Pt.zg
 refine nrmB ?_;refine cutG (ι:=Option Addr×Nat) (λg=>[(1,.pointer (some ⟨b1,0,none⟩)),(3,.slice g.1 (knK s.rows i++knR r i (k+1)).length g.2),(4,iv i),(5,iv k)])
  (λg=>[.blk b1 (LC [.slice a s.rows.length c,iv s.most] 24),.row (.slice g.1 (knK s.rows i++knR r i (k+1)).length g.2) 46 2 (knK s.rows i++knR r i (k+1)).length (flat cle (knK s.rows i++knR r i (k+1)))]) (λg V''=>Le V2 V'') ?_ ?_
 ·refine zb (tT 0 [0,0,0,0,0,0,0,0]) ?_;refine zw qg ?_;refine kV jO ?_;refine ze ?_;refine kZ Tryz.underlying22 tk9 ?_;intro p26 e26 he26 hc26;obtain rfl:=qx hr he26;refine kV tk9 ?_;refine ze ?_;refine xz rfl trivial Tryz.underlying9 rfl rfl (by omega) (by omega) (by decide) ?_;rw[Int.toNat_natCast];refine keqI ?_;refine AtT.dn ?_;refine zI rfl (λhb=>?_) (λhb=>?_)
  ·have hsn:knR r i (k+1)=knR r i k++[⟨(i:Int),(k:Int)⟩]:=by simp only[knR];rw[if_pos hb]
   refine zb (tT 0 [0,0,0,0,1,2,0]) ?_;refine ze ?_;refine ze ?_;refine ze ?_;refine qD (bd46_0_1 _ _) ?_;refine zy (bs28_1_0 _ _) ?_;intro q35 V35 hV35 hq35;have g35:Le V V35:=by first | exact hV35 | exact Le.trans (by assumption) hV35
   first | refine jq Tryz.underlying28 rw46 ?_
   intro a36 c36;refine zh ?_;refine qH (a36,c36) (by first | assumption | exact Le.refl _) ?_ ?_
   ·rw[hsn,<-List.append_assoc,List.length_append];exact⟨rfl,rfl,rfl,rfl,trivial⟩
   ·rw[hsn,<-List.append_assoc,zV,List.length_append];exact Pt.zg
  ·have hsn:knR r i (k+1)=knR r i k:=by simp only[knR];rw[if_neg hb]
   refine nrm ?_;refine qH (ao2,co2) (Le.refl _) ?_ ?_
   ·rw[hsn];exact⟨rfl,rfl,rfl,rfl,trivial⟩
   ·rw[hsn];exact Pt.zg
 rintro⟨ao3,co3⟩ V3 ks' O' hV3 hk hO hl4;dsimp only at hk hO;subst hk hO;refine zb (tT 0 [0,0,0]) ?_;refine ze ?_;refine zM ?_;refine zh ?_;refine At.round (k+1,ao3,co3) ?_ ?_ ?_ ?_
 ·show r.size-(k+1)<r.size-k;omega
 ·exact⟨hV2.trans hV3,by dsimp only;omega⟩
 ·exact⟨rfl,rfl,rfl,ivs (by dsimp only;omega),trivial⟩
 ·exact Pt.zg
theorem rsheet_f (s:Sh) (V:View) (v:Value) (hv:ShV V v s):Fnc Tryz.prog 4 [v] V λr _=>r=iv (chE s):=by
 obtain⟨a,c,rfl,hs⟩:=hv;have hlen:=hs.jC;refine zG Tryz.func4 rfl Tryz.ntmps4 (Nat.le_of_ble_eq_true rfl) ?_;intro w0 hw0;refine zb (tT 0 [1,0]) ?_;refine qQ ?_;intro b1;refine ax (tT 0 [0,0,0,0]) ?_;refine zw qg ?_;refine kV jO ?_;refine zZ Tryz.underlying22 ?_;refine zh ?_;by_cases n1:(s.rows.length:Int)<1
 ·refine zP (tT 0 [0,0,0,0,0,0,0,0,0,0,0,0,0,0,0,0,0,0,0,0,0,0,0,0,0,0,0,0,0,0,0,0]) ?_;refine ze ?_;refine qc ?_;refine xk (d:=12) rfl (n1) ?_;refine ze ?_;all_goals (first | refine kY 13 ?_ | refine kX (d:=13) rfl (λhg13=>?_) (λhg13=>?_) | refine kW (d:=13) rfl (λhg13=>?_) (λhg13=>?_))
  all_goals refine zJ ?_
  all_goals refine p_gt ?_
  all_goals refine zF ?_
  all_goals refine ze ?_
  all_goals (first | refine kY 17 ?_ | refine kX (d:=17) rfl (λhg17=>?_) (λhg17=>?_) | refine kW (d:=17) rfl (λhg17=>?_) (λhg17=>?_))
  all_goals refine ja qg ?_
  all_goals refine qi jO ?_
  all_goals first|refine AtT.kp ?_|(refine kZ Tryz.underlying22 tk9 ?_);(intro p20 e20 he20 hc20)
  all_goals refine qi tk9 ?_
  all_goals first|refine AtT.kp ?_|(refine qX rfl ⟨_,_,rfl,rfl,rfl⟩ Tryz.underlying9 rfl (by decide) ?_)
  all_goals refine p_lt ?_
  all_goals refine zF ?_
  all_goals refine ze ?_
  all_goals (first | refine kY 25 ?_ | refine kX (d:=25) rfl (λhg25=>?_) (λhg25=>?_) | refine kW (d:=25) rfl (λhg25=>?_) (λhg25=>?_))
  all_goals refine ja qg ?_
  all_goals refine qi jO ?_
  all_goals first|refine AtT.kp ?_|(refine kZ Tryz.underlying22 tk9 ?_);(intro p28 e28 he28 hc28)
  all_goals refine qi tk9 ?_
  all_goals first|refine AtT.kp ?_|(refine qX rfl ⟨_,_,rfl,rfl,rfl⟩ Tryz.underlying9 rfl (by decide) ?_)
  all_goals refine p_gt ?_
  all_goals refine zF ?_
  all_goals refine ze ?_
  all_goals (first | refine kY 33 ?_ | refine kX (d:=33) rfl (λhg33=>?_) (λhg33=>?_) | refine kW (d:=33) rfl (λhg33=>?_) (λhg33=>?_))
  all_goals refine ja fo24_1 ?_
  all_goals refine qi tk3 ?_
  all_goals refine p_lt ?_
  all_goals refine zF ?_
  all_goals refine ze ?_
  all_goals (first | refine kY 38 ?_ | refine kX (d:=38) rfl (λhg38=>?_) (λhg38=>?_) | refine kW (d:=38) rfl (λhg38=>?_) (λhg38=>?_))
  all_goals refine ja fo24_1 ?_
  all_goals refine qi tk3 ?_
  all_goals refine p_gt ?_
  all_goals refine zF ?_
  all_goals refine AtT.done ?_
  all_goals refine nrm ?_
  refine ql rfl rfl ?_;refine zb (tT 0 [0]) ?_;refine zh ?_;exact zL rfl (.tmp rfl) (by unfold chE;rw[if_pos (by omega)])
 by_cases n2:6<(s.rows.length:Int)
 ·refine zP (tT 0 [0,0,0,0,0,0,0,0,0,0,0,0,0,0,0,0,0,0,0,0,0,0,0,0,0,0,0,0,0,0,0,0]) ?_;refine ze ?_;refine qc ?_;refine xh (d:=12) rfl (n1) ?_;refine ze ?_;all_goals (first | refine kY 13 ?_ | refine kX (d:=13) rfl (λhg13=>?_) (λhg13=>?_) | refine kW (d:=13) rfl (λhg13=>?_) (λhg13=>?_))
  all_goals refine zJ ?_
  all_goals refine p_gt ?_
  all_goals refine xk (d:=15) rfl (n2) ?_
  all_goals refine zF ?_
  all_goals refine ze ?_
  all_goals (first | refine kY 17 ?_ | refine kX (d:=17) rfl (λhg17=>?_) (λhg17=>?_) | refine kW (d:=17) rfl (λhg17=>?_) (λhg17=>?_))
  all_goals refine ja qg ?_
  all_goals refine qi jO ?_
  all_goals first|refine AtT.kp ?_|(refine kZ Tryz.underlying22 tk9 ?_);(intro p20 e20 he20 hc20)
  all_goals refine qi tk9 ?_
  all_goals first|refine AtT.kp ?_|(refine qX rfl ⟨_,_,rfl,rfl,rfl⟩ Tryz.underlying9 rfl (by decide) ?_)
  all_goals refine p_lt ?_
  all_goals refine zF ?_
  all_goals refine ze ?_
  all_goals (first | refine kY 25 ?_ | refine kX (d:=25) rfl (λhg25=>?_) (λhg25=>?_) | refine kW (d:=25) rfl (λhg25=>?_) (λhg25=>?_))
  all_goals refine ja qg ?_
  all_goals refine qi jO ?_
  all_goals first|refine AtT.kp ?_|(refine kZ Tryz.underlying22 tk9 ?_);(intro p28 e28 he28 hc28)
  all_goals refine qi tk9 ?_
  all_goals first|refine AtT.kp ?_|(refine qX rfl ⟨_,_,rfl,rfl,rfl⟩ Tryz.underlying9 rfl (by decide) ?_)
  all_goals refine p_gt ?_
  all_goals refine zF ?_
  all_goals refine ze ?_
  all_goals (first | refine kY 33 ?_ | refine kX (d:=33) rfl (λhg33=>?_) (λhg33=>?_) | refine kW (d:=33) rfl (λhg33=>?_) (λhg33=>?_))
  all_goals refine ja fo24_1 ?_
  all_goals refine qi tk3 ?_
  all_goals refine p_lt ?_
  all_goals refine zF ?_
  all_goals refine ze ?_
  all_goals (first | refine kY 38 ?_ | refine kX (d:=38) rfl (λhg38=>?_) (λhg38=>?_) | refine kW (d:=38) rfl (λhg38=>?_) (λhg38=>?_))
  all_goals refine ja fo24_1 ?_
  all_goals refine qi tk3 ?_
  all_goals refine p_gt ?_
  all_goals refine zF ?_
  all_goals refine AtT.done ?_
  all_goals refine nrm ?_
  refine ql rfl rfl ?_;refine zb (tT 0 [0]) ?_;refine zh ?_;exact zL rfl (.tmp rfl) (by unfold chE;rw[if_pos (by omega)])
 obtain⟨r0,hr0⟩:∃ r,s.rows[0]? = some r:=⟨_,List.getElem?_eq_getElem (by omega)⟩;have hwd:wdS s=r0.size:=by unfold wdS row0;rw[row_at hr0]
 refine zP (tT 0 [0,0,0,0,0,0,0,0,0,0,0,0,0,0,0,0,0,0,0,0,0,0,0,0,0,0,0,0,0,0,0,0]) ?_;refine ze ?_;refine qc ?_;refine xh (d:=12) rfl (n1) ?_;refine ze ?_;all_goals (first | refine kY 13 ?_ | refine kX (d:=13) rfl (λhg13=>?_) (λhg13=>?_) | refine kW (d:=13) rfl (λhg13=>?_) (λhg13=>?_))
 all_goals refine zJ ?_
 all_goals refine p_gt ?_
 all_goals refine xh (d:=15) rfl (n2) ?_
 all_goals refine zF ?_
 all_goals refine ze ?_
 all_goals (first | refine kY 17 ?_ | refine kX (d:=17) rfl (λhg17=>?_) (λhg17=>?_) | refine kW (d:=17) rfl (λhg17=>?_) (λhg17=>?_))
 all_goals refine ja qg ?_
 all_goals refine qi jO ?_
 all_goals first|refine AtT.kp ?_|(refine kZ Tryz.underlying22 tk9 ?_);(intro p20 e20 he20 hc20)
 all_goals (obtain rfl:=qx hr0 he20)
 all_goals refine qi tk9 ?_
 all_goals first|refine AtT.kp ?_|(refine qX rfl ⟨_,_,rfl,rfl,rfl⟩ Tryz.underlying9 rfl (by decide) ?_)
 all_goals refine p_lt ?_
 all_goals refine zF ?_
 all_goals refine ze ?_
 all_goals (first | refine kY 25 ?_ | refine kX (d:=25) rfl (λhg25=>?_) (λhg25=>?_) | refine kW (d:=25) rfl (λhg25=>?_) (λhg25=>?_))
 all_goals refine ja qg ?_
 all_goals refine qi jO ?_
 all_goals first|refine AtT.kp ?_|(refine kZ Tryz.underlying22 tk9 ?_);(intro p28 e28 he28 hc28)
 all_goals (first | (obtain rfl:=qx hr0 he28) | skip)
 all_goals refine qi tk9 ?_
 all_goals first|refine AtT.kp ?_|(refine qX rfl ⟨_,_,rfl,rfl,rfl⟩ Tryz.underlying9 rfl (by decide) ?_)
 all_goals refine p_gt ?_
 all_goals refine zF ?_
 all_goals refine ze ?_
 all_goals (first | refine kY 33 ?_ | refine kX (d:=33) rfl (λhg33=>?_) (λhg33=>?_) | refine kW (d:=33) rfl (λhg33=>?_) (λhg33=>?_))
 all_goals refine ja fo24_1 ?_
 all_goals refine qi tk3 ?_
 all_goals refine p_lt ?_
 all_goals refine zF ?_
 all_goals refine ze ?_
 all_goals (first | refine kY 38 ?_ | refine kX (d:=38) rfl (λhg38=>?_) (λhg38=>?_) | refine kW (d:=38) rfl (λhg38=>?_) (λhg38=>?_))
 all_goals refine ja fo24_1 ?_
 all_goals refine qi tk3 ?_
 all_goals refine p_gt ?_
 all_goals refine zF ?_
 all_goals refine AtT.done ?_
 all_goals refine nrm ?_
 iterate 3
  focus
   refine ql rfl rfl ?_;refine zb (tT 0 [0]) ?_;refine zh ?_;exact zL rfl (.tmp rfl) (by unfold chE;rw[if_pos (by omega)])
 refine zI rfl (λn6=>?_) (λn6=>?_)
 ·refine zb (tT 0 [0]) ?_;refine zh ?_;exact zL rfl (.tmp rfl) (by unfold chE;rw[if_pos (by omega)])
 have hok:1<=s.rows.length/\s.rows.length<=6/\1<=wdS s/\wdS s<=6/\1<=s.most/\s.most<=36:=by omega
 refine zb (tT 0 [0]) ?_;refine zh ?_;refine xc (ι:=Nat) (KS:=λk=>[(1,.pointer (some ⟨b1,0,none⟩)),(3,iv s.rows.length),(4,iv k)]) (OS:=λ_=>[.blk b1 (LC [.slice a s.rows.length c,iv s.most] 24)]) (VS:=λk V'=>V'=V/\k<=s.rows.length/\∀ j (r:ByteArray),j<k->s.rows[j]? = some r->r.size=wdS s) (μ:=λk=>s.rows.length-k) 0 ?_ ?_ ?_ ?_
 ·exact⟨rfl,rfl,rfl,trivial⟩
 ·exact Pt.zg
 ·exact⟨rfl,Nat.zero_le _,λj r hj=>absurd hj (Nat.not_lt_zero j)⟩
 rintro k V' ks' O' ⟨rfl,hkl,hsz⟩ hk hO hl2;subst hk hO;refine zb (tT 0 [0,0,0]) ?_;refine ze ?_;refine ze ?_;refine qc ?_;refine AtT.dn ?_;refine zI rfl (λhp=>?_) (λhp=>?_)
 ·obtain⟨r,hr⟩:∃ r,s.rows[k]? = some r:=⟨_,List.getElem?_eq_getElem (by omega)⟩;refine nrm ?_;by_cases hne:(r.size:Int)≠(r0.size:Int)
  ·refine xm (tT 0 [0,0,0,0,0,0,0,0,0,0,0,0]) ffm (by kernel_rfl) ?_;refine zw qg ?_;refine kV jO ?_;refine ze ?_;refine kZ Tryz.underlying22 tk9 ?_;intro p51 e51 he51 hc51;obtain rfl:=qx hr he51;refine kV tk9 ?_;refine qX rfl trivial Tryz.underlying9 rfl (by decide) ?_;refine zw qg ?_;refine kV jO ?_;refine kZ Tryz.underlying22 tk9 ?_;intro p56 e56 he56 hc56;obtain rfl:=qx hr0 he56;refine kV tk9 ?_;refine qX rfl trivial Tryz.underlying9 rfl (by decide) ?_;refine kJ ?_;refine xk (d:=59) rfl (hne) ?_;refine AtT.dn ?_;all_goals
    refine ql rfl rfl ?_;refine zb (tT 0 [0]) ?_;refine zh ?_;exact zL rfl (.tmp rfl) (by unfold chE;rw[if_neg (by omega),if_pos (List.any_eq_true.2 ⟨r,List.mem_of_getElem? hr,decide_eq_true (by omega)⟩)])
  ·refine xm (tT 0 [0,0,0,0,0,0,0,0,0,0,0,0]) ffm (by kernel_rfl) ?_;refine zw qg ?_;refine kV jO ?_;refine ze ?_;refine kZ Tryz.underlying22 tk9 ?_;intro p51 e51 he51 hc51;obtain rfl:=qx hr he51;refine kV tk9 ?_;refine qX rfl trivial Tryz.underlying9 rfl (by decide) ?_;refine zw qg ?_;refine kV jO ?_;refine kZ Tryz.underlying22 tk9 ?_;intro p56 e56 he56 hc56;obtain rfl:=qx hr0 he56;refine kV tk9 ?_;refine qX rfl trivial Tryz.underlying9 rfl (by decide) ?_;refine kJ ?_;refine xh (d:=59) rfl (hne) ?_;refine AtT.dn ?_;all_goals
    refine zS rfl rfl ?_;refine zb (tT 0 [0,0,0]) ?_;refine ze ?_;refine zM ?_;refine zh ?_;refine At.round (k+1) ?_ ?_ ?_ ?_
    ·show s.rows.length-(k+1)<s.rows.length-k;omega
    ·refine⟨rfl,by omega,λj q hj hq=>?_⟩;by_cases e:j=k
     ·subst e;rw[hr]at hq;cases hq;omega
     ·exact hsz j q (by omega) hq
    ·exact⟨rfl,rfl,ivs (by omega),trivial⟩
    ·exact Pt.zg
 have hall:∀ r∈s.rows,r.size=wdS s:=λr hr=>by obtain⟨j,hj⟩:=List.getElem?_of_mem hr;exact hsz j r (by have:=(List.getElem?_eq_some_iff.1 hj).1;omega) hj
 have hany:(s.rows.any λr=>decide (r.size≠wdS s))≠true:=λhc=>by obtain⟨r,hr,hd⟩:=List.any_eq_true.1 hc;exact absurd (hall r hr) (of_decide_eq_true hd)
 refine zb (tT 0 [0]) ?_;refine zh ?_;refine xc (ι:=Nat) (KS:=λk=>[(1,.pointer (some ⟨b1,0,none⟩)),(3,iv s.rows.length),(5,iv k)]) (OS:=λ_=>[.blk b1 (LC [.slice a s.rows.length c,iv s.most] 24)]) (VS:=λk V2=>V2=V'/\k<=s.rows.length/\∀ j (r:ByteArray),j<k->s.rows[j]? = some r->frR r=true) (μ:=λk=>s.rows.length-k) 0 ?_ ?_ ?_ ?_
 ·exact⟨rfl,rfl,rfl,trivial⟩
 ·exact Pt.zg
 ·exact⟨rfl,Nat.zero_le _,λj r hj=>absurd hj (Nat.not_lt_zero j)⟩
 rintro i V2 ks' O' ⟨rfl,hil,hfr⟩ hk hO hl3;subst hk hO;refine zb (tT 0 [0,0,0]) ?_;refine ze ?_;refine ze ?_;refine qc ?_;refine AtT.dn ?_;refine zI rfl (λhp3=>?_) (λhp3=>?_)
 ·obtain⟨r,hr⟩:∃ r,s.rows[i]? = some r:=⟨_,List.getElem?_eq_getElem (by omega)⟩;have hrm:=List.mem_of_getElem? hr;have hrs:=hall r hrm;refine zb (tT 0 [0]) ?_;refine zh ?_;refine xc (ι:=Nat) (KS:=λk=>[(1,.pointer (some ⟨b1,0,none⟩)),(3,iv s.rows.length),(5,iv i),(6,iv k)]) (OS:=λ_=>[.blk b1 (LC [.slice a s.rows.length c,iv s.most] 24)]) (VS:=λk V3=>V3=V2/\k<=r.size/\∀ j,j<k->okC (bv r j)=true) (μ:=λk=>r.size-k) 0 ?_ ?_ ?_ ?_
  ·exact⟨rfl,rfl,rfl,rfl,trivial⟩
  ·exact Pt.zg
  ·exact⟨rfl,Nat.zero_le _,λj hj=>absurd hj (Nat.not_lt_zero j)⟩
  rintro k V3 ks' O' ⟨rfl,hkr,hok2⟩ hk hO hl4;subst hk hO;refine zb (tT 0 [0,0,0,0,0,0,0,0]) ?_;refine ze ?_;refine zw qg ?_;refine kV jO ?_;refine ze ?_;refine kZ Tryz.underlying22 tk9 ?_;intro p69 e69 he69 hc69;obtain rfl:=qx hr he69;refine kV tk9 ?_;refine qX rfl trivial Tryz.underlying9 rfl (by decide) ?_;refine qc ?_;refine AtT.dn ?_;refine zI rfl (λhp4=>?_) (λhp4=>?_)
  ·refine zb (tT 0 [0,0,0,0,0,0,0,0]) ?_;refine zw qg ?_;refine kV jO ?_;refine ze ?_;refine kZ Tryz.underlying22 tk9 ?_;intro p78 e78 he78 hc78;obtain rfl:=qx hr he78;refine kV tk9 ?_;refine ze ?_;refine xz rfl trivial Tryz.underlying9 rfl rfl (by omega) (by omega) (by decide) ?_;rw[Int.toNat_natCast];refine zh ?_;by_cases hc:okC (bv r k)=true;rotate_left
   ·have hc':okC (bv r k)=false:=by cases h:okC (bv r k)with | true=>exact absurd h hc | false=>rfl
    have hc3:¬ (bv r k=46\/bv r k=111\/bv r k=35):=by unfold okC at hc';exact of_decide_eq_false hc'
    refine zP (tT 0 [0,0,0,0,0,0,0,0,0,0]) ?_;refine ze ?_;refine kJ ?_;refine xk (d:=83) rfl ((by omega)) ?_;refine ze ?_;all_goals (first | refine kY 84 ?_ | refine kX (d:=84) rfl (λhg84=>?_) (λhg84=>?_) | refine kW (d:=84) rfl (λhg84=>?_) (λhg84=>?_))
    all_goals refine zJ ?_
    all_goals refine p_ne ?_
    all_goals (refine xk (d:=86) rfl ((by omega)) ?_)
    all_goals refine zF ?_
    all_goals refine ze ?_
    all_goals (first | refine kY 88 ?_ | refine kX (d:=88) rfl (λhg88=>?_) (λhg88=>?_) | refine kW (d:=88) rfl (λhg88=>?_) (λhg88=>?_))
    all_goals refine zJ ?_
    all_goals refine p_ne ?_
    all_goals (refine xk (d:=90) rfl ((by omega)) ?_)
    all_goals refine zF ?_
    all_goals refine AtT.done ?_
    all_goals refine nrm ?_
    refine ql rfl rfl ?_;refine zb (tT 0 [0]) ?_;refine zh ?_;exact zL rfl (.tmp rfl) (by
     have hno:s.rows.all frR=false:=by
      cases h:s.rows.all frR with
      | false=>rfl
      | true=>have:=List.all_eq_true.1 h r hrm;rw[frR_no (by omega) hc']at this;cases this
     unfold chE;rw[if_neg (by omega),if_neg hany,if_pos hno])
   have hc3:bv r k=46\/bv r k=111\/bv r k=35:=by unfold okC at hc;exact of_decide_eq_true hc
   refine cutG (ι:=Unit) (λ_=>[(1,.pointer (some ⟨b1,0,none⟩)),(3,iv s.rows.length),(5,iv i),(6,iv k),(91,.bool false)]) (λ_=>[.blk b1 (LC [.slice a s.rows.length c,iv s.most] 24)]) (λ_ V4=>V4=V3) ?_ ?_
   ·by_cases h1:bv r k=46
    ·refine zP (tT 0 [0,0,0,0,0,0,0,0,0,0]) ?_;refine ze ?_;refine kJ ?_;refine xh (d:=83) rfl ((by omega)) ?_;refine ze ?_;all_goals (first | refine kY 84 ?_ | refine kX (d:=84) rfl (λhg84=>?_) (λhg84=>?_) | refine kW (d:=84) rfl (λhg84=>?_) (λhg84=>?_))
     all_goals refine zJ ?_
     all_goals refine p_ne ?_
     all_goals refine zF ?_
     all_goals refine ze ?_
     all_goals (first | refine kY 88 ?_ | refine kX (d:=88) rfl (λhg88=>?_) (λhg88=>?_) | refine kW (d:=88) rfl (λhg88=>?_) (λhg88=>?_))
     all_goals refine zJ ?_
     all_goals refine p_ne ?_
     all_goals refine zF ?_
     all_goals refine AtT.done ?_
     all_goals refine nrm ?_
     exact qH () rfl ⟨rfl,rfl,rfl,rfl,rfl,trivial⟩ Pt.zg
    by_cases h2:bv r k=111
    ·refine zP (tT 0 [0,0,0,0,0,0,0,0,0,0]) ?_;refine ze ?_;refine kJ ?_;refine xk (d:=83) rfl ((by omega)) ?_;refine ze ?_;all_goals (first | refine kY 84 ?_ | refine kX (d:=84) rfl (λhg84=>?_) (λhg84=>?_) | refine kW (d:=84) rfl (λhg84=>?_) (λhg84=>?_))
     all_goals refine zJ ?_
     all_goals refine p_ne ?_
     all_goals (refine xh (d:=86) rfl ((by omega)) ?_)
     all_goals refine zF ?_
     all_goals refine ze ?_
     all_goals (first | refine kY 88 ?_ | refine kX (d:=88) rfl (λhg88=>?_) (λhg88=>?_) | refine kW (d:=88) rfl (λhg88=>?_) (λhg88=>?_))
     all_goals refine zJ ?_
     all_goals refine p_ne ?_
     all_goals refine zF ?_
     all_goals refine AtT.done ?_
     all_goals refine nrm ?_
     exact qH () rfl ⟨rfl,rfl,rfl,rfl,rfl,trivial⟩ Pt.zg
    ·refine zP (tT 0 [0,0,0,0,0,0,0,0,0,0]) ?_;refine ze ?_;refine kJ ?_;refine xk (d:=83) rfl ((by omega)) ?_;refine ze ?_;all_goals (first | refine kY 84 ?_ | refine kX (d:=84) rfl (λhg84=>?_) (λhg84=>?_) | refine kW (d:=84) rfl (λhg84=>?_) (λhg84=>?_))
     all_goals refine zJ ?_
     all_goals refine p_ne ?_
     all_goals (refine xk (d:=86) rfl ((by omega)) ?_)
     all_goals refine zF ?_
     all_goals refine ze ?_
     all_goals (first | refine kY 88 ?_ | refine kX (d:=88) rfl (λhg88=>?_) (λhg88=>?_) | refine kW (d:=88) rfl (λhg88=>?_) (λhg88=>?_))
     all_goals refine zJ ?_
     all_goals refine p_ne ?_
     all_goals (refine xh (d:=90) rfl ((by omega)) ?_)
     all_goals refine zF ?_
     all_goals refine AtT.done ?_
     all_goals refine nrm ?_
     exact qH () rfl ⟨rfl,rfl,rfl,rfl,rfl,trivial⟩ Pt.zg
   rintro _ V4 ks' O' rfl hk hO hl5;subst hk hO;refine zS rfl rfl ?_;refine zb (tT 0 [0,0,0]) ?_;refine ze ?_;refine zM ?_;refine zh ?_;refine At.round (k+1) ?_ ?_ ?_ ?_
   ·show r.size-(k+1)<r.size-k;omega
   ·refine⟨rfl,by omega,λj hj=>?_⟩;by_cases e:j=k
    ·subst e;exact hc
    ·exact hok2 j (by omega)
   ·exact⟨rfl,rfl,rfl,ivs (by omega),trivial⟩
   ·exact Pt.zg
  ·obtain rfl:k=r.size:=by omega
   refine zb (tT 0 [0,0,0]) ?_;refine ze ?_;refine zM ?_;refine zh ?_;refine At.round (i+1) ?_ ?_ ?_ ?_
   ·show s.rows.length-(i+1)<s.rows.length-i;omega
   ·refine⟨rfl,by omega,λj q hj hq=>?_⟩;by_cases e:j=i
    ·subst e;rw[hr]at hq;cases hq;exact frR_at hok2
    ·exact hfr j q (by omega) hq
   ·exact⟨rfl,rfl,ivs (by omega),trivial⟩
   ·exact Pt.zg
 have hfa:s.rows.all frR=true:=List.all_eq_true.2 λr hr=>by obtain⟨j,hj⟩:=List.getElem?_of_mem hr;exact hfr j r (by have:=(List.getElem?_eq_some_iff.1 hj).1;omega) hj
 refine nrm ?_;by_cases hk10:10<((knL s).length:Int)
 ·refine zP (tT 0 [0,1,0,0]) ?_;refine qo tk24 ?_;refine kK rfl rfl ok6 (knotsOf_f s (by omega) (λr hr=>by have:=hall r hr;omega) _ _ ⟨_,_,rfl,hs⟩) ?_;rintro v93 V93 hV93 hs93;refine zZ Tryz.underlying28 ?_;refine kgtr ?_;refine xk (d:=95) rfl (hk10) ?_;refine AtT.dn ?_;refine ql rfl rfl ?_;refine zb (tT 0 [0]) ?_;refine zh ?_;exact zL rfl (.tmp rfl) (by unfold chE;rw[if_neg (by omega),if_neg hany,if_neg (by rw[hfa];decide),if_pos (by omega)])
 ·refine zP (tT 0 [0,1,0,0]) ?_;refine qo tk24 ?_;refine kK rfl rfl ok6 (knotsOf_f s (by omega) (λr hr=>by have:=hall r hr;omega) _ _ ⟨_,_,rfl,hs⟩) ?_;rintro v93 V93 hV93 hs93;refine zZ Tryz.underlying28 ?_;refine kgtr ?_;refine xh (d:=95) rfl (hk10) ?_;refine AtT.dn ?_;refine zS rfl rfl ?_;refine zb (tT 0 [0]) ?_;refine zh ?_;exact zL rfl (.tmp rfl) (by unfold chE;rw[if_neg (by omega),if_neg hany,if_neg (by rw[hfa];decide),if_neg (by omega)])
end Go.Proofs.YtnffcfhdnjbdbaaGreatDoor.P
namespace Go.Pm
open Go.Gl Go.Lw
theorem mnL_bd {f:Cl->Int} : ∀ {l:List Cl},(∀ k∈l,0<=f k)->0<=mnL f l/\mnL f l<=99
 | [],_=>by simp[mnL]
 | k::l,h=>by
  have a:=h k List.mem_cons_self
  have b:=mnL_bd (f:=f) (l:=l) λx hx=>h x (List.mem_cons_of_mem _ hx)
  simp only[mnL];omega
theorem mxL_bd {f:Cl->Int} : ∀ {l:List Cl},(∀ k∈l,f k<=99)->-1<=mxL f l/\mxL f l<=99
 | [],_=>by simp[mxL]
 | k::l,h=>by
  have a:=h k List.mem_cons_self
  have b:=mxL_bd (f:=f) (l:=l) λx hx=>h x (List.mem_cons_of_mem _ hx)
  simp only[mxL];omega
theorem ar_bd {h w:Int} (h1:1<=h/\h<=6) (w1:1<=w/\w<=6):1<=h*w/\h*w<=36:=by
 have a:=Int.mul_le_mul (a:=1) (b:=1) (c:=h) (d:=w) (by omega) (by omega) (by omega) (by omega)
 have b:=Int.mul_le_mul (a:=h) (b:=w) (c:=6) (d:=6) (by omega) (by omega) (by omega) (by omega)
 omega
def frE (g:Gd):List Pc->Int
 | []=>0
 | p::ps=>if peE g p≠0 then peE g p else frE g ps
end Go.Pm
namespace Go.Proofs.YtnffcfhdnjbdbaaGreatDoor.P
open Go.Lw Go.Gl Go.Pm Go.RowKit
theorem sh_row0 {s:Sh} (h:ShOk s):∃ r0,s.rows[0]? = some r0/\r0.size=wdS s:=by
 have:=h.n
 obtain⟨r0,hr0⟩:∃ r,s.rows[0]? = some r:=⟨_,List.getElem?_eq_getElem (by omega)⟩;exact⟨r0,hr0,h.sz r0 (List.mem_of_getElem? hr0)⟩
end Go.Proofs.YtnffcfhdnjbdbaaGreatDoor.P
namespace Go.Pm
open Go.Gl Go.Lw
def fgP (rows:List ByteArray) (C i k:Nat):List Int:=(List.range 49).map λj=>if (j / 7<=i\/(j / 7=i+1/\j % 7<=k))/\j % 7<=C then fgN rows (j / 7) (j % 7)else 0
theorem fgP_len (rows:List ByteArray) (C i k:Nat):(fgP rows C i k).length=49:=by unfold fgP;simp
theorem fgP_get (rows:List ByteArray) (C i k j:Nat):(fgP rows C i k)[j]? = if j<49 then some (if (j / 7<=i\/(j / 7=i+1/\j % 7<=k))/\j % 7<=C then fgN rows (j / 7) (j % 7)else 0)else none:=by
 unfold fgP;rw[List.getElem?_map];by_cases h:j<49
 ·rw[if_pos h,List.getElem?_range h];rfl
 ·rw[if_neg h,List.getElem?_eq_none (by simp;omega)];rfl
theorem fgP_at (rows:List ByteArray) {C i k a b:Nat} (ha:a<=6) (hb:b<=6) (h:a<=i\/(a=i+1/\b<=k)) (hC:b<=C):(fgP rows C i k)[a*7+b]? = some (fgN rows a b):=by
 rw[fgP_get,if_pos (by omega)];have e1:(a*7+b) / 7=a:=by omega
 have e2:(a*7+b) % 7=b:=by omega
 rw[e1,e2,if_pos ⟨h,hC⟩]
theorem fgP_start (rows:List ByteArray) (C:Nat):fgP rows C 0 0=List.replicate 49 0:=by
 apply List.ext_getElem?;intro j;rw[fgP_get,List.getElem?_replicate];by_cases h:j<49
 ·rw[if_pos h,if_pos h];split
  ·rename_i hc;rcases hc.1 with h1 | ⟨h1,h2⟩
   ·rw[show j / 7=0 by omega];rfl
   ·rw[show j % 7=0 by omega,fgN_z]
  ·rfl
 ·rw[if_neg h,if_neg h]
theorem fgP_step (rows:List ByteArray) {C i k:Nat} (hk:k<C) (hC:C<=6) (hi:i<6):(fgP rows C i k).set ((i+1)*7+(k+1)) (fgN rows (i+1) (k+1))=fgP rows C i (k+1):=by
 apply List.ext_getElem?;intro j;rw[List.getElem?_set,fgP_len];by_cases e:(i+1)*7+(k+1)=j
 ·subst e;rw[if_pos rfl,if_pos (by omega),fgP_at rows (by omega) (by omega) (.inr ⟨rfl,Nat.le_refl _⟩) (by omega)]
 ·rw[if_neg e,fgP_get,fgP_get];by_cases h:j<49
  ·rw[if_pos h,if_pos h];congr 1;have:(((j / 7<=i\/j / 7=i+1/\j % 7<=k)/\j % 7<=C))↔(((j / 7<=i\/j / 7=i+1/\j % 7<=k+1)/\j % 7<=C)):=by omega
   simp only[this]
  ·rw[if_neg h,if_neg h]
theorem fgP_row (rows:List ByteArray) (C i:Nat):fgP rows C i C=fgP rows C (i+1) 0:=by
 apply List.ext_getElem?;intro j;rw[fgP_get,fgP_get];by_cases h:j<49
 ·rw[if_pos h,if_pos h];congr 1;by_cases c:j / 7=i+2/\j % 7=0
  ·rw[if_neg (by omega),if_pos (by omega),c.2,fgN_z]
  ·have:(((j / 7<=i\/j / 7=i+1/\j % 7<=C)/\j % 7<=C))↔(((j / 7<=i+1\/j / 7=i+1+1/\j % 7<=0)/\j % 7<=C)):=by omega
   simp only[this]
 ·rw[if_neg h,if_neg h]
def fgF (s:Sh):List Int:=fgP s.rows (wdS s) s.rows.length 0
theorem fgF_len (s:Sh):(fgF s).length=49:=fgP_len _ _ _ _
theorem fgF_at (s:Sh) {a b:Nat} (ha:a<=6) (hb:b<=6) (h:a<=s.rows.length) (hC:b<=wdS s):(fgF s)[a*7+b]? = some (fgN s.rows a b):=fgP_at _ ha hb (.inl h) hC
theorem fgF_zero {s:Sh} (hok:ShOk s) (h:fgF s=List.replicate 49 0) {p:Pc} (h0:0<=p.t) (h1:0<=p.l) (h2:0<=p.h) (h3:0<=p.w) (hR:p.t+p.h<=s.rows.length) (hC:p.l+p.w<=wdS s):hasF (gdS s) p=false:=by
 have hn:=hok.n
 have hw:=hok.w
 have hz:∀ a b:Nat,a<=s.rows.length->b<=wdS s->fgN s.rows a b=0:=λa b ha hb=>by
  have e:=fgF_at s (a:=a) (b:=b) (by omega) (by omega) ha hb
  rw[h,List.getElem?_replicate]at e;split at e
  ·exact(Option.some.inj e).symm
  ·cases e
 cases c:hasF (gdS s) p with
 | false=>rfl
 | true=>
  have:=(fig_sums h0 h1 h2 h3).2 c
  rw[hz _ _ (by omega) (by omega),hz _ _ (by omega) (by omega),hz _ _ (by omega) (by omega),hz _ _ (by omega) (by omega)]at this;omega
theorem fgN_le {s:Sh} (hok:ShOk s) {a b:Nat} (ha:a<=s.rows.length) (hb:b<=wdS s):0<=fgN s.rows a b/\fgN s.rows a b<=36:=by
 have hn:=hok.n
 have hw:=hok.w
 have h:=fgN_bd s.rows b a
 refine⟨h.1,Int.le_trans h.2 ?_⟩;have:(a:Int)*b<=6*6:=Int.mul_le_mul (by omega) (by omega) (by omega) (by omega);omega
end Go.Pm
namespace Go.Proofs.YtnffcfhdnjbdbaaGreatDoor.P
open Go.Lw Go.Gl Go.Pm Go.RowKit
theorem above_f (S:List Int) (b:Nat) (i k:Nat) (x:Int) (hx:S[i*7+k]? = some x) (hb:i*7+k<49) (V:View) (hc:Cells V ⟨b,3,none⟩ (flat ei S)):Fnc Tryz.prog 119 [.pointer (some ⟨b,0,none⟩),iv i,iv k] V λr _=>r=iv x:=by
 have hcx:jb V ⟨b,0+3+(i*7+k),none⟩=some (iv x):=by have:=hc (i*7+k) (iv x) (by rw[qU,List.getElem?_map,hx];rfl);rw[Addr.add_lit]at this;rw[show 0+3+(i*7+k)=3+(i*7+k) by omega];exact this
 refine zG Tryz.func119 rfl Tryz.ntmps119 (Nat.le_of_ble_eq_true rfl) ?_;intro w0 hw0;refine zb (tT 0 [0]) ?_;refine zh ?_;have e:((i:Int)*7+(k:Int)).toNat*1=i*7+k:=by omega
 refine zP (tT 0 [0,0,0,0,0,0,0,0,0,0]) ?_;refine ze ?_;refine ze ?_;first | refine kmul ?_ | refine kmulW ?_
 refine ze ?_;refine zM ?_;refine jh ?_;refine zw fo55_2 ?_;refine kidxA Tryz.underlying53 tk3 ?_;refine kload tk3 (v:=iv x) ?_ (hc:=by rw[e];exact hcx);refine zh ?_;exact zL rfl (.tmp rfl) rfl
abbrev bnc (a:Option Addr) (n c:Nat) (m:Int) (ak:Option Addr) (nk ck:Nat) (S:List Int):List Value:=.slice a n c::iv m::.slice ak nk ck::flat ei S
theorem bnc_sums {V:View} {b:Nat} {x y z:Value} {S:List Int} {E:TypeId} (h:V b=some (LC (x::y::z::flat ei S) E)):Cells V ⟨b,3,none⟩ (flat ei S):=by
 have:=(zQ h).at (k:=3) (vs:=flat ei S) λj u hj=>by rw[show 3+j=j+1+1+1 by omega,List.getElem?_cons_succ,List.getElem?_cons_succ,List.getElem?_cons_succ];exact hj
 rwa[Addr.add_lit]at this
def BnV (V:View) (b:Nat) (s:Sh):Prop:=∃ a c ak ck,V b=some (LC (bnc a s.rows.length c s.most ak (knL s).length ck (fgF s)) 55)/\Sl V bse 1 (.slice a s.rows.length c) s.rows/\Sl V cle 2 (.slice ak (knL s).length ck) (knL s)
theorem BnV.le {V V':View} {b:Nat} {s:Sh} (h:BnV V b s) (hl:Le V V'):BnV V' b s:=by obtain⟨a,c,ak,ck,h1,h2,h3⟩:=h;exact⟨a,c,ak,ck,hl _ _ h1,h2.le hl,h3.le hl⟩
theorem slice86 (b:Nat) (w:World):(Instr.sliceAt 53 (.pointer (some ⟨b,0+3,none⟩)) none none none).run Tryz.prog w=.ok (.slice (some ⟨b,3,none⟩) 49 49) w:=by kernel_rfl
theorem sums_set (S:List Int) (i:Nat) (x:Int) (hS:S.length=49) (hi:i<49) (a y z:Value):SetAt (a::y::z::flat ei S) (0+3+i) (iv x) (a::y::z::flat ei (S.set i x)):=by refine setAt_of (by simp only[List.length_cons];rw[zU Lw.jP,hS];omega) ?_;rw[show 0+3+i=i+1+1+1 by omega,List.set_cons_succ,List.set_cons_succ,List.set_cons_succ,qU,qU,List.map_set]
theorem newBench_f (s:Sh) (hok:ShOk s) (V:View) (v:Value) (hv:ShV V v s):Fnc Tryz.prog 55 [v] V λr V'=>∃ b,r=.pointer (some ⟨b,0,none⟩)/\BnV V' b s:=by
 obtain⟨a,c,rfl,hs⟩:=hv;have hn:=hok.n;have hw:=hok.w;have hlen:=hs.jC;refine zG Tryz.func55 rfl Tryz.ntmps55 (Nat.le_of_ble_eq_true rfl) ?_;intro w0 hw0;refine zb (tT 0 [1,0]) ?_;refine qQ ?_;intro b1;refine ax (tT 0 [0,0,1,0]) ?_;refine qo tk24 ?_;refine qD (bd55_0 _ _ _ _) ?_;refine qQ ?_;intro b10;refine ax (tT 0 [0,0,0,0,2]) ?_;refine ze ?_;refine jh ?_;refine zw fo55_2 ?_;refine xE rfl trivial rfl (slice86 b10) (by decide) ?_;refine clearAt rfl trivial Tryz.underlying34 z3 rfl (by kernel_rfl) (Nat.le_of_ble_eq_true rfl) (by rfl) (by rfl) (by repeat first|exact Upd.here|apply Upd.there) ?_ (us:=flat ei (List.replicate 49 0)) (cs:=bnc a s.rows.length c s.most none 0 0 (List.replicate 49 0)) (xs:=bnc a s.rows.length c s.most none 0 0 (List.replicate 49 0));refine xq (tT 0 [0,0,0,0,0,0,0]) ?_;refine ze ?_;refine jh ?_;refine zw fo55_0 ?_;refine zw qg ?_;refine kV jO ?_;refine zZ Tryz.underlying22 ?_;refine ze ?_;refine AtT.dn ?_;refine xu 162 2 ?_;refine xc (ι:=Nat×Option Addr×Nat) (KS:=λg=>[(3,.pointer (some ⟨b10,0,none⟩)),(19,.slice a s.rows.length c),(20,iv s.rows.length),(21,iv g.1)])
  (OS:=λg=>[.blk b10 (LC (bnc a s.rows.length c s.most g.2.1 (knK s.rows g.1).length g.2.2 (fgP s.rows (wdS s) g.1 0)) 55),.row (.slice g.2.1 (knK s.rows g.1).length g.2.2) 162 2 (knK s.rows g.1).length (flat cle (knK s.rows g.1))])
  (VS:=λg V'=>Le V V'/\g.1<=s.rows.length) (μ:=λg=>s.rows.length-g.1) (0,none,0) ?_ ?_ ?_ ?_
 ·exact⟨rfl,rfl,rfl,rfl,trivial⟩
 ·dsimp only;rw[fgP_start];exact Pt.zg
 ·exact⟨Le.refl _,Nat.zero_le _⟩
 rintro⟨i,ao,co⟩ V' ks' O' ⟨hVV,hil⟩ hk hO hl2;dsimp only at hil hk hO;subst hk hO;have hs2:=hs.le hVV;refine zb (tT 0 [0]) ?_;refine qc ?_;refine AtT.dn ?_;refine zI rfl (λhp=>?_) (λhp=>?_);rotate_left
 ·obtain rfl:i=s.rows.length:=by omega
  refine zb (tT 0 [0,0]) ?_;refine ze ?_;refine zh ?_;refine xw (l:=knL s) cle_len rfl rfl zo.zg (λV4 hV4 hs4=>?_);refine jN (b:=b10) zo.zg (λV6 hV6 hb6=>?_);exact zL rfl (.tmp rfl) ⟨_,rfl,a,c,ao,co,hb6,(hs2.le hV4).le hV6,hs4.le hV6⟩
 obtain⟨r,hr⟩:∃ r,s.rows[i]? = some r:=⟨_,List.getElem?_eq_getElem (by omega)⟩;have hrs:=hok.sz r (List.mem_of_getElem? hr);refine zb (tT 0 [0,0,0,0,0]) ?_;refine ze ?_;refine kZ Tryz.underlying22 tk9 ?_;intro p24 e24 he24 hc24;obtain rfl:=qx hr he24;refine kV tk9 ?_;refine zu ?_;refine ax (tT 0 [0,0,0]) ?_;refine ze ?_;refine qX rfl trivial Tryz.underlying9 rfl (by decide) ?_;refine ze ?_;refine AtT.dn ?_;refine xc (ι:=Nat×Option Addr×Nat) (KS:=λg=>[(3,.pointer (some ⟨b10,0,none⟩)),(19,.slice a s.rows.length c),(20,iv s.rows.length),(21,iv i),(4,iv i),(5,.string r),(27,iv r.size),(28,iv g.1)])
  (OS:=λg=>[.blk b10 (LC (bnc a s.rows.length c s.most g.2.1 (knK s.rows i++knR r i g.1).length g.2.2 (fgP s.rows (wdS s) i g.1)) 55),.row (.slice g.2.1 (knK s.rows i++knR r i g.1).length g.2.2) 162 2 (knK s.rows i++knR r i g.1).length (flat cle (knK s.rows i++knR r i g.1))])
  (VS:=λg V''=>Le V' V''/\g.1<=r.size) (μ:=λg=>r.size-g.1) (0,ao,co) ?_ ?_ ?_ ?_
 ·exact⟨rfl,rfl,rfl,rfl,rfl,rfl,rfl,rfl,trivial⟩
 ·dsimp only;rw[show knR r i 0=[]from rfl,List.append_nil];exact Pt.zg
 ·exact⟨Le.refl _,Nat.zero_le _⟩
 rintro⟨k,ak,ck⟩ V2 ks' O' ⟨hV2,hkl⟩ hk hO hl3;dsimp only at hkl hk hO;subst hk hO;have hs3:=hs2.le hV2;refine zb (tT 0 [0]) ?_;refine qc ?_;refine AtT.dn ?_;refine zI rfl (λhp2=>?_) (λhp2=>?_);rotate_left
 ·obtain rfl:k=r.size:=by omega
  refine zb (tT 0 [0,0]) ?_;refine zM ?_;refine ze ?_;refine AtT.dn ?_;refine At.round (i+1,ak,ck) ?_ ?_ ?_ ?_
  ·show s.rows.length-(i+1)<s.rows.length-i;omega
  ·exact⟨hVV.trans hV2,by dsimp only;omega⟩
  ·exact⟨rfl,rfl,rfl,ivs (by dsimp only;omega),trivial⟩
  ·dsimp only;rw[knK_at hr,<-fgP_row,<-hrs];exact Pt.zg
 have hkl1:(knK s.rows i).length<=12*i:=knK_len (λq hq=>by have:=hok.sz q hq;omega) i
 have hkn:=knR_len r i k
 have hll:(knK s.rows i++knR r i k).length<=140:=by rw[List.length_append];omega
 have hge:s.rows.getD i ByteArray.empty=r:=row_at hr
 have hst:=fgN_step s.rows i k
 rw[hge]at hst;have f1:=fgN_le hok (a:=i+1) (b:=k) (by omega) (by omega);have f2:=fgN_le hok (a:=i) (b:=k+1) (by omega) (by omega);have f3:=fgN_le hok (a:=i) (b:=k) (by omega) (by omega);have g1:=fgP_at s.rows (C:=wdS s) (i:=i) (k:=k) (a:=i+1) (b:=k) (by omega) (by omega) (.inr ⟨rfl,Nat.le_refl _⟩) (by omega);have g2:=fgP_at s.rows (C:=wdS s) (i:=i) (k:=k) (a:=i) (b:=k+1) (by omega) (by omega) (.inl (Nat.le_refl _)) (by omega);have g3:=fgP_at s.rows (C:=wdS s) (i:=i) (k:=k) (a:=i) (b:=k) (by omega) (by omega) (.inl (Nat.le_refl _)) (by omega);have hset:=fgP_step s.rows (C:=wdS s) (i:=i) (k:=k) (by omega) hw.2 (by omega);refine zb (tT 0 [0,0]) ?_;refine ze ?_;refine zh ?_;refine zb (tT 0 [0,0,0,0]) ?_;refine ze ?_;refine ze ?_;refine xz rfl trivial Tryz.underlying9 rfl rfl (by omega) (by omega) (by decide) ?_;rw[Int.toNat_natCast];refine keqI ?_;refine AtT.dn ?_;refine nrmB ?_;refine cutG (ι:=Option Addr×Nat) (λg=>[(3,.pointer (some ⟨b10,0,none⟩)),(19,.slice a s.rows.length c),(20,iv s.rows.length),(21,iv i),(4,iv i),(5,.string r),(27,iv r.size),(28,iv k),(6,iv k)])
  (λg=>[.blk b10 (LC (bnc a s.rows.length c s.most g.1 (knK s.rows i++knR r i (k+1)).length g.2 (fgP s.rows (wdS s) i k)) 55),.row (.slice g.1 (knK s.rows i++knR r i (k+1)).length g.2) 162 2 (knK s.rows i++knR r i (k+1)).length (flat cle (knK s.rows i++knR r i (k+1)))]) (λg V''=>Le V2 V'') ?_ ?_
 ·refine zI rfl (λhb=>?_) (λhb=>?_)
  ·have hsn:knR r i (k+1)=knR r i k++[⟨(i:Int),(k:Int)⟩]:=by simp only[knR];rw[if_pos hb]
   refine zb (tT 0 [0,0,0,0,0,0,0,0,1,2,0,0,2]) ?_;refine ze ?_;refine ze ?_;refine jh ?_;refine zw fo55_1 ?_;refine kV tk51 ?_;refine ze ?_;refine ze ?_;refine qD (bd162_0_1 _ _) ?_;refine zy (bs51_1_0 _ _) ?_;intro q43 V43 hV43 hq43;have g43:Le V V43:=by first | exact hV43 | exact Le.trans (by assumption) hV43
   first | refine jq Tryz.underlying51 rw162 ?_
   intro a44 c44;refine jh ?_;refine zw fo55_1 ?_;first | refine qK tk51 ?_ | refine zH tk51 ?_
   refine AtT.dn ?_;refine qH (a44,c44) (by first | assumption | exact Le.refl _) ⟨rfl,rfl,rfl,rfl,rfl,rfl,rfl,rfl,rfl,trivial⟩ ?_;dsimp only;rw[hsn,<-List.append_assoc,zV,show(knK s.rows i++knR r i k++[(⟨(i:Int),(k:Int)⟩:Cl)]).length=(knK s.rows i++knR r i k).length+1 from by rw[List.length_append];rfl];exact Pt.zg
  ·have hsn:knR r i (k+1)=knR r i k:=by simp only[knR];rw[if_neg hb]
   refine nrm ?_;refine qH (ak,ck) (Le.refl _) ⟨rfl,rfl,rfl,rfl,rfl,rfl,rfl,rfl,rfl,trivial⟩ ?_;dsimp only;rw[hsn];exact Pt.zg
 rintro⟨a5,c5⟩ V3 ks' O' hV3 hk hO hl4;dsimp only at hk hO;subst hk hO;refine zb (tT 0 [0,0,0,0,1,0,0,0,0,1,0,0,0,0,1,0,0]) ?_;refine ze ?_;refine ze ?_;refine zM ?_;refine ze ?_;refine kcallL rfl rfl ok119 (λVL hVL hOL=>above_f (fgP s.rows (wdS s) i k) b10 (i+1) k (fgN s.rows (i+1) k) g1 (by omega) _ (bnc_sums (hOL b10 _ (List.mem_cons_self ..)))) ?_;rintro _ rfl;refine ze ?_;refine ze ?_;refine ze ?_;refine zM ?_;refine kcallL rfl rfl ok119 (λVL hVL hOL=>above_f (fgP s.rows (wdS s) i k) b10 i (k+1) (fgN s.rows i (k+1)) g2 (by omega) _ (bnc_sums (hOL b10 _ (List.mem_cons_self ..)))) ?_;rintro _ rfl;refine zM ?_;refine ze ?_;refine ze ?_;refine ze ?_;refine kcallL rfl rfl ok119 (λVL hVL hOL=>above_f (fgP s.rows (wdS s) i k) b10 i k (fgN s.rows i k) g3 (by omega) _ (bnc_sums (hOL b10 _ (List.mem_cons_self ..)))) ?_;rintro _ rfl;refine k_sb ?_;refine zh ?_;have hoff:0+3+(((i:Int)+1)*7+(k:Int)+1).toNat*1=0+3+((i+1)*7+(k+1)):=by omega
 have hfin:=λx=>sums_set (fgP s.rows (wdS s) i k) ((i+1)*7+(k+1)) x (fgP_len _ _ _ _) (by omega) (.slice a s.rows.length c) (iv s.most) (.slice a5 (knK s.rows i++knR r i (k+1)).length c5)
 refine zb (tT 0 [0,0,0,0]) ?_;refine ze ?_;refine ze ?_;refine xz rfl trivial Tryz.underlying9 rfl rfl (by omega) (by omega) (by decide) ?_;rw[Int.toNat_natCast];refine keqI ?_;refine AtT.dn ?_;refine nrmB ?_;refine cutG (ι:=Unit) (λ_=>[(3,.pointer (some ⟨b10,0,none⟩)),(19,.slice a s.rows.length c),(20,iv s.rows.length),(21,iv i),(4,iv i),(5,.string r),(27,iv r.size),(28,iv k),(6,iv k),(7,iv (fgN s.rows (i+1) (k+1)))])
  (λg=>[.blk b10 (LC (bnc a s.rows.length c s.most a5 (knK s.rows i++knR r i (k+1)).length c5 (fgP s.rows (wdS s) i k)) 55),.row (.slice a5 (knK s.rows i++knR r i (k+1)).length c5) 162 2 (knK s.rows i++knR r i (k+1)).length (flat cle (knK s.rows i++knR r i (k+1)))]) (λg V''=>V''=V3) ?_ ?_
 ·refine zI rfl (λhb=>?_) (λhb=>?_)
  ·rw[if_pos hb]at hst;rw[<-hst];refine zb (tT 0 [0,0,0]) ?_;refine ze ?_;refine zM ?_;refine zh ?_;exact qH () rfl ⟨rfl,rfl,rfl,rfl,rfl,rfl,rfl,rfl,rfl,rfl,trivial⟩ Pt.zg
  ·rw[if_neg hb,Int.add_zero]at hst;rw[<-hst];refine nrm ?_;exact qH () rfl ⟨rfl,rfl,rfl,rfl,rfl,rfl,rfl,rfl,rfl,rfl,trivial⟩ Pt.zg
 rintro _ V5 ks' O' rfl hk hO hl5;subst hk hO;refine zb (tT 0 [0,0,0,0,0,0,0,0,0,0,0,2]) ?_;refine ze ?_;refine ze ?_;refine zM ?_;first | refine kmul ?_ | refine kmulW ?_
 refine ze ?_;refine zM ?_;refine zM ?_;refine ze ?_;refine jh ?_;refine zw fo55_2 ?_;refine kidxA Tryz.underlying53 tk3 ?_;refine qK tk3 ?_ (hs:=by rw[hoff];exact hfin _);refine AtT.dn ?_;refine zb (tT 0 [0,0]) ?_;refine zM ?_;refine ze ?_;refine AtT.dn ?_;refine At.round (k+1,a5,c5) ?_ ?_ ?_ ?_
 ·show r.size-(k+1)<r.size-k;omega
 ·exact⟨hV2.trans hV3,by dsimp only;omega⟩
 ·exact⟨rfl,rfl,rfl,rfl,rfl,rfl,rfl,ivs (by dsimp only;omega),trivial⟩
 dsimp only;rw[<-hset]
 ·exact Pt.zg
end Go.Proofs.YtnffcfhdnjbdbaaGreatDoor.P
