/- Texts that the last one of this claim imports. -/
import Derived.Test.YtmdcedioddchfaaGreatDoorRows
import Derived.Lay
import Derived.LaidByTextLater
import Derived.SevenTiedAt
import GoSem.ClaimFn
import GoSem.ClaimGoes
set_option linter.unusedVariables false
set_option linter.unusedSimpArgs false
set_option linter.unusedSectionVars false
section
namespace Go.Proofs.YtmdcedioddchfaaGreatDoor
open Go
def xg:List (String×DataW Unit):=[("unicode/utf8.first",Rows.laid_unicode_utf8_first),("unicode/utf8.acceptRanges",Rows.laid_unicode_utf8_acceptRanges)]
end Go.Proofs.YtmdcedioddchfaaGreatDoor
end
section
set_option maxRecDepth 100000
namespace Go.Proofs.YtmdcedioddchfaaGreatDoor
open Go
theorem laid_ifaces (os:Os):(World.holding Tryz.prog os ⟨#[],#[],[]⟩).layIfaces Tryz.prog xg (World.laidAll Tryz.prog os xg)=true:=by kernel_rfl
end Go.Proofs.YtmdcedioddchfaaGreatDoor
end
section
namespace Go.Proofs.YtmdcedioddchfaaGreatDoor
open Go
noncomputable abbrev L0:List (String×DataW Unit):=[("unicode/utf8.acceptRanges",Rows.laid_unicode_utf8_acceptRanges)]
end Go.Proofs.YtmdcedioddchfaaGreatDoor
end
section
namespace Go.Clo
def leads (P:Program) (f:Nat):List Nat:=(P.funcs[f]?).elim [] P.leadsTo
def eqL:List Nat→List Nat→Bool
 | [],[]=>true
 | a::l,b::r=>Nat.beq a b && eqL l r
 | _,_=>false
theorem eqL_eq:∀ a b:List Nat,eqL a b=true→a=b
 | [],[],_=>rfl
 | a::l,b::r,h=>by
  have h':(Nat.beq a b && eqL l r)=true:=h
  rw[Bool.and_eq_true]at h'
  rw[Nat.eq_of_beq_eq_true h'.1,eqL_eq l r h'.2]
 | [],_::_,h=>by cases h
 | _::_,[],h=>by cases h
def chk:Nat→List (Nat×List Nat)→List Nat→Nat→Bool
 | 0,_,_,_=>false
 | _+1,[],[],_=>true
 | _+1,_::_,[],_=>false
 | n+1,c,f::t,m=>
  if Nat.testBit m f then chk n c t m
  else match c with
   | []=>false
   | x::c=>Nat.beq x.1 f && chk n c (x.2++t) (m ||| 1 <<< f)
theorem nb (a b:Nat):Nat.beq a b=(a == b):=by
 rw[Bool.eq_iff_iff,beq_iff_eq]
 exact⟨Nat.eq_of_beq_eq_true,fun h=>by subst h; exact Nat.beq_refl a⟩
theorem bit_put (m f g:Nat):Nat.testBit (m ||| 1 <<< f) g=(Nat.testBit m g || Nat.beq g f):=by
 rw[Nat.testBit_or,Nat.one_shiftLeft,Nat.testBit_two_pow]
 by_cases h:f=g
 ·subst h; simp
 ·have:Nat.beq g f=false:=by
   cases hb:Nat.beq g f with
   | false=>rfl
   | true=>exact absurd (Nat.eq_of_beq_eq_true hb).symm h
  simp[h,this]
theorem via_ok (P:Program):∀ (k n:Nat) (c:List (Nat×List Nat)) (t seen:List Nat) (m:Nat),(∀ g,Nat.testBit m g=seen.contains g)→chk k c t m=true→(∀ x∈c,leads P x.1=x.2)→
  t.length+(c.map fun x=>x.2.length).sum≤n→P.closureVia n t seen=seen.reverse++c.map (·.1)∧(∀ x∈c,Nat.testBit m x.1=false)∧(c.map (·.1)).Nodup:=by
 intro k
 induction k with
 | zero=>intro n c t seen m _ h; exact absurd h (by simp[chk])
 | succ k ih=>
  intro n c t seen m hm h hc hn
  match t,c,h with
  | [],[],_=>
   refine⟨?_,(fun _ h=>by cases h),List.nodup_nil⟩
   cases n<;>simp[Program.closureVia]
  | f::t,c,h=>
   obtain⟨n,rfl⟩:∃ n',n=n'+1:=⟨n-1,by simp at hn; omega⟩
   by_cases hb:Nat.testBit m f=true
   ·have h':chk k c t m=true:=by
     match c,h with
     | [],h=>simpa only[chk,hb,if_true]using h
     | x::c,h=>simpa only[chk,hb,if_true]using h
    obtain⟨e,u⟩:=ih n c t seen m hm h' hc (by simp at hn; omega)
    refine⟨?_,u⟩
    rw[show P.closureVia (n+1) (f::t) seen=if seen.contains f then P.closureVia n t seen else P.closureVia n ((P.funcs[f]?).elim [] P.leadsTo++t) (f::seen)from rfl,←hm f,hb,if_pos rfl]
    exact e
   ·have hb':Nat.testBit m f=false:=by simpa using hb
    match c,h with
    | [],h=>simp[chk,hb']at h
    | x::c,h=>
     have h':(Nat.beq x.1 f && chk k c (x.2++t) (m ||| 1 <<< f))=true:=by simpa only[chk,hb',Bool.false_eq_true,if_false]using h
     rw[Bool.and_eq_true]at h'
     have hf:x.1=f:=Nat.eq_of_beq_eq_true h'.1
     subst hf
     have hl:leads P x.1=x.2:=hc x (List.mem_cons_self)
     obtain⟨e,u1,u2⟩:=ih n c (x.2++t) (x.1::seen) (m ||| 1 <<< x.1) (fun g=>by
      rw[bit_put,hm g,List.contains_cons,Bool.or_comm,nb]) h'.2 (fun y hy=>hc y (List.mem_cons_of_mem _ hy)) (by simp at hn⊢; omega)
     refine⟨?_,?_,?_⟩
     ·rw[show P.closureVia (n+1) (x.1::t) seen=if seen.contains x.1 then P.closureVia n t seen else P.closureVia n ((P.funcs[x.1]?).elim [] P.leadsTo++t) (x.1::seen)from rfl,←hm x.1,hb',if_neg (by simp)]
      rw[show(P.funcs[x.1]?).elim [] P.leadsTo=x.2 from hl,e]
      simp
     ·intro y hy
      rcases List.mem_cons.1 hy with rfl | hy
      ·exact hb'
      ·have:=u1 y hy
       rw[bit_put,Bool.or_eq_false_iff]at this
       exact this.1
     ·rw[List.map_cons,List.nodup_cons]
      refine⟨fun hx=>?_,u2⟩
      obtain⟨y,hy,e⟩:=List.mem_map.1 hx
      have:=u1 y hy
      rw[bit_put,Bool.or_eq_false_iff,e]at this
      have h2:=this.2
      rw[Nat.beq_refl]at h2
      cases h2
theorem sum_cut (h:Nat→Nat) (N:Nat):∀ l:List Nat,l.Nodup→(l.map h).sum≤(l.map fun f=>if f=N then 0 else h f).sum+h N:=by
 intro l
 induction l with
 | nil=>intro _; simp
 | cons f l ih=>
  intro hn
  rw[List.nodup_cons]at hn
  by_cases hf:f=N
  ·subst hf
   have e:(l.map h)=l.map fun g=>if g=f then 0 else h g:=List.map_congr_left fun g hg=>by
    rw[if_neg (fun e:g=f=>hn.1 (by rw[←e]; exact hg))]
   rw[List.map_cons,List.map_cons,List.sum_cons,List.sum_cons,e,if_pos rfl]; omega
  ·have:=ih hn.2
   simp only[List.map_cons,List.sum_cons,if_neg hf]; omega
theorem sum_le:∀ (N:Nat) (h:Nat→Nat) (l:List Nat),l.Nodup→(∀ f,N≤f→h f=0)→(l.map h).sum≤((List.range N).map h).sum:=by
 intro N
 induction N with
 | zero=>
  intro h l _ hz
  rw[show l.map h=l.map fun _=>0 from List.map_congr_left fun f _=>hz f (Nat.zero_le _)]
  induction l with
  | nil=>simp
  | cons _ _ ih=>simpa using ih (by simp_all [List.nodup_cons])
 | succ N ih=>
  intro h l hn hz
  have a:=sum_cut h N l hn
  have b:=ih (fun f=>if f=N then 0 else h f) l hn (fun f hf=>by
   show(if f=N then 0 else h f)=0
   by_cases e:f=N
   ·rw[if_pos e]
   ·rw[if_neg e]; exact hz f (by omega))
  have c:(List.range N).map (fun f=>if f=N then 0 else h f)=(List.range N).map h:=List.map_congr_left fun f hf=>by
   rw[List.mem_range]at hf
   rw[if_neg (by omega)]
  rw[c]at b
  rw[List.range_succ,List.map_append,List.sum_append]
  simp only[List.map_cons,List.map_nil,List.sum_cons,List.sum_nil]
  omega
theorem fuel_eq (P:Program):(P.funcs.toList.map fun g=>(P.leadsTo g).length+1).sum=((List.range P.funcs.size).map fun f=>(P.funcs[f]?).elim 0 fun g=>(P.leadsTo g).length+1).sum:=by
 congr 1
 apply List.ext_getElem
 ·simp
 ·intro i h1 h2
  simp at h1 h2
  simp[h1]
theorem closure_ok (P:Program) (f:Nat) (k:Nat) (c:List (Nat×List Nat)) (h:chk k c [f] 0=true) (hc:∀ x∈c,leads P x.1=x.2):P.closure f=c.map (·.1):=by
 have nd:(c.map (·.1)).Nodup:=(via_ok P k _ c [f] [] 0 (fun g=>by simp) h hc (Nat.le_refl _)).2.2
 unfold Program.closure
 refine(via_ok P k _ c [f] [] 0 (fun g=>by simp) h hc ?_).1.trans (by simp)
 rw[fuel_eq]
 have:=sum_le P.funcs.size (fun f=>(P.funcs[f]?).elim 0 fun g=>(P.leadsTo g).length+1) (c.map (·.1)) nd (fun f hf=>by
  show(P.funcs[f]?).elim 0 _=0
  rw[Array.getElem?_eq_none hf]; rfl)
 have e:(c.map fun x=>x.2.length).sum≤((c.map (·.1)).map fun f=>(P.funcs[f]?).elim 0 fun g=>(P.leadsTo g).length+1).sum:=by
  clear h nd this
  induction c with
  | nil=>simp
  | cons x c ih=>
   have ih:=ih fun y hy=>hc y (List.mem_cons_of_mem _ hy)
   have hx:leads P x.1=x.2:=hc x List.mem_cons_self
   have:x.2.length≤(P.funcs[x.1]?).elim 0 fun g=>(P.leadsTo g).length+1:=by
    rw[←hx]; unfold leads
    cases P.funcs[x.1]? with
    | none=>simp
    | some g=>simp
   simp only[List.map_cons,List.sum_cons]
   omega
 simp only[List.length_cons,List.length_nil]
 omega
theorem goes_no (P:Program) (f:Nat) (h:∀ (g:Nat) (fn:Func),P.funcs[g]? = some fn→fn.goes=false):P.goes f=false:=by
 unfold Program.goes
 have a:(P.closure f).any (fun g=>(P.funcs[g]?).any Func.goes)=false:=by
  rw[List.any_eq_false]
  intro g _ hh
  cases hf:P.funcs[g]? with
  | none=>rw[hf]at hh; cases hh
  | some fn=>rw[hf]at hh; have:=h g fn hf; simp_all
 have b:P.funcs.any Func.goes=false:=by
  rw[Bool.eq_false_iff]
  intro hh
  rw[Array.any_eq_true]at hh
  obtain⟨i,hi,e⟩:=hh
  have:=h i _ (Array.getElem?_eq_getElem hi)
  rw[this]at e; cases e
 rw[a,b]; simp
end Go.Clo
end
section
set_option maxRecDepth 100000
namespace Go.Proofs.YtmdcedioddchfaaGreatDoor
open Go Go.Clo
noncomputable def cl0:List (Nat×List Nat):=[(3,[4,5,6,7,8,9,6,10,11,12,13,6]),(4,[]),(5,[]),(6,[14,15]),(14,[26,27]),(26,[57,58]),(57,[105,106]),(105,[156,157]),(156,[218,219]),(218,[289,290,291]),(289,[363,364,366,365,366,365,367,367,368,370,369,370,369,371,372,372,372,373,373,375,374,376,377,378,378,378,378,378,378]),(363,[464,463]),(464,[]),(463,[476]),(476,[]),(364,[464,463]),(366,[]),(365,[465,466,467]),(465,[544]),(544,[559]),(559,[470,606,498,470]),(470,[549,55]),(549,[]),(55,[104]),(104,[]),(606,[470]),(498,[571]),(571,[]),(466,[470,470]),(467,[546,547,545]),(546,[]),(547,[]),(545,[]),(367,[465,468]),(468,[472,471]),(472,[550,471,552,551,554,551]),(550,[605]),(605,[]),(471,[545,545,545]),(552,[553]),(553,[]),(551,[]),(554,[]),(368,[465,469]),(469,[468,467,548,548]),(548,[]),(370,[]),(369,[465,470,470,471]),(371,[465,472]),(372,[465,470,470,473]),(473,[555,556,545,557,553,557,558]),(555,[]),(556,[470]),(557,[]),(558,[553]),(373,[465,470,470,468]),(375,[464,476,476,476,475,476,476,476,475]),(475,[]),(374,[474,468,468]),(474,[559]),(376,[477,477,478,478,479]),(477,[560]),(560,[607,607]),(607,[]),(478,[]),(479,[561]),(561,[]),(377,[477,477,480,481]),(480,[]),(481,[561,562,561,562,561]),(562,[]),(378,[]),(290,[379,380,382,381,382,381,382,381,382,381,7,8,383,384,384,384,384,386,385,386,385,386,385,387,388,388,388,389,382,390]),(379,[482]),(482,[]),(380,[483,483,483]),(483,[]),(382,[]),(381,[16,484,485,486,47]),(16,[43,44,45]),(43,[92,92]),(92,[152,151]),(152,[]),(151,[138]),(138,[]),(44,[93,92,94]),(93,[92,92]),(94,[153]),(153,[]),(45,[95,96,97,46,47,47,97,46,47,97]),(95,[154]),(154,[]),(96,[]),(97,[]),(46,[98]),(98,[99]),(99,[47]),(47,[]),(484,[92,92]),(485,[563])]
noncomputable def cl1:List (Nat×List Nat):=[(563,[]),(486,[99,564,485]),(564,[]),(7,[16]),(8,[16,17]),(17,[46,47,47]),(383,[16,487]),(487,[46,47,47]),(384,[16,92,488,47]),(488,[565]),(565,[566]),(566,[46,47]),(386,[]),(385,[16,55,489,46,47]),(489,[]),(387,[16]),(388,[16,92,490,45]),(490,[567]),(567,[]),(389,[18,18,19]),(18,[4,4,5]),(19,[48]),(48,[]),(390,[]),(291,[391,392,394,393,394,393,394,393,394,393,395,395,396,398,397,398,397,398,398,400,399,398,398,400,399,401,402,403,404,404,405,406,394,407,394,407,409,408]),(391,[491]),(491,[398]),(398,[]),(392,[491]),(394,[]),(393,[492,493,494]),(492,[501]),(501,[493,498,575]),(493,[568,55]),(568,[]),(575,[496]),(496,[493]),(494,[569]),(569,[]),(395,[403]),(403,[492,495]),(495,[570,101]),(570,[]),(101,[155]),(155,[216,216,217,217]),(216,[]),(217,[288,217,217]),(288,[362,362,362]),(362,[]),(396,[492,495]),(397,[492,496,497]),(497,[493,569]),(400,[]),(399,[492,498,499,497]),(499,[496]),(401,[492,500]),(500,[572,497,573,574]),(572,[608]),(608,[]),(573,[]),(574,[]),(402,[501,502,403,503]),(502,[]),(503,[]),(404,[492,493,504,506,505,507]),(504,[495]),(506,[576]),(576,[]),(505,[]),(507,[]),(405,[508,508,509]),(508,[510]),(510,[]),(509,[577]),(577,[]),(406,[508,508,510,511]),(511,[577]),(407,[]),(409,[]),(408,[]),(219,[292,293,295,294,295,294,295,294,295,294,295,296,295,296,297,298,299,300,302,301,302,301,302,301,292,303,292,304,305,305,306,292,306,307,302,308,302,302,310,309,295,311]),(292,[410]),(410,[]),(293,[410]),(295,[]),(294,[411,412]),(411,[418,418,418,513,512,514,515,516,517]),(418,[525,151]),(525,[]),(513,[]),(512,[578]),(578,[]),(514,[579,580,580,580,532]),(579,[595,609]),(595,[615]),(615,[]),(609,[620]),(620,[]),(580,[595]),(532,[])]
noncomputable def cl2:List (Nat×List Nat):=[(515,[582,581,583,585,584,587,586]),(582,[]),(581,[]),(583,[]),(585,[610]),(610,[]),(584,[610]),(587,[613,612]),(613,[623,611]),(623,[]),(611,[621]),(621,[]),(612,[622]),(622,[629,630,629,626,625]),(629,[624]),(624,[631]),(631,[]),(630,[]),(626,[]),(625,[]),(586,[611,612]),(516,[588,589,590]),(588,[]),(589,[]),(590,[614]),(614,[624,625,624,626,625,627]),(627,[632]),(632,[]),(517,[518,518,518]),(518,[]),(412,[418,418,418,418,518,518,518,518]),(296,[411,412,414,413]),(414,[415]),(415,[418,418]),(413,[519]),(519,[]),(297,[299]),(299,[411,416]),(416,[520,521,522,523]),(520,[523,523,412]),(523,[591,591,592,592]),(591,[]),(592,[]),(521,[]),(522,[]),(298,[299]),(300,[411,417]),(417,[524,151,417]),(524,[419]),(419,[523,412]),(302,[]),(301,[411,418,419,420,151]),(420,[]),(303,[411,421]),(421,[527,526,95,419,140]),(527,[95]),(526,[593]),(593,[]),(140,[212,211]),(212,[286,287]),(286,[]),(287,[]),(211,[277,278,279,280,281,282,283,284,285,211,211]),(277,[283]),(283,[361,361]),(361,[]),(278,[356,356]),(356,[283,283]),(279,[357,358]),(357,[212]),(358,[]),(280,[359,359,359,360]),(359,[360]),(360,[462,462,462]),(462,[283]),(281,[]),(282,[283,283,283]),(284,[283,283]),(285,[283,283,283,283]),(304,[411,423,422,424,425]),(423,[529]),(529,[412]),(422,[528]),(528,[]),(424,[]),(425,[]),(305,[426,418,427,428]),(426,[411]),(427,[]),(428,[530,531,532]),(530,[594]),(594,[]),(531,[595]),(306,[426,426,429,428]),(429,[]),(307,[430,430,431,431,432,433]),(430,[432]),(432,[]),(431,[]),(433,[])]
noncomputable def cl3:List (Nat×List Nat):=[(308,[]),(310,[]),(309,[308]),(311,[]),(157,[220,221,223,223,222,224,223,223,222,224,223,222,224,223,223,222,224,225,226,223,223,222,227,228,229,230,230,231,232,232,233,234,234,234,236,235,236,235,236,235,223,223,222,237,238,236,235,236,235]),(220,[236,236,312]),(236,[]),(312,[]),(221,[236,236,236,312]),(223,[]),(222,[]),(224,[313,314]),(313,[318,434,323]),(318,[436,437]),(436,[533,534,437,81,81,535,81]),(533,[437]),(437,[536,55]),(536,[]),(534,[437]),(81,[149]),(149,[]),(535,[316,316]),(316,[]),(434,[437]),(323,[]),(314,[315]),(315,[435]),(435,[]),(225,[313]),(226,[313,315]),(227,[313,316,317]),(317,[]),(228,[318,320,319,314]),(320,[438,322,323,315,439,440,439]),(438,[]),(322,[443]),(443,[201,202]),(201,[]),(202,[]),(439,[]),(440,[537]),(537,[]),(319,[323]),(229,[318,320]),(230,[318,228]),(231,[318,321]),(321,[441,442]),(441,[212,538]),(538,[596,597,598,599,600,601,602,603,604,538,538]),(596,[602]),(602,[619,619]),(619,[]),(597,[616,616]),(616,[602,602]),(598,[357,358]),(599,[617,617,617,618]),(617,[618]),(618,[628,628,628]),(628,[602]),(600,[]),(601,[602,602,602]),(603,[602,602]),(604,[602,602,602,602]),(442,[]),(232,[318,321,322,323,325,324]),(325,[315]),(324,[104]),(233,[318,326]),(326,[316,444,322,323,317,439,439]),(444,[]),(234,[318,326]),(235,[]),(237,[]),(238,[327,327,328,329,330]),(327,[445,445,446]),(445,[329,329]),(329,[]),(446,[539]),(539,[]),(328,[447]),(447,[]),(330,[]),(106,[158,159,161,160,161,160,161,160,161,160,162,162,161,163,161,163,161,163,161,164,161,164,165,166,161,167,161,167,168,169,161,170,161,170,161,171,161,172,161,172,161,172,161,172,173]),(158,[239]),(239,[]),(159,[240]),(240,[]),(161,[]),(160,[241,242,243]),(241,[250]),(250,[337,338,339]),(337,[452,453]),(452,[453]),(453,[541,55]),(541,[]),(338,[454,455]),(454,[452,453]),(455,[542]),(542,[]),(339,[])]
noncomputable def cl4:List (Nat×List Nat):=[(242,[331]),(331,[]),(243,[]),(162,[244,245,246]),(244,[250,243]),(245,[248,243]),(248,[331]),(246,[283,332,332]),(332,[]),(163,[247]),(247,[250,333,331,243]),(333,[283]),(164,[241,248,243]),(165,[244,245]),(166,[244,249]),(249,[334,335,336]),(334,[448,243]),(448,[540]),(540,[242]),(335,[449,450]),(449,[]),(450,[]),(336,[451,331,243,336]),(451,[]),(167,[247]),(168,[250,248,251]),(251,[]),(169,[250,252]),(252,[340,151,252]),(340,[253]),(253,[242,243]),(170,[241,253,254,151]),(254,[]),(171,[247]),(172,[]),(173,[255,255,256,258,257]),(255,[341,341,342]),(341,[456]),(456,[]),(342,[456]),(256,[]),(258,[]),(257,[343,344]),(343,[457]),(457,[]),(344,[]),(58,[107,108,109,111,110,111,110,111,112,111,112,113,114,115,111,118,117,116,111,118,117,116,111,118,117,116,111,119,111,120,121,111,122,111,123,111,123]),(107,[174]),(174,[]),(108,[174]),(109,[174]),(111,[]),(110,[175,176,177]),(175,[259,136,135]),(259,[176,345,184,176]),(176,[260,55]),(260,[]),(345,[458]),(458,[]),(184,[176,176]),(136,[210]),(210,[]),(135,[209,140]),(209,[276]),(276,[]),(177,[261]),(261,[95,266,266]),(266,[]),(112,[175,178]),(178,[177]),(113,[114,112]),(114,[175,178,180,179,182,181]),(180,[263]),(263,[264]),(264,[]),(179,[262]),(262,[]),(182,[]),(181,[]),(115,[175,180,178]),(118,[]),(117,[]),(116,[175,183,176,184,178]),(183,[]),(119,[120]),(120,[175,186,186,185,187,188]),(186,[189,189,266]),(189,[261,266,266,268,266]),(268,[266,176]),(185,[265]),(265,[]),(187,[212,267]),(267,[346,347,348,349,350,351,352,353,267,267]),(346,[]),(347,[459,459]),(459,[]),(348,[357,358]),(349,[460,460,460,461]),(460,[461]),(461,[543,543,543])]
noncomputable def cl5:List (Nat×List Nat):=[(543,[]),(350,[]),(351,[]),(352,[]),(353,[]),(188,[]),(121,[175,180,189,189]),(122,[190,190,191,193,192]),(190,[269,269,270]),(269,[191]),(191,[]),(270,[]),(193,[]),(192,[271,271]),(271,[354]),(354,[]),(123,[]),(27,[59,60,61,62,63,65,65,65,65,64,63,65,65,64,63,65,65,64,63,65,65,65,64,63,65,64,63,66,67,68,69,70,65,71,65,71,65,71,72,73,74,74,74,74,65,75,76,65,75,77,78]),(59,[124]),(124,[]),(60,[125]),(125,[]),(61,[65,65,65,64]),(65,[]),(64,[]),(62,[126,127]),(126,[194,137,194]),(194,[272,151]),(272,[]),(137,[194]),(127,[140]),(63,[128]),(128,[129,137,195,151,196,151,198,197,199]),(129,[126,200,127]),(200,[273,274]),(273,[194]),(274,[355]),(355,[]),(195,[]),(196,[]),(198,[]),(197,[]),(199,[]),(66,[129,130]),(130,[134,133]),(134,[198,207,208,206]),(207,[275]),(275,[]),(208,[]),(206,[209,101]),(133,[205]),(205,[]),(67,[129,131]),(131,[132,199]),(132,[201,202,204,203]),(204,[199,199]),(203,[]),(68,[129,132,134,133,136,135]),(69,[128]),(70,[128]),(71,[129,137,134,95,139,138]),(139,[]),(72,[129,132,134,133,140]),(73,[129,130,130]),(74,[129,131,130,130]),(75,[]),(76,[]),(77,[141,141,142,142,143,144]),(141,[213,213,214]),(213,[145]),(145,[]),(214,[]),(142,[145,146,215]),(146,[215]),(215,[]),(143,[]),(144,[]),(78,[141,141,145,146,147,148,147]),(147,[]),(148,[]),(15,[28,28,28,31,31,31,30,29,31,31,31,30,29,31,31,31,30,29,31,31,31,30,29,32,32,33,33,11,10,10,34,31,35,31,35,31,35,36,13,13,31,37,31,37,38,39,40,31,12,42,41]),(28,[31,79]),(31,[]),(79,[]),(30,[]),(29,[49,80,81,81,82,51]),(49,[23,100]),(23,[53,24,24,24,54]),(53,[24,24]),(24,[56,55]),(56,[]),(54,[103]),(103,[]),(100,[]),(80,[]),(82,[24]),(51,[]),(32,[49,24,83]),(83,[]),(33,[49,83])]
noncomputable def cl6:List (Nat×List Nat):=[(11,[20,22]),(20,[49,50]),(50,[83]),(22,[52]),(52,[102,101,84]),(102,[]),(84,[150]),(150,[]),(10,[20,21]),(21,[22,51]),(34,[20,52]),(35,[49,24,84,85,86]),(85,[]),(86,[]),(36,[20,25]),(25,[21,21]),(13,[23,24,20,25]),(37,[49,24,50,21,21]),(38,[49,87]),(87,[95,50]),(39,[88,88,89,90]),(88,[91,91]),(91,[]),(89,[]),(90,[]),(40,[91,91]),(12,[]),(42,[]),(41,[]),(9,[18,18,19])]
noncomputable def clA:List (Nat×List Nat):=cl0++(cl1++(cl2++(cl3++(cl4++(cl5++(cl6))))))
theorem chk_ok:chk 20000 clA [3] 0=true:=by decide +kernel
noncomputable def inpF (g:Nat):Option String:=(Tryz.prog.funcs[g]?).bind fun fn=>if fn.ours || fn.body.isNone || fn.name == "runtime.NumGoroutine" then some fn.name else none
noncomputable def gnF (g:Nat):List Nat:=((Tryz.prog.funcs[g]?).bind (·.body)).elim [] Code.globalsNamed
noncomputable def erF (g:Nat):Option String:=(Tryz.prog.funcs[g]?).bind fun fn=>if fn.body.isNone then entryReads.lookup fn.name else none
end Go.Proofs.YtmdcedioddchfaaGreatDoor
end
