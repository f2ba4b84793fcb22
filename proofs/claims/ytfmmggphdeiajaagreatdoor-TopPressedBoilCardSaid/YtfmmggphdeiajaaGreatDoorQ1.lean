/- Texts that the last one of this claim imports. -/
import Derived.Test.YtfmmggphdeiajaaGreatDoorRows
import Derived.Lay
import Derived.LaidByTextLater
import Derived.SevenTiedAt
import GoSem.ClaimFn
import GoSem.ClaimGoes
set_option linter.unusedVariables false
set_option linter.unusedSimpArgs false
set_option linter.unusedSectionVars false
section
namespace Go.Proofs.YtfmmggphdeiajaaGreatDoor
open Go
def kQ:List (String×DataW Unit):=[("unicode/utf8.first",Rows.laid_unicode_utf8_first),("unicode/utf8.acceptRanges",Rows.laid_unicode_utf8_acceptRanges)]
end Go.Proofs.YtfmmggphdeiajaaGreatDoor
end
section
set_option maxRecDepth 100000
namespace Go.Proofs.YtfmmggphdeiajaaGreatDoor
open Go
theorem laid_ifaces (os:Os):(World.holding Tryz.prog os ⟨#[],#[],[]⟩).layIfaces Tryz.prog kQ (World.laidAll Tryz.prog os kQ)=true:=by kernel_rfl
end Go.Proofs.YtfmmggphdeiajaaGreatDoor
end
section
namespace Go.Proofs.YtfmmggphdeiajaaGreatDoor
open Go
noncomputable abbrev L0:List (String×DataW Unit):=[("unicode/utf8.acceptRanges",Rows.laid_unicode_utf8_acceptRanges)]
end Go.Proofs.YtfmmggphdeiajaaGreatDoor
end
section
namespace Go.Clo
def leads (P:Program) (f:Nat):List Nat:=(P.funcs[f]?).elim [] P.leadsTo
def eqL:List Nat→List Nat→Bool
 | [],[]=>true
 | a::l,b::r=>Nat.beq a b && eqL l r
 | _,_=>false
theorem eqL_eq:∀ a b:List Nat,eqL a b=true→a=b
 | [],[],_=>rfl
 | a::l,b::r,h=>by
  have h':(Nat.beq a b && eqL l r)=true:=h
  rw[Bool.and_eq_true]at h'
  rw[Nat.eq_of_beq_eq_true h'.1,eqL_eq l r h'.2]
 | [],_::_,h=>by cases h
 | _::_,[],h=>by cases h
def chk:Nat→List (Nat×List Nat)→List Nat→Nat→Bool
 | 0,_,_,_=>false
 | _+1,[],[],_=>true
 | _+1,_::_,[],_=>false
 | n+1,c,f::t,m=>
  if Nat.testBit m f then chk n c t m
  else match c with
   | []=>false
   | x::c=>Nat.beq x.1 f && chk n c (x.2++t) (m ||| 1 <<< f)
theorem nb (a b:Nat):Nat.beq a b=(a == b):=by
 rw[Bool.eq_iff_iff,beq_iff_eq]
 exact⟨Nat.eq_of_beq_eq_true,fun h=>by subst h; exact Nat.beq_refl a⟩
theorem bit_put (m f g:Nat):Nat.testBit (m ||| 1 <<< f) g=(Nat.testBit m g || Nat.beq g f):=by
 rw[Nat.testBit_or,Nat.one_shiftLeft,Nat.testBit_two_pow]
 by_cases h:f=g
 ·subst h; simp
 ·have:Nat.beq g f=false:=by
   cases hb:Nat.beq g f with
   | false=>rfl
   | true=>exact absurd (Nat.eq_of_beq_eq_true hb).symm h
  simp[h,this]
theorem via_ok (P:Program):∀ (k n:Nat) (c:List (Nat×List Nat)) (t seen:List Nat) (m:Nat),(∀ g,Nat.testBit m g=seen.contains g)→chk k c t m=true→(∀ x∈c,leads P x.1=x.2)→
  t.length+(c.map fun x=>x.2.length).sum≤n→P.closureVia n t seen=seen.reverse++c.map (·.1)∧(∀ x∈c,Nat.testBit m x.1=false)∧(c.map (·.1)).Nodup:=by
 intro k
 induction k with
 | zero=>intro n c t seen m _ h; exact absurd h (by simp[chk])
 | succ k ih=>
  intro n c t seen m hm h hc hn
  match t,c,h with
  | [],[],_=>
   refine⟨?_,(fun _ h=>by cases h),List.nodup_nil⟩
   cases n<;>simp[Program.closureVia]
  | f::t,c,h=>
   obtain⟨n,rfl⟩:∃ n',n=n'+1:=⟨n-1,by simp at hn; omega⟩
   by_cases hb:Nat.testBit m f=true
   ·have h':chk k c t m=true:=by
     match c,h with
     | [],h=>simpa only[chk,hb,if_true]using h
     | x::c,h=>simpa only[chk,hb,if_true]using h
    obtain⟨e,u⟩:=ih n c t seen m hm h' hc (by simp at hn; omega)
    refine⟨?_,u⟩
    rw[show P.closureVia (n+1) (f::t) seen=if seen.contains f then P.closureVia n t seen else P.closureVia n ((P.funcs[f]?).elim [] P.leadsTo++t) (f::seen)from rfl,←hm f,hb,if_pos rfl]
    exact e
   ·have hb':Nat.testBit m f=false:=by simpa using hb
    match c,h with
    | [],h=>simp[chk,hb']at h
    | x::c,h=>
     have h':(Nat.beq x.1 f && chk k c (x.2++t) (m ||| 1 <<< f))=true:=by simpa only[chk,hb',Bool.false_eq_true,if_false]using h
     rw[Bool.and_eq_true]at h'
     have hf:x.1=f:=Nat.eq_of_beq_eq_true h'.1
     subst hf
     have hl:leads P x.1=x.2:=hc x (List.mem_cons_self)
     obtain⟨e,u1,u2⟩:=ih n c (x.2++t) (x.1::seen) (m ||| 1 <<< x.1) (fun g=>by
      rw[bit_put,hm g,List.contains_cons,Bool.or_comm,nb]) h'.2 (fun y hy=>hc y (List.mem_cons_of_mem _ hy)) (by simp at hn⊢; omega)
     refine⟨?_,?_,?_⟩
     ·rw[show P.closureVia (n+1) (x.1::t) seen=if seen.contains x.1 then P.closureVia n t seen else P.closureVia n ((P.funcs[x.1]?).elim [] P.leadsTo++t) (x.1::seen)from rfl,←hm x.1,hb',if_neg (by simp)]
      rw[show(P.funcs[x.1]?).elim [] P.leadsTo=x.2 from hl,e]
      simp
     ·intro y hy
      rcases List.mem_cons.1 hy with rfl | hy
      ·exact hb'
      ·have:=u1 y hy
       rw[bit_put,Bool.or_eq_false_iff]at this
       exact this.1
     ·rw[List.map_cons,List.nodup_cons]
      refine⟨fun hx=>?_,u2⟩
      obtain⟨y,hy,e⟩:=List.mem_map.1 hx
      have:=u1 y hy
      rw[bit_put,Bool.or_eq_false_iff,e]at this
      have h2:=this.2
      rw[Nat.beq_refl]at h2
      cases h2
theorem sum_cut (h:Nat→Nat) (N:Nat):∀ l:List Nat,l.Nodup→(l.map h).sum≤(l.map fun f=>if f=N then 0 else h f).sum+h N:=by
 intro l
 induction l with
 | nil=>intro _; simp
 | cons f l ih=>
  intro hn
  rw[List.nodup_cons]at hn
  by_cases hf:f=N
  ·subst hf
   have e:(l.map h)=l.map fun g=>if g=f then 0 else h g:=List.map_congr_left fun g hg=>by
    rw[if_neg (fun e:g=f=>hn.1 (by rw[←e]; exact hg))]
   rw[List.map_cons,List.map_cons,List.sum_cons,List.sum_cons,e,if_pos rfl]; omega
  ·have:=ih hn.2
   simp only[List.map_cons,List.sum_cons,if_neg hf]; omega
theorem sum_le:∀ (N:Nat) (h:Nat→Nat) (l:List Nat),l.Nodup→(∀ f,N≤f→h f=0)→(l.map h).sum≤((List.range N).map h).sum:=by
 intro N
 induction N with
 | zero=>
  intro h l _ hz
  rw[show l.map h=l.map fun _=>0 from List.map_congr_left fun f _=>hz f (Nat.zero_le _)]
  induction l with
  | nil=>simp
  | cons _ _ ih=>simpa using ih (by simp_all [List.nodup_cons])
 | succ N ih=>
  intro h l hn hz
  have a:=sum_cut h N l hn
  have b:=ih (fun f=>if f=N then 0 else h f) l hn (fun f hf=>by
   show(if f=N then 0 else h f)=0
   by_cases e:f=N
   ·rw[if_pos e]
   ·rw[if_neg e]; exact hz f (by omega))
  have c:(List.range N).map (fun f=>if f=N then 0 else h f)=(List.range N).map h:=List.map_congr_left fun f hf=>by
   rw[List.mem_range]at hf
   rw[if_neg (by omega)]
  rw[c]at b
  rw[List.range_succ,List.map_append,List.sum_append]
  simp only[List.map_cons,List.map_nil,List.sum_cons,List.sum_nil]
  omega
theorem fuel_eq (P:Program):(P.funcs.toList.map fun g=>(P.leadsTo g).length+1).sum=((List.range P.funcs.size).map fun f=>(P.funcs[f]?).elim 0 fun g=>(P.leadsTo g).length+1).sum:=by
 congr 1
 apply List.ext_getElem
 ·simp
 ·intro i h1 h2
  simp at h1 h2
  simp[h1]
theorem closure_ok (P:Program) (f:Nat) (k:Nat) (c:List (Nat×List Nat)) (h:chk k c [f] 0=true) (hc:∀ x∈c,leads P x.1=x.2):P.closure f=c.map (·.1):=by
 have nd:(c.map (·.1)).Nodup:=(via_ok P k _ c [f] [] 0 (fun g=>by simp) h hc (Nat.le_refl _)).2.2
 unfold Program.closure
 refine(via_ok P k _ c [f] [] 0 (fun g=>by simp) h hc ?_).1.trans (by simp)
 rw[fuel_eq]
 have:=sum_le P.funcs.size (fun f=>(P.funcs[f]?).elim 0 fun g=>(P.leadsTo g).length+1) (c.map (·.1)) nd (fun f hf=>by
  show(P.funcs[f]?).elim 0 _=0
  rw[Array.getElem?_eq_none hf]; rfl)
 have e:(c.map fun x=>x.2.length).sum≤((c.map (·.1)).map fun f=>(P.funcs[f]?).elim 0 fun g=>(P.leadsTo g).length+1).sum:=by
  clear h nd this
  induction c with
  | nil=>simp
  | cons x c ih=>
   have ih:=ih fun y hy=>hc y (List.mem_cons_of_mem _ hy)
   have hx:leads P x.1=x.2:=hc x List.mem_cons_self
   have:x.2.length≤(P.funcs[x.1]?).elim 0 fun g=>(P.leadsTo g).length+1:=by
    rw[←hx]; unfold leads
    cases P.funcs[x.1]? with
    | none=>simp
    | some g=>simp
   simp only[List.map_cons,List.sum_cons]
   omega
 simp only[List.length_cons,List.length_nil]
 omega
theorem goes_no (P:Program) (f:Nat) (h:∀ (g:Nat) (fn:Func),P.funcs[g]? = some fn→fn.goes=false):P.goes f=false:=by
 unfold Program.goes
 have a:(P.closure f).any (fun g=>(P.funcs[g]?).any Func.goes)=false:=by
  rw[List.any_eq_false]
  intro g _ hh
  cases hf:P.funcs[g]? with
  | none=>rw[hf]at hh; cases hh
  | some fn=>rw[hf]at hh; have:=h g fn hf; simp_all
 have b:P.funcs.any Func.goes=false:=by
  rw[Bool.eq_false_iff]
  intro hh
  rw[Array.any_eq_true]at hh
  obtain⟨i,hi,e⟩:=hh
  have:=h i _ (Array.getElem?_eq_getElem hi)
  rw[this]at e; cases e
 rw[a,b]; simp
end Go.Clo
end
section
set_option maxRecDepth 100000
namespace Go.Proofs.YtfmmggphdeiajaaGreatDoor
open Go Go.Clo
noncomputable def cl0:List (Nat×List Nat):=[(3,[4,5,6,5,7,8,10,9,11,12,13,5,14,15,5]),(4,[16,16,17]),(16,[34]),(34,[]),(17,[]),(5,[18,19]),(18,[35,36]),(35,[67,68]),(67,[113,114]),(113,[176,177]),(176,[237,238]),(237,[292,293]),(292,[351,352,353]),(351,[418,419,421,420,421,420,422,422,423,425,424,425,424,426,427,427,427,428,428,430,429,431,432,433,433,433,433,433,433]),(418,[521,520]),(521,[]),(520,[533]),(533,[]),(419,[521,520]),(421,[]),(420,[522,523,524]),(522,[609]),(609,[624]),(624,[527,680,563,527]),(527,[614,213]),(614,[]),(213,[285]),(285,[]),(680,[527]),(563,[646]),(646,[]),(523,[527,527]),(524,[611,612,610]),(611,[]),(612,[]),(610,[]),(422,[522,525]),(525,[529,528]),(529,[615,528,617,616,619,616]),(615,[679]),(679,[]),(528,[610,610,610]),(617,[618]),(618,[]),(616,[]),(619,[]),(423,[522,526]),(526,[525,524,613,613]),(613,[]),(425,[]),(424,[522,527,527,528]),(426,[522,529]),(427,[522,527,527,530]),(530,[620,621,610,622,618,622,623]),(620,[]),(621,[527]),(622,[]),(623,[618]),(428,[522,527,527,525]),(430,[521,533,533,533,532,533,533,533,532]),(532,[]),(429,[531,525,525]),(531,[624]),(431,[534,534,535,535,536]),(534,[625]),(625,[681,681]),(681,[]),(535,[]),(536,[626]),(626,[]),(432,[534,534,537,538]),(537,[]),(538,[626,627,626,627,626]),(627,[]),(433,[]),(352,[434,435,437,436,437,436,437,436,437,436,438,439,440,441,441,441,441,443,442,443,442,443,442,444,445,445,445,446,437,447]),(434,[539]),(539,[]),(435,[540,540,540]),(540,[]),(437,[]),(436,[541,542,544,545,546]),(541,[628,629,552]),(628,[543,543]),(543,[630,52]),(630,[]),(52,[101]),(101,[]),(629,[682,543,683]),(682,[543,543]),(683,[696]),(696,[]),(552,[204,637,638,551,546,546,638,551,546,638]),(204,[93]),(93,[]),(637,[]),(638,[]),(551,[636]),(636,[632]),(632,[546])]
noncomputable def cl1:List (Nat×List Nat):=[(546,[]),(542,[543,543]),(544,[631]),(631,[]),(545,[632,633,544]),(633,[]),(438,[541]),(439,[541,547]),(547,[551,546,546]),(440,[541,548]),(548,[551,546,546]),(441,[541,543,549,546]),(549,[634]),(634,[635]),(635,[551,546]),(443,[]),(442,[541,213,550,551,546]),(550,[]),(444,[541]),(445,[541,543,553,552]),(553,[639]),(639,[]),(446,[554,554,555]),(554,[640,640,641]),(640,[]),(641,[]),(555,[642]),(642,[]),(447,[]),(353,[448,449,451,450,451,450,451,450,451,450,452,452,453,455,454,455,454,455,455,457,456,455,455,457,456,458,459,460,461,461,462,463,451,464,451,464,466,465]),(448,[556]),(556,[455]),(455,[]),(449,[556]),(451,[]),(450,[557,558,559]),(557,[566]),(566,[558,563,650]),(558,[643,213]),(643,[]),(650,[561]),(561,[558]),(559,[644]),(644,[]),(452,[460]),(460,[557,560]),(560,[645,215]),(645,[]),(215,[286]),(286,[348,348,349,349]),(348,[]),(349,[417,349,349]),(417,[519,519,519]),(519,[]),(453,[557,560]),(454,[557,561,562]),(562,[558,644]),(457,[]),(456,[557,563,564,562]),(564,[561]),(458,[557,565]),(565,[647,562,648,649]),(647,[684]),(684,[]),(648,[]),(649,[]),(459,[566,567,460,568]),(567,[]),(568,[]),(461,[557,558,569,571,570,572]),(569,[560]),(571,[651]),(651,[]),(570,[]),(572,[]),(462,[573,573,574]),(573,[575]),(575,[]),(574,[652]),(652,[]),(463,[573,573,575,576]),(576,[652]),(464,[]),(466,[]),(465,[]),(293,[354,355,357,356,357,356,357,356,357,356,357,358,357,358,359,360,361,362,364,363,364,363,364,363,354,365,354,366,367,367,368,354,368,369,364,370,364,364,372,371,357,373]),(354,[467]),(467,[]),(355,[467]),(357,[]),(356,[468,469]),(468,[475,475,475,578,577,579,580,581,582]),(475,[590,52]),(590,[]),(578,[]),(577,[653]),(653,[]),(579,[654,655,655,655,597]),(654,[669,685]),(669,[691])]
noncomputable def cl2:List (Nat×List Nat):=[(691,[]),(685,[697]),(697,[]),(655,[669]),(597,[]),(580,[657,656,658,660,659,662,661]),(657,[]),(656,[]),(658,[]),(660,[686]),(686,[]),(659,[686]),(662,[689,688]),(689,[700,687]),(700,[]),(687,[698]),(698,[]),(688,[699]),(699,[706,707,706,703,702]),(706,[701]),(701,[708]),(708,[]),(707,[]),(703,[]),(702,[]),(661,[687,688]),(581,[663,664,665]),(663,[]),(664,[]),(665,[690]),(690,[701,702,701,703,702,704]),(704,[709]),(709,[]),(582,[583,583,583]),(583,[]),(469,[475,475,475,475,583,583,583,583]),(358,[468,469,471,470]),(471,[472]),(472,[475,475]),(470,[584]),(584,[]),(359,[361]),(361,[468,473]),(473,[585,586,587,588]),(585,[588,588,469]),(588,[108,108,666,666]),(108,[]),(666,[]),(586,[]),(587,[]),(360,[361]),(362,[468,474]),(474,[589,52,474]),(589,[476]),(476,[588,469]),(364,[]),(363,[468,475,476,477,52]),(477,[]),(365,[468,478]),(478,[592,591,204,476,59]),(592,[204]),(591,[667]),(667,[]),(59,[104,103]),(104,[169,170]),(169,[]),(170,[]),(103,[160,161,162,163,164,165,166,167,168,103,103]),(160,[166]),(166,[226,226]),(226,[]),(161,[221,221]),(221,[166,166]),(162,[222,223]),(222,[104]),(223,[]),(163,[224,224,224,225]),(224,[225]),(225,[288,288,288]),(288,[166]),(164,[]),(165,[166,166,166]),(167,[166,166]),(168,[166,166,166,166]),(366,[468,480,479,481,482]),(480,[594]),(594,[469]),(479,[593]),(593,[]),(481,[]),(482,[]),(367,[483,475,484,485]),(483,[468]),(484,[]),(485,[595,596,597]),(595,[668]),(668,[]),(596,[669]),(368,[483,483,486,485]),(486,[])]
noncomputable def cl3:List (Nat×List Nat):=[(369,[487,487,488,488,489,490]),(487,[489]),(489,[]),(488,[]),(490,[]),(370,[]),(372,[]),(371,[370]),(373,[]),(238,[294,295,297,297,296,298,297,297,296,298,297,296,298,297,297,296,298,299,300,297,297,296,301,302,303,304,304,305,306,306,307,308,308,308,310,309,310,309,310,309,297,297,296,311,312,310,309,310,309]),(294,[310,310,374]),(310,[]),(374,[]),(295,[310,310,310,374]),(297,[]),(296,[]),(298,[375,376]),(375,[380,491,385]),(380,[493,494]),(493,[598,599,494,136,136,600,136]),(598,[494]),(494,[601,213]),(601,[]),(599,[494]),(136,[212]),(212,[]),(600,[378,378]),(378,[]),(491,[494]),(385,[]),(376,[377]),(377,[492]),(492,[]),(299,[375]),(300,[375,377]),(301,[375,378,379]),(379,[]),(302,[380,382,381,376]),(382,[495,384,385,377,496,497,496]),(495,[]),(384,[500]),(500,[275,276]),(275,[]),(276,[]),(496,[]),(497,[602]),(602,[]),(381,[385]),(303,[380,382]),(304,[380,302]),(305,[380,383]),(383,[498,499]),(498,[104,603]),(603,[670,671,672,673,674,675,676,677,678,603,603]),(670,[676]),(676,[695,695]),(695,[]),(671,[692,692]),(692,[676,676]),(672,[222,223]),(673,[693,693,693,694]),(693,[694]),(694,[705,705,705]),(705,[676]),(674,[]),(675,[676,676,676]),(677,[676,676]),(678,[676,676,676,676]),(499,[]),(306,[380,383,384,385,387,386]),(387,[377]),(386,[285]),(307,[380,388]),(388,[378,501,384,385,379,496,496]),(501,[]),(308,[380,388]),(309,[]),(311,[]),(312,[389,389,390,391,392]),(389,[502,502,503]),(502,[391,391]),(391,[]),(503,[604]),(604,[]),(390,[504]),(504,[]),(392,[]),(177,[239,240,242,241,242,241,242,241,242,241,243,243,242,244,242,244,242,244,242,245,242,245,246,247,242,248,242,248,249,250,242,251,242,251,242,252,242,253,242,253,242,253,242,253,254]),(239,[313]),(313,[]),(240,[314]),(314,[]),(242,[]),(241,[315,316,317]),(315,[324]),(324,[399,400,401]),(399,[509,510]),(509,[510]),(510,[606,213]),(606,[])]
noncomputable def cl4:List (Nat×List Nat):=[(400,[511,512]),(511,[509,510]),(512,[607]),(607,[]),(401,[]),(316,[393]),(393,[]),(317,[]),(243,[318,319,320]),(318,[324,317]),(319,[322,317]),(322,[393]),(320,[166,394,394]),(394,[]),(244,[321]),(321,[324,395,393,317]),(395,[166]),(245,[315,322,317]),(246,[318,319]),(247,[318,323]),(323,[396,397,398]),(396,[505,317]),(505,[605]),(605,[316]),(397,[506,507]),(506,[]),(507,[]),(398,[508,393,317,398]),(508,[]),(248,[321]),(249,[324,322,325]),(325,[]),(250,[324,326]),(326,[402,52,326]),(402,[327]),(327,[316,317]),(251,[315,327,328,52]),(328,[]),(252,[321]),(253,[]),(254,[329,329,330,332,331]),(329,[403,403,404]),(403,[513]),(513,[]),(404,[513]),(330,[]),(332,[]),(331,[405,406]),(405,[514]),(514,[]),(406,[]),(114,[178,179,180,182,181,182,181,182,183,182,183,184,185,186,182,189,188,187,182,189,188,187,182,189,188,187,182,190,182,191,192,182,193,182,194,182,194]),(178,[255]),(255,[]),(179,[255]),(180,[255]),(182,[]),(181,[256,257,258]),(256,[333,203,202]),(333,[257,407,265,257]),(257,[334,213]),(334,[]),(407,[515]),(515,[]),(265,[257,257]),(203,[284]),(284,[]),(202,[283,59]),(283,[347]),(347,[]),(258,[335]),(335,[204,340,340]),(340,[]),(183,[256,259]),(259,[258]),(184,[185,183]),(185,[256,259,261,260,263,262]),(261,[337]),(337,[338]),(338,[]),(260,[336]),(336,[]),(263,[]),(262,[]),(186,[256,261,259]),(189,[]),(188,[]),(187,[256,264,257,265,259]),(264,[]),(190,[191]),(191,[256,267,267,266,268,269]),(267,[270,270,340]),(270,[335,340,340,342,340]),(342,[340,257]),(266,[339]),(339,[]),(268,[104,341]),(341,[408,409,410,411,412,413,414,415,341,341]),(408,[]),(409,[516,516])]
noncomputable def cl5:List (Nat×List Nat):=[(516,[]),(410,[222,223]),(411,[517,517,517,518]),(517,[518]),(518,[608,608,608]),(608,[]),(412,[]),(413,[]),(414,[]),(415,[]),(269,[]),(192,[256,261,270,270]),(193,[271,271,272,274,273]),(271,[343,343,344]),(343,[272]),(272,[]),(344,[]),(274,[]),(273,[345,345]),(345,[416]),(416,[]),(194,[]),(68,[115,116,117,8,118,120,120,120,120,119,118,120,120,119,118,120,120,119,118,120,120,120,119,118,120,119,118,121,122,123,124,7,120,125,120,125,120,125,126,127,128,128,128,128,120,129,130,120,129,131,132]),(115,[195]),(195,[]),(116,[196]),(196,[]),(117,[120,120,120,119]),(120,[]),(119,[]),(8,[21,22]),(21,[58,51,58]),(58,[102,52]),(102,[]),(51,[58]),(22,[59]),(118,[20]),(20,[50,51,53,52,54,52,56,55,57]),(50,[21,100,22]),(100,[158,159]),(158,[58]),(159,[220]),(220,[]),(53,[]),(54,[]),(56,[]),(55,[]),(57,[]),(121,[50,197]),(197,[201,200]),(201,[56,281,282,280]),(281,[346]),(346,[]),(282,[]),(280,[283,215]),(200,[279]),(279,[]),(122,[50,198]),(198,[199,57]),(199,[275,276,278,277]),(278,[57,57]),(277,[]),(123,[50,199,201,200,203,202]),(124,[20]),(7,[20]),(125,[50,51,201,204,205,101]),(205,[]),(126,[50,199,201,200,59]),(127,[50,197,197]),(128,[50,198,197,197]),(129,[]),(130,[]),(131,[4,4,206,206,207,208]),(206,[34,10,11]),(10,[11]),(11,[]),(207,[]),(208,[]),(132,[4,4,34,10,209,210,209]),(209,[]),(210,[]),(36,[69,69,69,72,72,72,71,70,72,72,72,71,70,72,72,72,71,70,72,72,72,71,70,73,73,74,74,75,76,76,77,72,78,72,78,72,78,79,80,80,72,81,72,81,82,83,84,72,85,87,86]),(69,[72,133]),(72,[]),(133,[]),(71,[]),(70,[134,135,136,136,137,139]),(134,[149,211]),(149,[218,138,138,138,219]),(218,[138,138]),(138,[214,213]),(214,[]),(219,[287]),(287,[]),(211,[]),(135,[]),(137,[138]),(139,[]),(73,[134,138,140]),(140,[])]
noncomputable def cl6:List (Nat×List Nat):=[(74,[134,140]),(75,[141,142]),(141,[134,150]),(150,[140]),(142,[144]),(144,[216,215,145]),(216,[]),(145,[217]),(217,[]),(76,[141,143]),(143,[142,139]),(77,[141,144]),(78,[134,138,145,146,147]),(146,[]),(147,[]),(79,[141,148]),(148,[143,143]),(80,[149,138,141,148]),(81,[134,138,150,143,143]),(82,[134,151]),(151,[204,150]),(83,[152,152,153,154]),(152,[155,155]),(155,[]),(153,[]),(154,[]),(84,[155,155]),(85,[]),(87,[]),(86,[]),(19,[37,38,39,23,40,23,40,41,42,15,42,15,42,15,42,15,14,14,24,24,43,43,44,42,45,42,45,42,45,25,25,25,23,46,47,47,42,9,42,9,42,42,42,49,48,42,49,48,42,9,23]),(37,[12,12,12,12,12]),(12,[23]),(23,[]),(38,[37,12]),(39,[38,12]),(40,[88,89,27]),(88,[61]),(61,[107,52]),(107,[]),(89,[30]),(30,[]),(27,[]),(41,[28,27]),(28,[60,65]),(60,[105,106]),(105,[171]),(171,[]),(106,[88]),(65,[89,89]),(42,[]),(15,[28,29,30,31,33,32]),(29,[61]),(31,[]),(33,[31]),(32,[66]),(66,[]),(14,[26,27]),(26,[28,63,64]),(63,[90]),(90,[]),(64,[31,27,108,109,110]),(109,[104,172]),(172,[227,228,229,230,231,232,233,234,172,172]),(227,[]),(228,[289,289]),(289,[]),(229,[222,223]),(230,[290,290,290,291]),(290,[291]),(291,[350,350,350]),(350,[]),(231,[]),(232,[]),(233,[]),(234,[]),(110,[112,112,111]),(112,[174,175]),(174,[235]),(235,[]),(175,[236]),(236,[]),(111,[173,173]),(173,[]),(24,[26,27]),(43,[28,90]),(44,[28,91]),(91,[31,91]),(45,[28,29,92,52,93,31]),(92,[]),(25,[60,61,26,62]),(62,[27]),(46,[60,88,26,94]),(94,[62,89,31]),(47,[26,95,98,97,99,96]),(95,[94]),(98,[157]),(157,[]),(97,[156]),(156,[])]
noncomputable def cl7:List (Nat×List Nat):=[(99,[]),(96,[]),(9,[]),(49,[]),(48,[9]),(6,[10]),(13,[14,24,25,9,15])]
noncomputable def clA:List (Nat×List Nat):=cl0++(cl1++(cl2++(cl3++(cl4++(cl5++(cl6++(cl7)))))))
theorem chk_ok:chk 20000 clA [3] 0=true:=by decide +kernel
noncomputable def inpF (g:Nat):Option String:=(Tryz.prog.funcs[g]?).bind fun fn=>if fn.ours || fn.body.isNone || fn.name == "runtime.NumGoroutine" then some fn.name else none
noncomputable def gnF (g:Nat):List Nat:=((Tryz.prog.funcs[g]?).bind (·.body)).elim [] Code.globalsNamed
noncomputable def erF (g:Nat):Option String:=(Tryz.prog.funcs[g]?).bind fun fn=>if fn.body.isNone then entryReads.lookup fn.name else none
end Go.Proofs.YtfmmggphdeiajaaGreatDoor
end
