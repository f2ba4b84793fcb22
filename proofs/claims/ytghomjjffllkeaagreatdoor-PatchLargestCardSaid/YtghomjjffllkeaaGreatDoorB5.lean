/- Texts that the last one of this claim imports. -/
import Derived.Test.YtghomjjffllkeaaGreatDoorB4
set_option linter.unusedVariables false
set_option linter.unusedSimpArgs false
set_option linter.unusedSectionVars false
set_option linter.unusedVariables false
set_option maxRecDepth 20000
namespace Go.Pm
open Go.Gl Go.Lw
theorem qO {p q : Pc} {h : [p][(0 : Int).toNat]? = some q} : p = q := by simpa using h
theorem fw_ok {s : Sh} {n e : Int} (h0 : chE s = 0) (h : FwS s n e) : e = 0 ∧ ∃ (m : Nat) (c : Int), n = m ∧ jy (gdS s) (knL s) m c := by
 rcases h with ⟨h, _⟩ | ⟨_, h⟩
 ·exact absurd h0 h
 ·exact h
theorem ce_ok {s : Sh} {n e : Int} (h0 : chE s = 0) (h : CeS s n e) : e = 0 ∧ ∃ (m : Nat), jy (gdS s) (knL s) m n := by
 rcases h with ⟨h, _⟩ | ⟨_, h⟩
 ·exact absurd h0 h
 ·exact h
theorem pt_ok {s : Sh} {e : Int} {ps : List Pc} (h0 : chE s = 0) (h : (chE s ≠ 0 ∧ e = chE s ∧ ps = []) ∨ (chE s = 0 ∧ e = 0 ∧ MnR (gdS s) (knL s) ps)) : e = 0 ∧ MnR (gdS s) (knL s) ps := by
 rcases h with ⟨h, _⟩ | ⟨_, h⟩
 ·exact absurd h0 h
 ·exact h
end Go.Pm
namespace Go.Proofs.YtghomjjffllkeaaGreatDoor
open Go.Lw Go.Gl Go.Pm Go.RowKit Go.Shelf
theorem fourOk : chE (zK 4) = 0 := w0
set_option maxHeartbeats 3200000 in
theorem works_f (V : View) : Fnc Tryz.prog 16 [] V fun r _ => r = .bool true := by
 refine qf Tryz.func16 rfl Tryz.ntmps16 (Nat.le_of_ble_eq_true rfl) ?_
 intro w0 hw0
 refine At.nrm ?_
 refine At.zl (.q 0 .done) ?_
 refine AtT.zf ?_
 refine AtT.done ?_
 refine At.nrm ?_
 refine At.zl (.n false 0 (.n false 1 (.n false 2 (.n false 3 (.n true 4 (.n true 5 .done)))))) ?_
 refine AtT.qg rfl rfl ok52 (four_f 4 _) ?_
 rintro _ V36 hV36 ⟨a1, c1, rfl, hs1⟩
 refine AtT.qg rfl rfl ok54 (turned54_f _) ?_
 rintro _ V37 hV37 ⟨a2, c2, rfl, hs2⟩
 refine AtT.qx z24 ?_
 intro b1
 refine AtT.qx z24 ?_
 intro b2
 refine AtT.zW zM ?_
 refine AtT.zW zM ?_
 refine AtT.done ?_
 refine At.nrm ?_
 replace hs1 := hs1.le hV37
 have sv1 : ∀ {V' : View}, Sl V' bse 1 (.slice a1 (zK 4).rows.length c1) (zK 4).rows → ShV V' (.agg #[.slice a1 (zK 4).rows.length c1, iv (zK 4).most]) (zK 4) := fun h => ⟨a1, c1, rfl, h⟩
 have sv2 : ∀ {V' : View}, Sl V' bse 1 (.slice a2 qL.rows.length c2) qL.rows → ShV V' (.agg #[.slice a2 qL.rows.length c2, iv qL.most]) qL := fun h => ⟨a2, c2, rfl, h⟩
 clear hV36 hV37
 refine At.jr (ι := Unit) (fun _ => [(1, .pointer (some ⟨b1, 0, none⟩)), (2, .pointer (some ⟨b2, 0, none⟩)), (3, iv 0), (4, iv 20)]) (fun _ => [.blk b1 (LC [.slice a1 (zK 4).rows.length c1, iv (zK 4).most] 24), .blk b2 (LC [.slice a2 qL.rows.length c2, iv qL.most] 24)]) (fun _ V'' => Sl V'' bse 1 (.slice a1 (zK 4).rows.length c1) (zK 4).rows ∧ Sl V'' bse 1 (.slice a2 qL.rows.length c2) qL.rows) ?_ ?_
 ·refine At.draw (.q 0 (.q 6 (.two 1 (.two 2 (.q 3 (.q 4 (.two 5 (.n false 7 (.n false 8 (.q 9 (.q 10 (.n false 11 (.q 12 (.q 13 .done))))))) 7 (.n false 5 (.n false 8 (.q 9 (.q 10 (.n false 11 (.q 12 (.q 13 .done)))))))))) 7 (.n false 2 (.q 3 (.q 4 (.n false 5 (.n false 8 (.q 9 (.q 10 (.n false 11 (.q 12 (.q 13 .done))))))))))) 7 (.n false 1 (.n false 2 (.q 3 (.q 4 (.n false 5 (.n false 8 (.q 9 (.q 10 (.n false 11 (.q 12 (.q 13 .done)))))))))))))) ffm (by kernel_rfl) ?_
  first | refine AtT.zD zM ?_ | refine AtT.zJ zM ?_ | refine AtT.zC zM ?_
  first | refine AtT.zD zM ?_ | refine AtT.zJ zM ?_ | refine AtT.zC zM ?_
  refine AtT.two ?_ ?_
  focus
   refine AtT.zw (qh _ _ _ _) ?_
   intro q39 V39 hV39 hq39
   (try replace hs1:=hs1.le hV39);(try replace hs2:=hs2.le hV39);(try replace s45:=s45.le hV39)
   have s39 : SlI V39 _ [0, 0, 1, 4] := Sl.lit hq39 rfl (by decide)
   refine AtT.two ?_ ?_
   focus
    refine AtT.qg rfl rfl ok53 (qI [⟨0, 0, 1, 4⟩] (by decide) _ _ (show SlI _ _ [0, 0, 1, 4] from s39)) ?_
    rintro _ V40 hV40 hp40; (try replace hs1:=hs1.le hV40); (try replace hs2:=hs2.le hV40); (try replace s45:=s45.le hV40); obtain ⟨a40, c40, rfl, k40, k40', _⟩ := id hp40; clear k40 k40'
    refine AtT.idx rfl trivial Tryz.underlying27 zS rfl hp40 rfl (by decide) (by decide) (by decide) ?_
    intro p41 e41 he41 hc41
    first | refine AtT.zD zS ?_ | refine AtT.zJ zS ?_ | refine AtT.zC zS ?_
    obtain rfl : (⟨0, 0, 1, 4⟩ : Pc) = e41 := qO (h := he41)
    refine AtT.two ?_ ?_
    focus
     refine AtT.zq rfl rfl ok21 (qo (zK 4) ⟨0, 0, 1, 4⟩ _ _ (sv1 hs1)) ?_
     rintro _ rfl; rw [w1]
     refine AtT.zw (qh _ _ _ _) ?_
     intro q45 V45 hV45 hq45
     (try replace hs1:=hs1.le hV45);(try replace hs2:=hs2.le hV45);(try replace s39:=s39.le hV45)
     have s45 : SlI V45 _ [0, 0, 2, 2] := Sl.lit hq45 rfl (by decide)
     refine AtT.qg rfl rfl ok53 (qI [⟨0, 0, 2, 2⟩] (by decide) _ _ (show SlI _ _ [0, 0, 2, 2] from s45)) ?_
     rintro _ V46 hV46 hp46; (try replace hs1:=hs1.le hV46); (try replace hs2:=hs2.le hV46); (try replace s39:=s39.le hV46); obtain ⟨a46, c46, rfl, k46, k46', _⟩ := id hp46; clear k46 k46'
     refine AtT.idx rfl trivial Tryz.underlying27 zS rfl hp46 rfl (by decide) (by decide) (by decide) ?_
     intro p47 e47 he47 hc47
     first | refine AtT.zD zS ?_ | refine AtT.zJ zS ?_ | refine AtT.zC zS ?_
     obtain rfl : (⟨0, 0, 2, 2⟩ : Pc) = e47 := qO (h := he47)
     refine AtT.zq rfl rfl ok21 (qo (zK 4) ⟨0, 0, 2, 2⟩ _ _ (sv1 hs1)) ?_
     rintro _ rfl; rw [w2]
     refine AtT.zf ?_
     refine AtT.zf ?_
     refine AtT.done ?_
    rotate_right
    focus
     refine AtT.zw (qh _ _ _ _) ?_
     intro q45 V45 hV45 hq45
     (try replace hs1:=hs1.le hV45);(try replace hs2:=hs2.le hV45);(try replace s39:=s39.le hV45)
     have s45 : SlI V45 _ [0, 0, 2, 2] := Sl.lit hq45 rfl (by decide)
     refine AtT.zq rfl rfl ok21 (qo (zK 4) ⟨0, 0, 1, 4⟩ _ _ (sv1 hs1)) ?_
     rintro _ rfl; rw [w1]
     refine AtT.qg rfl rfl ok53 (qI [⟨0, 0, 2, 2⟩] (by decide) _ _ (show SlI _ _ [0, 0, 2, 2] from s45)) ?_
     rintro _ V46 hV46 hp46; (try replace hs1:=hs1.le hV46); (try replace hs2:=hs2.le hV46); (try replace s39:=s39.le hV46); obtain ⟨a46, c46, rfl, k46, k46', _⟩ := id hp46; clear k46 k46'
     refine AtT.idx rfl trivial Tryz.underlying27 zS rfl hp46 rfl (by decide) (by decide) (by decide) ?_
     intro p47 e47 he47 hc47
     first | refine AtT.zD zS ?_ | refine AtT.zJ zS ?_ | refine AtT.zC zS ?_
     obtain rfl : (⟨0, 0, 2, 2⟩ : Pc) = e47 := qO (h := he47)
     refine AtT.zq rfl rfl ok21 (qo (zK 4) ⟨0, 0, 2, 2⟩ _ _ (sv1 hs1)) ?_
     rintro _ rfl; rw [w2]
     refine AtT.zf ?_
     refine AtT.zf ?_
     refine AtT.done ?_
   rotate_right
   focus
    refine AtT.zw (qh _ _ _ _) ?_
    intro q45 V45 hV45 hq45
    (try replace hs1:=hs1.le hV45);(try replace hs2:=hs2.le hV45);(try replace s39:=s39.le hV45)
    have s45 : SlI V45 _ [0, 0, 2, 2] := Sl.lit hq45 rfl (by decide)
    refine AtT.qg rfl rfl ok53 (qI [⟨0, 0, 1, 4⟩] (by decide) _ _ (show SlI _ _ [0, 0, 1, 4] from s39)) ?_
    rintro _ V40 hV40 hp40; (try replace hs1:=hs1.le hV40); (try replace hs2:=hs2.le hV40); (try replace s45:=s45.le hV40); obtain ⟨a40, c40, rfl, k40, k40', _⟩ := id hp40; clear k40 k40'
    refine AtT.idx rfl trivial Tryz.underlying27 zS rfl hp40 rfl (by decide) (by decide) (by decide) ?_
    intro p41 e41 he41 hc41
    first | refine AtT.zD zS ?_ | refine AtT.zJ zS ?_ | refine AtT.zC zS ?_
    obtain rfl : (⟨0, 0, 1, 4⟩ : Pc) = e41 := qO (h := he41)
    refine AtT.zq rfl rfl ok21 (qo (zK 4) ⟨0, 0, 1, 4⟩ _ _ (sv1 hs1)) ?_
    rintro _ rfl; rw [w1]
    refine AtT.qg rfl rfl ok53 (qI [⟨0, 0, 2, 2⟩] (by decide) _ _ (show SlI _ _ [0, 0, 2, 2] from s45)) ?_
    rintro _ V46 hV46 hp46; (try replace hs1:=hs1.le hV46); (try replace hs2:=hs2.le hV46); (try replace s39:=s39.le hV46); obtain ⟨a46, c46, rfl, k46, k46', _⟩ := id hp46; clear k46 k46'
    refine AtT.idx rfl trivial Tryz.underlying27 zS rfl hp46 rfl (by decide) (by decide) (by decide) ?_
    intro p47 e47 he47 hc47
    first | refine AtT.zD zS ?_ | refine AtT.zJ zS ?_ | refine AtT.zC zS ?_
    obtain rfl : (⟨0, 0, 2, 2⟩ : Pc) = e47 := qO (h := he47)
    refine AtT.zq rfl rfl ok21 (qo (zK 4) ⟨0, 0, 2, 2⟩ _ _ (sv1 hs1)) ?_
    rintro _ rfl; rw [w2]
    refine AtT.zf ?_
    refine AtT.zf ?_
    refine AtT.done ?_
  rotate_right
  focus
   refine AtT.zw (qh _ _ _ _) ?_
   intro q45 V45 hV45 hq45
   (try replace hs1:=hs1.le hV45);(try replace hs2:=hs2.le hV45);(try replace s39:=s39.le hV45)
   have s45 : SlI V45 _ [0, 0, 2, 2] := Sl.lit hq45 rfl (by decide)
   refine AtT.zw (qh _ _ _ _) ?_
   intro q39 V39 hV39 hq39
   (try replace hs1:=hs1.le hV39);(try replace hs2:=hs2.le hV39);(try replace s45:=s45.le hV39)
   have s39 : SlI V39 _ [0, 0, 1, 4] := Sl.lit hq39 rfl (by decide)
   refine AtT.qg rfl rfl ok53 (qI [⟨0, 0, 1, 4⟩] (by decide) _ _ (show SlI _ _ [0, 0, 1, 4] from s39)) ?_
   rintro _ V40 hV40 hp40; (try replace hs1:=hs1.le hV40); (try replace hs2:=hs2.le hV40); (try replace s45:=s45.le hV40); obtain ⟨a40, c40, rfl, k40, k40', _⟩ := id hp40; clear k40 k40'
   refine AtT.idx rfl trivial Tryz.underlying27 zS rfl hp40 rfl (by decide) (by decide) (by decide) ?_
   intro p41 e41 he41 hc41
   first | refine AtT.zD zS ?_ | refine AtT.zJ zS ?_ | refine AtT.zC zS ?_
   obtain rfl : (⟨0, 0, 1, 4⟩ : Pc) = e41 := qO (h := he41)
   refine AtT.zq rfl rfl ok21 (qo (zK 4) ⟨0, 0, 1, 4⟩ _ _ (sv1 hs1)) ?_
   rintro _ rfl; rw [w1]
   refine AtT.qg rfl rfl ok53 (qI [⟨0, 0, 2, 2⟩] (by decide) _ _ (show SlI _ _ [0, 0, 2, 2] from s45)) ?_
   rintro _ V46 hV46 hp46; (try replace hs1:=hs1.le hV46); (try replace hs2:=hs2.le hV46); (try replace s39:=s39.le hV46); obtain ⟨a46, c46, rfl, k46, k46', _⟩ := id hp46; clear k46 k46'
   refine AtT.idx rfl trivial Tryz.underlying27 zS rfl hp46 rfl (by decide) (by decide) (by decide) ?_
   intro p47 e47 he47 hc47
   first | refine AtT.zD zS ?_ | refine AtT.zJ zS ?_ | refine AtT.zC zS ?_
   obtain rfl : (⟨0, 0, 2, 2⟩ : Pc) = e47 := qO (h := he47)
   refine AtT.zq rfl rfl ok21 (qo (zK 4) ⟨0, 0, 2, 2⟩ _ _ (sv1 hs1)) ?_
   rintro _ rfl; rw [w2]
   refine AtT.zf ?_
   refine AtT.zf ?_
   refine AtT.done ?_
  all_goals (refine At.nrm ?_)
  all_goals exact At.qC () ⟨hs1, hs2⟩ ⟨rfl, rfl, rfl, rfl, trivial⟩ Pt.zO
 rintro - Vc1 ks' O' ⟨hs1, hs2⟩ hk hO hl1
 subst hk hO
 refine At.nrm ?_
 refine At.jr (ι := Unit) (fun _ => [(1, .pointer (some ⟨b1, 0, none⟩)), (2, .pointer (some ⟨b2, 0, none⟩)), (3, iv 0), (4, iv 20), (5, iv 3), (6, iv 4)]) (fun _ => [.blk b1 (LC [.slice a1 (zK 4).rows.length c1, iv (zK 4).most] 24), .blk b2 (LC [.slice a2 qL.rows.length c2, iv qL.most] 24)]) (fun _ V'' => Sl V'' bse 1 (.slice a1 (zK 4).rows.length c1) (zK 4).rows ∧ Sl V'' bse 1 (.slice a2 qL.rows.length c2) qL.rows) ?_ ?_
 ·refine At.draw (.q 0 (.q 6 (.two 1 (.two 2 (.q 3 (.q 4 (.two 5 (.n false 7 (.n false 8 (.q 9 (.q 10 (.n false 11 (.q 12 (.q 13 .done))))))) 7 (.n false 5 (.n false 8 (.q 9 (.q 10 (.n false 11 (.q 12 (.q 13 .done)))))))))) 7 (.n false 2 (.q 3 (.q 4 (.n false 5 (.n false 8 (.q 9 (.q 10 (.n false 11 (.q 12 (.q 13 .done))))))))))) 7 (.n false 1 (.n false 2 (.q 3 (.q 4 (.n false 5 (.n false 8 (.q 9 (.q 10 (.n false 11 (.q 12 (.q 13 .done)))))))))))))) ffm (by kernel_rfl) ?_
  first | refine AtT.zD zM ?_ | refine AtT.zJ zM ?_ | refine AtT.zC zM ?_
  first | refine AtT.zD zM ?_ | refine AtT.zJ zM ?_ | refine AtT.zC zM ?_
  refine AtT.two ?_ ?_
  focus
   refine AtT.zw (qh _ _ _ _) ?_
   intro q51 V51 hV51 hq51
   (try replace hs1:=hs1.le hV51);(try replace hs2:=hs2.le hV51);(try replace s57:=s57.le hV51)
   have s51 : SlI V51 _ [0, 1, 1, 4] := Sl.lit hq51 rfl (by decide)
   refine AtT.two ?_ ?_
   focus
    refine AtT.qg rfl rfl ok53 (qI [⟨0, 1, 1, 4⟩] (by decide) _ _ (show SlI _ _ [0, 1, 1, 4] from s51)) ?_
    rintro _ V52 hV52 hp52; (try replace hs1:=hs1.le hV52); (try replace hs2:=hs2.le hV52); (try replace s57:=s57.le hV52); obtain ⟨a52, c52, rfl, k52, k52', _⟩ := id hp52; clear k52 k52'
    refine AtT.idx rfl trivial Tryz.underlying27 zS rfl hp52 rfl (by decide) (by decide) (by decide) ?_
    intro p53 e53 he53 hc53
    first | refine AtT.zD zS ?_ | refine AtT.zJ zS ?_ | refine AtT.zC zS ?_
    obtain rfl : (⟨0, 1, 1, 4⟩ : Pc) = e53 := qO (h := he53)
    refine AtT.two ?_ ?_
    focus
     refine AtT.zq rfl rfl ok21 (qo (zK 4) ⟨0, 1, 1, 4⟩ _ _ (sv1 hs1)) ?_
     rintro _ rfl; rw [w3]
     refine AtT.zw (qh _ _ _ _) ?_
     intro q57 V57 hV57 hq57
     (try replace hs1:=hs1.le hV57);(try replace hs2:=hs2.le hV57);(try replace s51:=s51.le hV57)
     have s57 : SlI V57 _ [0, 2, 3, 2] := Sl.lit hq57 rfl (by decide)
     refine AtT.qg rfl rfl ok53 (qI [⟨0, 2, 3, 2⟩] (by decide) _ _ (show SlI _ _ [0, 2, 3, 2] from s57)) ?_
     rintro _ V58 hV58 hp58; (try replace hs1:=hs1.le hV58); (try replace hs2:=hs2.le hV58); (try replace s51:=s51.le hV58); obtain ⟨a58, c58, rfl, k58, k58', _⟩ := id hp58; clear k58 k58'
     refine AtT.idx rfl trivial Tryz.underlying27 zS rfl hp58 rfl (by decide) (by decide) (by decide) ?_
     intro p59 e59 he59 hc59
     first | refine AtT.zD zS ?_ | refine AtT.zJ zS ?_ | refine AtT.zC zS ?_
     obtain rfl : (⟨0, 2, 3, 2⟩ : Pc) = e59 := qO (h := he59)
     refine AtT.zq rfl rfl ok21 (qo (zK 4) ⟨0, 2, 3, 2⟩ _ _ (sv1 hs1)) ?_
     rintro _ rfl; rw [w4]
     refine AtT.zf ?_
     refine AtT.zf ?_
     refine AtT.done ?_
    rotate_right
    focus
     refine AtT.zw (qh _ _ _ _) ?_
     intro q57 V57 hV57 hq57
     (try replace hs1:=hs1.le hV57);(try replace hs2:=hs2.le hV57);(try replace s51:=s51.le hV57)
     have s57 : SlI V57 _ [0, 2, 3, 2] := Sl.lit hq57 rfl (by decide)
     refine AtT.zq rfl rfl ok21 (qo (zK 4) ⟨0, 1, 1, 4⟩ _ _ (sv1 hs1)) ?_
     rintro _ rfl; rw [w3]
     refine AtT.qg rfl rfl ok53 (qI [⟨0, 2, 3, 2⟩] (by decide) _ _ (show SlI _ _ [0, 2, 3, 2] from s57)) ?_
     rintro _ V58 hV58 hp58; (try replace hs1:=hs1.le hV58); (try replace hs2:=hs2.le hV58); (try replace s51:=s51.le hV58); obtain ⟨a58, c58, rfl, k58, k58', _⟩ := id hp58; clear k58 k58'
     refine AtT.idx rfl trivial Tryz.underlying27 zS rfl hp58 rfl (by decide) (by decide) (by decide) ?_
     intro p59 e59 he59 hc59
     first | refine AtT.zD zS ?_ | refine AtT.zJ zS ?_ | refine AtT.zC zS ?_
     obtain rfl : (⟨0, 2, 3, 2⟩ : Pc) = e59 := qO (h := he59)
     refine AtT.zq rfl rfl ok21 (qo (zK 4) ⟨0, 2, 3, 2⟩ _ _ (sv1 hs1)) ?_
     rintro _ rfl; rw [w4]
     refine AtT.zf ?_
     refine AtT.zf ?_
     refine AtT.done ?_
   rotate_right
   focus
    refine AtT.zw (qh _ _ _ _) ?_
    intro q57 V57 hV57 hq57
    (try replace hs1:=hs1.le hV57);(try replace hs2:=hs2.le hV57);(try replace s51:=s51.le hV57)
    have s57 : SlI V57 _ [0, 2, 3, 2] := Sl.lit hq57 rfl (by decide)
    refine AtT.qg rfl rfl ok53 (qI [⟨0, 1, 1, 4⟩] (by decide) _ _ (show SlI _ _ [0, 1, 1, 4] from s51)) ?_
    rintro _ V52 hV52 hp52; (try replace hs1:=hs1.le hV52); (try replace hs2:=hs2.le hV52); (try replace s57:=s57.le hV52); obtain ⟨a52, c52, rfl, k52, k52', _⟩ := id hp52; clear k52 k52'
    refine AtT.idx rfl trivial Tryz.underlying27 zS rfl hp52 rfl (by decide) (by decide) (by decide) ?_
    intro p53 e53 he53 hc53
    first | refine AtT.zD zS ?_ | refine AtT.zJ zS ?_ | refine AtT.zC zS ?_
    obtain rfl : (⟨0, 1, 1, 4⟩ : Pc) = e53 := qO (h := he53)
    refine AtT.zq rfl rfl ok21 (qo (zK 4) ⟨0, 1, 1, 4⟩ _ _ (sv1 hs1)) ?_
    rintro _ rfl; rw [w3]
    refine AtT.qg rfl rfl ok53 (qI [⟨0, 2, 3, 2⟩] (by decide) _ _ (show SlI _ _ [0, 2, 3, 2] from s57)) ?_
    rintro _ V58 hV58 hp58; (try replace hs1:=hs1.le hV58); (try replace hs2:=hs2.le hV58); (try replace s51:=s51.le hV58); obtain ⟨a58, c58, rfl, k58, k58', _⟩ := id hp58; clear k58 k58'
    refine AtT.idx rfl trivial Tryz.underlying27 zS rfl hp58 rfl (by decide) (by decide) (by decide) ?_
    intro p59 e59 he59 hc59
    first | refine AtT.zD zS ?_ | refine AtT.zJ zS ?_ | refine AtT.zC zS ?_
    obtain rfl : (⟨0, 2, 3, 2⟩ : Pc) = e59 := qO (h := he59)
    refine AtT.zq rfl rfl ok21 (qo (zK 4) ⟨0, 2, 3, 2⟩ _ _ (sv1 hs1)) ?_
    rintro _ rfl; rw [w4]
    refine AtT.zf ?_
    refine AtT.zf ?_
    refine AtT.done ?_
  rotate_right
  focus
   refine AtT.zw (qh _ _ _ _) ?_
   intro q57 V57 hV57 hq57
   (try replace hs1:=hs1.le hV57);(try replace hs2:=hs2.le hV57);(try replace s51:=s51.le hV57)
   have s57 : SlI V57 _ [0, 2, 3, 2] := Sl.lit hq57 rfl (by decide)
   refine AtT.zw (qh _ _ _ _) ?_
   intro q51 V51 hV51 hq51
   (try replace hs1:=hs1.le hV51);(try replace hs2:=hs2.le hV51);(try replace s57:=s57.le hV51)
   have s51 : SlI V51 _ [0, 1, 1, 4] := Sl.lit hq51 rfl (by decide)
   refine AtT.qg rfl rfl ok53 (qI [⟨0, 1, 1, 4⟩] (by decide) _ _ (show SlI _ _ [0, 1, 1, 4] from s51)) ?_
   rintro _ V52 hV52 hp52; (try replace hs1:=hs1.le hV52); (try replace hs2:=hs2.le hV52); (try replace s57:=s57.le hV52); obtain ⟨a52, c52, rfl, k52, k52', _⟩ := id hp52; clear k52 k52'
   refine AtT.idx rfl trivial Tryz.underlying27 zS rfl hp52 rfl (by decide) (by decide) (by decide) ?_
   intro p53 e53 he53 hc53
   first | refine AtT.zD zS ?_ | refine AtT.zJ zS ?_ | refine AtT.zC zS ?_
   obtain rfl : (⟨0, 1, 1, 4⟩ : Pc) = e53 := qO (h := he53)
   refine AtT.zq rfl rfl ok21 (qo (zK 4) ⟨0, 1, 1, 4⟩ _ _ (sv1 hs1)) ?_
   rintro _ rfl; rw [w3]
   refine AtT.qg rfl rfl ok53 (qI [⟨0, 2, 3, 2⟩] (by decide) _ _ (show SlI _ _ [0, 2, 3, 2] from s57)) ?_
   rintro _ V58 hV58 hp58; (try replace hs1:=hs1.le hV58); (try replace hs2:=hs2.le hV58); (try replace s51:=s51.le hV58); obtain ⟨a58, c58, rfl, k58, k58', _⟩ := id hp58; clear k58 k58'
   refine AtT.idx rfl trivial Tryz.underlying27 zS rfl hp58 rfl (by decide) (by decide) (by decide) ?_
   intro p59 e59 he59 hc59
   first | refine AtT.zD zS ?_ | refine AtT.zJ zS ?_ | refine AtT.zC zS ?_
   obtain rfl : (⟨0, 2, 3, 2⟩ : Pc) = e59 := qO (h := he59)
   refine AtT.zq rfl rfl ok21 (qo (zK 4) ⟨0, 2, 3, 2⟩ _ _ (sv1 hs1)) ?_
   rintro _ rfl; rw [w4]
   refine AtT.zf ?_
   refine AtT.zf ?_
   refine AtT.done ?_
  all_goals (refine At.nrm ?_)
  all_goals exact At.qC () ⟨hs1, hs2⟩ ⟨rfl, rfl, rfl, rfl, rfl, rfl, trivial⟩ Pt.zO
 rintro - Vc2 ks' O' ⟨hs1, hs2⟩ hk hO hl2
 subst hk hO
 refine At.nrm ?_
 refine At.draw (.q 0 (.n false 1 (.n false 2 (.n false 3 (.q 4 (.q 5 (.q 6 (.q 7 (.q 8 .done))))))))) ffm (by kernel_rfl) ?_
 first | refine AtT.zD zM ?_ | refine AtT.zJ zM ?_ | refine AtT.zC zM ?_
 refine AtT.zw (bs39_8_0_1_2_3_4_5_6_7 _ _ _ _ _ _ _ _) ?_
 intro q64 V64 hV64 hq64
 (try replace hs1:=hs1.le hV64);(try replace hs2:=hs2.le hV64)
 have s64 : SlI V64 _ [0, 0, 1, 4, 2, 0, 1, 4] := Sl.lit hq64 rfl (by decide)
 refine AtT.qg rfl rfl ok53 (qI [⟨0, 0, 1, 4⟩, ⟨2, 0, 1, 4⟩] (by decide) _ _ (show SlI _ _ [0, 0, 1, 4, 2, 0, 1, 4] from s64)) ?_
 rintro _ V65 hV65 hp65; (try replace hs1:=hs1.le hV65); (try replace hs2:=hs2.le hV65); obtain ⟨a65, c65, rfl, k65, k65', _⟩ := id hp65; clear k65 k65'
 refine AtT.zq rfl rfl ok17 (checkPatches_f (zK 4) [⟨0, 0, 1, 4⟩, ⟨2, 0, 1, 4⟩] _ _ _ (sv1 hs1) hp65) ?_
 rintro _ rfl; rw [w5]
 refine AtT.zh ?_
 refine AtT.zL ?_
 refine AtT.zL ?_
 refine AtT.zf ?_
 refine AtT.zf ?_
 refine AtT.done ?_
 refine At.nrm ?_
 refine At.draw (.q 0 (.n false 1 (.n false 2 (.n false 3 (.q 4 (.q 5 (.q 6 (.q 7 (.q 8 .done))))))))) ffm (by kernel_rfl) ?_
 first | refine AtT.zD zM ?_ | refine AtT.zJ zM ?_ | refine AtT.zC zM ?_
 refine AtT.zw (qh _ _ _ _) ?_
 intro q71 V71 hV71 hq71
 (try replace hs1:=hs1.le hV71);(try replace hs2:=hs2.le hV71)
 have s71 : SlI V71 _ [0, 0, 1, 4] := Sl.lit hq71 rfl (by decide)
 refine AtT.qg rfl rfl ok53 (qI [⟨0, 0, 1, 4⟩] (by decide) _ _ (show SlI _ _ [0, 0, 1, 4] from s71)) ?_
 rintro _ V72 hV72 hp72; (try replace hs1:=hs1.le hV72); (try replace hs2:=hs2.le hV72); obtain ⟨a72, c72, rfl, k72, k72', _⟩ := id hp72; clear k72 k72'
 refine AtT.zq rfl rfl ok17 (checkPatches_f (zK 4) [⟨0, 0, 1, 4⟩] _ _ _ (sv1 hs1) hp72) ?_
 rintro _ rfl; rw [w6]
 refine AtT.zh ?_
 refine AtT.zL ?_
 refine AtT.zL ?_
 refine AtT.zf ?_
 refine AtT.zf ?_
 refine AtT.done ?_
 refine At.nrm ?_
 refine At.zl (.q 0 (.n false 1 (.q 2 (.q 3 (.q 4 (.q 5 (.q 6 .done))))))) ?_
 first | refine AtT.zD zM ?_ | refine AtT.zJ zM ?_ | refine AtT.zC zM ?_
 refine AtT.zq rfl rfl ok23 (fewest_f (zK 4) _ _ (sv1 hs1)) ?_
 rintro _ ⟨n78, e78, rfl, hF⟩; obtain ⟨rfl, m78, d78, rfl, hB78⟩ := fw_ok fourOk hF; obtain ⟨rfl, rfl⟩ := best_uniq hB78 wB
 refine AtT.zh ?_
 refine AtT.zL ?_
 refine AtT.zL ?_
 refine AtT.zf ?_
 refine AtT.zf ?_
 refine AtT.done ?_
 refine At.nrm ?_
 refine At.zl (.q 0 (.n false 1 (.q 2 (.q 3 (.q 4 (.q 5 (.q 6 .done))))))) ?_
 first | refine AtT.zD zM ?_ | refine AtT.zJ zM ?_ | refine AtT.zC zM ?_
 refine AtT.zq rfl rfl ok25 (cells_f (zK 4) _ _ (sv1 hs1)) ?_
 rintro _ ⟨n83, e83, rfl, hC⟩; obtain ⟨rfl, m83, hB83⟩ := ce_ok fourOk hC; obtain ⟨rfl, rfl⟩ := best_uniq hB83 wB
 refine AtT.zh ?_
 refine AtT.zL ?_
 refine AtT.zL ?_
 refine AtT.zf ?_
 refine AtT.zf ?_
 refine AtT.done ?_
 refine At.nrm ?_
 refine At.zl (.q 0 (.n false 1 (.q 2 (.q 3 (.q 4 (.q 5 (.q 6 .done))))))) ?_
 first | refine AtT.zD zM ?_ | refine AtT.zJ zM ?_ | refine AtT.zC zM ?_
 refine AtT.qg rfl rfl ok27 (patches_f (zK 4) _ _ (sv1 hs1)) ?_
 rintro _ V88 hV88 ⟨a88, c88, ps, e88, rfl, hps, hr⟩; obtain ⟨rfl, hm⟩ := pt_ok fourOk hr
 refine AtT.zh ?_
 refine AtT.zL ?_
 refine AtT.zL ?_
 refine AtT.zf ?_
 refine AtT.zf ?_
 refine AtT.done ?_
 refine At.nrm ?_
 obtain ⟨hpl, hpa⟩ := best_uniq hm.best wB
 have hcp : cpR (zK 4) ps = (6, 0) := by rw [cpR_mends (jo fourOk) (by omega) hm.mends, hpa]
 replace hs1 := hs1.le hV88
 replace hs2 := hs2.le hV88
 clear hV88
 refine At.zl (.q 0 (.n false 1 (.q 2 (.q 3 (.q 4 (.q 5 (.q 6 .done))))))) ?_
 first | refine AtT.zD zM ?_ | refine AtT.zJ zM ?_ | refine AtT.zC zM ?_
 refine AtT.qg rfl rfl ok28 (aloneP_f (zK 4) _ _ (sv1 hs1)) ?_
 rintro _ V93 hV93 ⟨u93, rfl, hu93⟩; rw [fourOk]
 refine AtT.zh ?_
 refine AtT.zL ?_
 refine AtT.zL ?_
 refine AtT.zf ?_
 refine AtT.zf ?_
 refine AtT.done ?_
 refine At.nrm ?_
 rw [if_pos fourOk, wA] at hu93
 replace hs1 := hs1.le hV93
 replace hs2 := hs2.le hV93
 replace hps := hps.le hV93
 clear hV93
 refine At.jr (ι := Unit) (fun _ => [(1, .pointer (some ⟨b1, 0, none⟩)), (2, .pointer (some ⟨b2, 0, none⟩)), (3, iv 0), (4, iv 20), (5, iv 3), (6, iv 4), (7, iv 8), (8, iv 0), (10, iv 14), (11, iv ((2 : Nat) : Int)), (12, iv 0), (13, iv 6), (14, iv 0), (15, .slice a88 ps.length c88), (16, iv 0), (17, u93), (18, iv 0), (19, iv 0), (20, iv 16), (21, iv 3)]) (fun _ => [.blk b1 (LC [.slice a1 (zK 4).rows.length c1, iv (zK 4).most] 24), .blk b2 (LC [.slice a2 qL.rows.length c2, iv qL.most] 24)]) (fun _ V'' => Sl V'' bse 1 (.slice a1 (zK 4).rows.length c1) (zK 4).rows ∧ Sl V'' bse 1 (.slice a2 qL.rows.length c2) qL.rows ∧ Sl V'' pce 4 (.slice a88 ps.length c88) ps ∧ SlI V'' u93 [0, 3]) ?_ ?_
 ·refine At.draw (.q 0 (.q 4 (.q 8 (.br [1, 5, 9] (fun i => bif Nat.beq i 1 then (.br [2, 5, 9] (fun i => bif Nat.beq i 2 then (.br [3, 5, 9] (fun i => bif Nat.beq i 3 then (.two 5 (.two 6 (.two 7 (.n false 9 (.n false 10 (.n false 11 (.q 12 (.q 13 (.q 14 .done)))))) 9 (.n false 7 (.n false 10 (.n false 11 (.q 12 (.q 13 (.q 14 .done))))))) 9 (.n false 6 (.n false 7 (.n false 10 (.n false 11 (.q 12 (.q 13 (.q 14 .done)))))))) 9 (.n false 5 (.n false 6 (.n false 7 (.n false 10 (.n false 11 (.q 12 (.q 13 (.q 14 .done))))))))) else bif Nat.beq i 5 then (.two 3 (.two 6 (.two 7 (.n false 9 (.n false 10 (.n false 11 (.q 12 (.q 13 (.q 14 .done)))))) 9 (.n false 7 (.n false 10 (.n false 11 (.q 12 (.q 13 (.q 14 .done))))))) 9 (.n false 6 (.n false 7 (.n false 10 (.n false 11 (.q 12 (.q 13 (.q 14 .done)))))))) 9 (.n false 3 (.n false 6 (.n false 7 (.n false 10 (.n false 11 (.q 12 (.q 13 (.q 14 .done))))))))) else bif Nat.beq i 9 then (.two 3 (.n false 5 (.n false 6 (.n false 7 (.n false 10 (.n false 11 (.q 12 (.q 13 (.q 14 .done)))))))) 5 (.n false 3 (.n false 6 (.n false 7 (.n false 10 (.n false 11 (.q 12 (.q 13 (.q 14 .done))))))))) else .done)) else bif Nat.beq i 5 then (.two 2 (.two 3 (.two 6 (.two 7 (.n false 9 (.n false 10 (.n false 11 (.q 12 (.q 13 (.q 14 .done)))))) 9 (.n false 7 (.n false 10 (.n false 11 (.q 12 (.q 13 (.q 14 .done))))))) 9 (.n false 6 (.n false 7 (.n false 10 (.n false 11 (.q 12 (.q 13 (.q 14 .done)))))))) 9 (.n false 3 (.n false 6 (.n false 7 (.n false 10 (.n false 11 (.q 12 (.q 13 (.q 14 .done))))))))) 9 (.n false 2 (.n false 3 (.n false 6 (.n false 7 (.n false 10 (.n false 11 (.q 12 (.q 13 (.q 14 .done)))))))))) else bif Nat.beq i 9 then (.two 2 (.two 3 (.n false 5 (.n false 6 (.n false 7 (.n false 10 (.n false 11 (.q 12 (.q 13 (.q 14 .done)))))))) 5 (.n false 3 (.n false 6 (.n false 7 (.n false 10 (.n false 11 (.q 12 (.q 13 (.q 14 .done))))))))) 5 (.n false 2 (.n false 3 (.n false 6 (.n false 7 (.n false 10 (.n false 11 (.q 12 (.q 13 (.q 14 .done)))))))))) else .done)) else bif Nat.beq i 5 then (.two 1 (.two 2 (.two 3 (.two 6 (.two 7 (.n false 9 (.n false 10 (.n false 11 (.q 12 (.q 13 (.q 14 .done)))))) 9 (.n false 7 (.n false 10 (.n false 11 (.q 12 (.q 13 (.q 14 .done))))))) 9 (.n false 6 (.n false 7 (.n false 10 (.n false 11 (.q 12 (.q 13 (.q 14 .done)))))))) 9 (.n false 3 (.n false 6 (.n false 7 (.n false 10 (.n false 11 (.q 12 (.q 13 (.q 14 .done))))))))) 9 (.n false 2 (.n false 3 (.n false 6 (.n false 7 (.n false 10 (.n false 11 (.q 12 (.q 13 (.q 14 .done)))))))))) 9 (.n false 1 (.n false 2 (.n false 3 (.n false 6 (.n false 7 (.n false 10 (.n false 11 (.q 12 (.q 13 (.q 14 .done))))))))))) else bif Nat.beq i 9 then (.two 1 (.two 2 (.two 3 (.n false 5 (.n false 6 (.n false 7 (.n false 10 (.n false 11 (.q 12 (.q 13 (.q 14 .done)))))))) 5 (.n false 3 (.n false 6 (.n false 7 (.n false 10 (.n false 11 (.q 12 (.q 13 (.q 14 .done))))))))) 5 (.n false 2 (.n false 3 (.n false 6 (.n false 7 (.n false 10 (.n false 11 (.q 12 (.q 13 (.q 14 .done)))))))))) 5 (.n false 1 (.n false 2 (.n false 3 (.n false 6 (.n false 7 (.n false 10 (.n false 11 (.q 12 (.q 13 (.q 14 .done))))))))))) else .done))))) ffm (by kernel_rfl) ?_
  first | refine AtT.zD zM ?_ | refine AtT.zJ zM ?_ | refine AtT.zC zM ?_
  first | refine AtT.zD zM ?_ | refine AtT.zJ zM ?_ | refine AtT.zC zM ?_
  first | refine AtT.zD zM ?_ | refine AtT.zJ zM ?_ | refine AtT.zC zM ?_
  refine AtT.br (fun i hi => ?_)
  simp only [List.mem_cons, List.not_mem_nil, or_false] at hi
  rcases hi with rfl | rfl | rfl
  rotate_right
  focus
   refine AtT.zw (zQ _ _) ?_
   intro q105 V105 hV105 hq105
   (try replace hs1:=hs1.le hV105);(try replace hs2:=hs2.le hV105);(try replace hps:=hps.le hV105);(try replace hu93:=hu93.le hV105);(try replace s97:=s97.le hV105);(try replace s101:=s101.le hV105)
   have s105 : SlI V105 _ [3, 0] := Sl.lit hq105 rfl (by decide)
   refine AtT.two ?_ ?_
   focus
    refine AtT.zw (zQ _ _) ?_
    intro q97 V97 hV97 hq97
    (try replace hs1:=hs1.le hV97);(try replace hs2:=hs2.le hV97);(try replace hps:=hps.le hV97);(try replace hu93:=hu93.le hV97);(try replace s101:=s101.le hV97);(try replace s105:=s105.le hV97)
    have s97 : SlI V97 _ [1, 2] := Sl.lit hq97 rfl (by decide)
    refine AtT.two ?_ ?_
    focus
     refine AtT.zq rfl rfl qF (qG _ _) ?_
     rintro _ rfl
     refine AtT.two ?_ ?_
     focus
      refine AtT.zq rfl rfl ok32 (zu (zK 4) [1, 2] _ _ _ (sv1 hs1) s97) ?_
      rintro _ rfl; rw [wC1]
      refine AtT.zw (zQ _ _) ?_
      intro q101 V101 hV101 hq101
      (try replace hs1:=hs1.le hV101);(try replace hs2:=hs2.le hV101);(try replace hps:=hps.le hV101);(try replace hu93:=hu93.le hV101);(try replace s97:=s97.le hV101);(try replace s105:=s105.le hV101)
      have s101 : SlI V101 _ [0, 1] := Sl.lit hq101 rfl (by decide)
      refine AtT.zq rfl rfl qF (qG _ _) ?_
      rintro _ rfl
      refine AtT.zq rfl rfl ok32 (zu (zK 4) [0, 1] _ _ _ (sv1 hs1) s101) ?_
      rintro _ rfl; rw [wC2]
      refine AtT.zq rfl rfl qF (qG _ _) ?_
      rintro _ rfl
      refine AtT.zq rfl rfl ok32 (zu (zK 4) [3, 0] _ _ _ (sv1 hs1) s105) ?_
      rintro _ rfl; rw [wC3]
      refine AtT.zf ?_
      refine AtT.zf ?_
      refine AtT.zf ?_
      refine AtT.done ?_
     rotate_right
     focus
      refine AtT.zw (zQ _ _) ?_
      intro q101 V101 hV101 hq101
      (try replace hs1:=hs1.le hV101);(try replace hs2:=hs2.le hV101);(try replace hps:=hps.le hV101);(try replace hu93:=hu93.le hV101);(try replace s97:=s97.le hV101);(try replace s105:=s105.le hV101)
      have s101 : SlI V101 _ [0, 1] := Sl.lit hq101 rfl (by decide)
      refine AtT.zq rfl rfl ok32 (zu (zK 4) [1, 2] _ _ _ (sv1 hs1) s97) ?_
      rintro _ rfl; rw [wC1]
      refine AtT.zq rfl rfl qF (qG _ _) ?_
      rintro _ rfl
      refine AtT.zq rfl rfl ok32 (zu (zK 4) [0, 1] _ _ _ (sv1 hs1) s101) ?_
      rintro _ rfl; rw [wC2]
      refine AtT.zq rfl rfl qF (qG _ _) ?_
      rintro _ rfl
      refine AtT.zq rfl rfl ok32 (zu (zK 4) [3, 0] _ _ _ (sv1 hs1) s105) ?_
      rintro _ rfl; rw [wC3]
      refine AtT.zf ?_
      refine AtT.zf ?_
      refine AtT.zf ?_
      refine AtT.done ?_
    rotate_right
    focus
     refine AtT.zw (zQ _ _) ?_
     intro q101 V101 hV101 hq101
     (try replace hs1:=hs1.le hV101);(try replace hs2:=hs2.le hV101);(try replace hps:=hps.le hV101);(try replace hu93:=hu93.le hV101);(try replace s97:=s97.le hV101);(try replace s105:=s105.le hV101)
     have s101 : SlI V101 _ [0, 1] := Sl.lit hq101 rfl (by decide)
     refine AtT.zq rfl rfl qF (qG _ _) ?_
     rintro _ rfl
     refine AtT.zq rfl rfl ok32 (zu (zK 4) [1, 2] _ _ _ (sv1 hs1) s97) ?_
     rintro _ rfl; rw [wC1]
     refine AtT.zq rfl rfl qF (qG _ _) ?_
     rintro _ rfl
     refine AtT.zq rfl rfl ok32 (zu (zK 4) [0, 1] _ _ _ (sv1 hs1) s101) ?_
     rintro _ rfl; rw [wC2]
     refine AtT.zq rfl rfl qF (qG _ _) ?_
     rintro _ rfl
     refine AtT.zq rfl rfl ok32 (zu (zK 4) [3, 0] _ _ _ (sv1 hs1) s105) ?_
     rintro _ rfl; rw [wC3]
     refine AtT.zf ?_
     refine AtT.zf ?_
     refine AtT.zf ?_
     refine AtT.done ?_
   rotate_right
   focus
    refine AtT.zw (zQ _ _) ?_
    intro q101 V101 hV101 hq101
    (try replace hs1:=hs1.le hV101);(try replace hs2:=hs2.le hV101);(try replace hps:=hps.le hV101);(try replace hu93:=hu93.le hV101);(try replace s97:=s97.le hV101);(try replace s105:=s105.le hV101)
    have s101 : SlI V101 _ [0, 1] := Sl.lit hq101 rfl (by decide)
    refine AtT.zw (zQ _ _) ?_
    intro q97 V97 hV97 hq97
    (try replace hs1:=hs1.le hV97);(try replace hs2:=hs2.le hV97);(try replace hps:=hps.le hV97);(try replace hu93:=hu93.le hV97);(try replace s101:=s101.le hV97);(try replace s105:=s105.le hV97)
    have s97 : SlI V97 _ [1, 2] := Sl.lit hq97 rfl (by decide)
    refine AtT.zq rfl rfl qF (qG _ _) ?_
    rintro _ rfl
    refine AtT.zq rfl rfl ok32 (zu (zK 4) [1, 2] _ _ _ (sv1 hs1) s97) ?_
    rintro _ rfl; rw [wC1]
    refine AtT.zq rfl rfl qF (qG _ _) ?_
    rintro _ rfl
    refine AtT.zq rfl rfl ok32 (zu (zK 4) [0, 1] _ _ _ (sv1 hs1) s101) ?_
    rintro _ rfl; rw [wC2]
    refine AtT.zq rfl rfl qF (qG _ _) ?_
    rintro _ rfl
    refine AtT.zq rfl rfl ok32 (zu (zK 4) [3, 0] _ _ _ (sv1 hs1) s105) ?_
    rintro _ rfl; rw [wC3]
    refine AtT.zf ?_
    refine AtT.zf ?_
    refine AtT.zf ?_
    refine AtT.done ?_
  rotate_right
  focus
   refine AtT.zw (zQ _ _) ?_
   intro q101 V101 hV101 hq101
   (try replace hs1:=hs1.le hV101);(try replace hs2:=hs2.le hV101);(try replace hps:=hps.le hV101);(try replace hu93:=hu93.le hV101);(try replace s97:=s97.le hV101);(try replace s105:=s105.le hV101)
   have s101 : SlI V101 _ [0, 1] := Sl.lit hq101 rfl (by decide)
   refine AtT.two ?_ ?_
   focus
    refine AtT.zw (zQ _ _) ?_
    intro q97 V97 hV97 hq97
    (try replace hs1:=hs1.le hV97);(try replace hs2:=hs2.le hV97);(try replace hps:=hps.le hV97);(try replace hu93:=hu93.le hV97);(try replace s101:=s101.le hV97);(try replace s105:=s105.le hV97)
    have s97 : SlI V97 _ [1, 2] := Sl.lit hq97 rfl (by decide)
    refine AtT.two ?_ ?_
    focus
     refine AtT.zq rfl rfl qF (qG _ _) ?_
     rintro _ rfl
     refine AtT.two ?_ ?_
     focus
      refine AtT.zq rfl rfl ok32 (zu (zK 4) [1, 2] _ _ _ (sv1 hs1) s97) ?_
      rintro _ rfl; rw [wC1]
      refine AtT.two ?_ ?_
      focus
       refine AtT.zq rfl rfl qF (qG _ _) ?_
       rintro _ rfl
       refine AtT.two ?_ ?_
       focus
        refine AtT.zq rfl rfl ok32 (zu (zK 4) [0, 1] _ _ _ (sv1 hs1) s101) ?_
        rintro _ rfl; rw [wC2]
        refine AtT.zw (zQ _ _) ?_
        intro q105 V105 hV105 hq105
        (try replace hs1:=hs1.le hV105);(try replace hs2:=hs2.le hV105);(try replace hps:=hps.le hV105);(try replace hu93:=hu93.le hV105);(try replace s97:=s97.le hV105);(try replace s101:=s101.le hV105)
        have s105 : SlI V105 _ [3, 0] := Sl.lit hq105 rfl (by decide)
        refine AtT.zq rfl rfl qF (qG _ _) ?_
        rintro _ rfl
        refine AtT.zq rfl rfl ok32 (zu (zK 4) [3, 0] _ _ _ (sv1 hs1) s105) ?_
        rintro _ rfl; rw [wC3]
        refine AtT.zf ?_
        refine AtT.zf ?_
        refine AtT.zf ?_
        refine AtT.done ?_
       rotate_right
       focus
        refine AtT.zw (zQ _ _) ?_
        intro q105 V105 hV105 hq105
        (try replace hs1:=hs1.le hV105);(try replace hs2:=hs2.le hV105);(try replace hps:=hps.le hV105);(try replace hu93:=hu93.le hV105);(try replace s97:=s97.le hV105);(try replace s101:=s101.le hV105)
        have s105 : SlI V105 _ [3, 0] := Sl.lit hq105 rfl (by decide)
        refine AtT.zq rfl rfl ok32 (zu (zK 4) [0, 1] _ _ _ (sv1 hs1) s101) ?_
        rintro _ rfl; rw [wC2]
        refine AtT.zq rfl rfl qF (qG _ _) ?_
        rintro _ rfl
        refine AtT.zq rfl rfl ok32 (zu (zK 4) [3, 0] _ _ _ (sv1 hs1) s105) ?_
        rintro _ rfl; rw [wC3]
        refine AtT.zf ?_
        refine AtT.zf ?_
        refine AtT.zf ?_
        refine AtT.done ?_
      rotate_right
      focus
       refine AtT.zw (zQ _ _) ?_
       intro q105 V105 hV105 hq105
       (try replace hs1:=hs1.le hV105);(try replace hs2:=hs2.le hV105);(try replace hps:=hps.le hV105);(try replace hu93:=hu93.le hV105);(try replace s97:=s97.le hV105);(try replace s101:=s101.le hV105)
       have s105 : SlI V105 _ [3, 0] := Sl.lit hq105 rfl (by decide)
       refine AtT.zq rfl rfl qF (qG _ _) ?_
       rintro _ rfl
       refine AtT.zq rfl rfl ok32 (zu (zK 4) [0, 1] _ _ _ (sv1 hs1) s101) ?_
       rintro _ rfl; rw [wC2]
       refine AtT.zq rfl rfl qF (qG _ _) ?_
       rintro _ rfl
       refine AtT.zq rfl rfl ok32 (zu (zK 4) [3, 0] _ _ _ (sv1 hs1) s105) ?_
       rintro _ rfl; rw [wC3]
       refine AtT.zf ?_
       refine AtT.zf ?_
       refine AtT.zf ?_
       refine AtT.done ?_
     rotate_right
     focus
      refine AtT.zw (zQ _ _) ?_
      intro q105 V105 hV105 hq105
      (try replace hs1:=hs1.le hV105);(try replace hs2:=hs2.le hV105);(try replace hps:=hps.le hV105);(try replace hu93:=hu93.le hV105);(try replace s97:=s97.le hV105);(try replace s101:=s101.le hV105)
      have s105 : SlI V105 _ [3, 0] := Sl.lit hq105 rfl (by decide)
      refine AtT.zq rfl rfl ok32 (zu (zK 4) [1, 2] _ _ _ (sv1 hs1) s97) ?_
      rintro _ rfl; rw [wC1]
      refine AtT.zq rfl rfl qF (qG _ _) ?_
      rintro _ rfl
      refine AtT.zq rfl rfl ok32 (zu (zK 4) [0, 1] _ _ _ (sv1 hs1) s101) ?_
      rintro _ rfl; rw [wC2]
      refine AtT.zq rfl rfl qF (qG _ _) ?_
      rintro _ rfl
      refine AtT.zq rfl rfl ok32 (zu (zK 4) [3, 0] _ _ _ (sv1 hs1) s105) ?_
      rintro _ rfl; rw [wC3]
      refine AtT.zf ?_
      refine AtT.zf ?_
      refine AtT.zf ?_
      refine AtT.done ?_
    rotate_right
    focus
     refine AtT.zw (zQ _ _) ?_
     intro q105 V105 hV105 hq105
     (try replace hs1:=hs1.le hV105);(try replace hs2:=hs2.le hV105);(try replace hps:=hps.le hV105);(try replace hu93:=hu93.le hV105);(try replace s97:=s97.le hV105);(try replace s101:=s101.le hV105)
     have s105 : SlI V105 _ [3, 0] := Sl.lit hq105 rfl (by decide)
     refine AtT.zq rfl rfl qF (qG _ _) ?_
     rintro _ rfl
     refine AtT.zq rfl rfl ok32 (zu (zK 4) [1, 2] _ _ _ (sv1 hs1) s97) ?_
     rintro _ rfl; rw [wC1]
     refine AtT.zq rfl rfl qF (qG _ _) ?_
     rintro _ rfl
     refine AtT.zq rfl rfl ok32 (zu (zK 4) [0, 1] _ _ _ (sv1 hs1) s101) ?_
     rintro _ rfl; rw [wC2]
     refine AtT.zq rfl rfl qF (qG _ _) ?_
     rintro _ rfl
     refine AtT.zq rfl rfl ok32 (zu (zK 4) [3, 0] _ _ _ (sv1 hs1) s105) ?_
     rintro _ rfl; rw [wC3]
     refine AtT.zf ?_
     refine AtT.zf ?_
     refine AtT.zf ?_
     refine AtT.done ?_
   rotate_right
   focus
    refine AtT.zw (zQ _ _) ?_
    intro q105 V105 hV105 hq105
    (try replace hs1:=hs1.le hV105);(try replace hs2:=hs2.le hV105);(try replace hps:=hps.le hV105);(try replace hu93:=hu93.le hV105);(try replace s97:=s97.le hV105);(try replace s101:=s101.le hV105)
    have s105 : SlI V105 _ [3, 0] := Sl.lit hq105 rfl (by decide)
    refine AtT.zw (zQ _ _) ?_
    intro q97 V97 hV97 hq97
    (try replace hs1:=hs1.le hV97);(try replace hs2:=hs2.le hV97);(try replace hps:=hps.le hV97);(try replace hu93:=hu93.le hV97);(try replace s101:=s101.le hV97);(try replace s105:=s105.le hV97)
    have s97 : SlI V97 _ [1, 2] := Sl.lit hq97 rfl (by decide)
    refine AtT.zq rfl rfl qF (qG _ _) ?_
    rintro _ rfl
    refine AtT.zq rfl rfl ok32 (zu (zK 4) [1, 2] _ _ _ (sv1 hs1) s97) ?_
    rintro _ rfl; rw [wC1]
    refine AtT.zq rfl rfl qF (qG _ _) ?_
    rintro _ rfl
    refine AtT.zq rfl rfl ok32 (zu (zK 4) [0, 1] _ _ _ (sv1 hs1) s101) ?_
    rintro _ rfl; rw [wC2]
    refine AtT.zq rfl rfl qF (qG _ _) ?_
    rintro _ rfl
    refine AtT.zq rfl rfl ok32 (zu (zK 4) [3, 0] _ _ _ (sv1 hs1) s105) ?_
    rintro _ rfl; rw [wC3]
    refine AtT.zf ?_
    refine AtT.zf ?_
    refine AtT.zf ?_
    refine AtT.done ?_
  rotate_right
  focus
   refine AtT.zw (zQ _ _) ?_
   intro q97 V97 hV97 hq97
   (try replace hs1:=hs1.le hV97);(try replace hs2:=hs2.le hV97);(try replace hps:=hps.le hV97);(try replace hu93:=hu93.le hV97);(try replace s101:=s101.le hV97);(try replace s105:=s105.le hV97)
   have s97 : SlI V97 _ [1, 2] := Sl.lit hq97 rfl (by decide)
   refine AtT.br (fun i hi => ?_)
   simp only [List.mem_cons, List.not_mem_nil, or_false] at hi
   rcases hi with rfl | rfl | rfl
   rotate_right
   focus
    refine AtT.zw (zQ _ _) ?_
    intro q105 V105 hV105 hq105
    (try replace hs1:=hs1.le hV105);(try replace hs2:=hs2.le hV105);(try replace hps:=hps.le hV105);(try replace hu93:=hu93.le hV105);(try replace s97:=s97.le hV105);(try replace s101:=s101.le hV105)
    have s105 : SlI V105 _ [3, 0] := Sl.lit hq105 rfl (by decide)
    refine AtT.two ?_ ?_
    focus
     refine AtT.zq rfl rfl qF (qG _ _) ?_
     rintro _ rfl
     refine AtT.two ?_ ?_
     focus
      refine AtT.zq rfl rfl ok32 (zu (zK 4) [1, 2] _ _ _ (sv1 hs1) s97) ?_
      rintro _ rfl; rw [wC1]
      refine AtT.zw (zQ _ _) ?_
      intro q101 V101 hV101 hq101
      (try replace hs1:=hs1.le hV101);(try replace hs2:=hs2.le hV101);(try replace hps:=hps.le hV101);(try replace hu93:=hu93.le hV101);(try replace s97:=s97.le hV101);(try replace s105:=s105.le hV101)
      have s101 : SlI V101 _ [0, 1] := Sl.lit hq101 rfl (by decide)
      refine AtT.zq rfl rfl qF (qG _ _) ?_
      rintro _ rfl
      refine AtT.zq rfl rfl ok32 (zu (zK 4) [0, 1] _ _ _ (sv1 hs1) s101) ?_
      rintro _ rfl; rw [wC2]
      refine AtT.zq rfl rfl qF (qG _ _) ?_
      rintro _ rfl
      refine AtT.zq rfl rfl ok32 (zu (zK 4) [3, 0] _ _ _ (sv1 hs1) s105) ?_
      rintro _ rfl; rw [wC3]
      refine AtT.zf ?_
      refine AtT.zf ?_
      refine AtT.zf ?_
      refine AtT.done ?_
     rotate_right
     focus
      refine AtT.zw (zQ _ _) ?_
      intro q101 V101 hV101 hq101
      (try replace hs1:=hs1.le hV101);(try replace hs2:=hs2.le hV101);(try replace hps:=hps.le hV101);(try replace hu93:=hu93.le hV101);(try replace s97:=s97.le hV101);(try replace s105:=s105.le hV101)
      have s101 : SlI V101 _ [0, 1] := Sl.lit hq101 rfl (by decide)
      refine AtT.zq rfl rfl ok32 (zu (zK 4) [1, 2] _ _ _ (sv1 hs1) s97) ?_
      rintro _ rfl; rw [wC1]
      refine AtT.zq rfl rfl qF (qG _ _) ?_
      rintro _ rfl
      refine AtT.zq rfl rfl ok32 (zu (zK 4) [0, 1] _ _ _ (sv1 hs1) s101) ?_
      rintro _ rfl; rw [wC2]
      refine AtT.zq rfl rfl qF (qG _ _) ?_
      rintro _ rfl
      refine AtT.zq rfl rfl ok32 (zu (zK 4) [3, 0] _ _ _ (sv1 hs1) s105) ?_
      rintro _ rfl; rw [wC3]
      refine AtT.zf ?_
      refine AtT.zf ?_
      refine AtT.zf ?_
      refine AtT.done ?_
    rotate_right
    focus
     refine AtT.zw (zQ _ _) ?_
     intro q101 V101 hV101 hq101
     (try replace hs1:=hs1.le hV101);(try replace hs2:=hs2.le hV101);(try replace hps:=hps.le hV101);(try replace hu93:=hu93.le hV101);(try replace s97:=s97.le hV101);(try replace s105:=s105.le hV101)
     have s101 : SlI V101 _ [0, 1] := Sl.lit hq101 rfl (by decide)
     refine AtT.zq rfl rfl qF (qG _ _) ?_
     rintro _ rfl
     refine AtT.zq rfl rfl ok32 (zu (zK 4) [1, 2] _ _ _ (sv1 hs1) s97) ?_
     rintro _ rfl; rw [wC1]
     refine AtT.zq rfl rfl qF (qG _ _) ?_
     rintro _ rfl
     refine AtT.zq rfl rfl ok32 (zu (zK 4) [0, 1] _ _ _ (sv1 hs1) s101) ?_
     rintro _ rfl; rw [wC2]
     refine AtT.zq rfl rfl qF (qG _ _) ?_
     rintro _ rfl
     refine AtT.zq rfl rfl ok32 (zu (zK 4) [3, 0] _ _ _ (sv1 hs1) s105) ?_
     rintro _ rfl; rw [wC3]
     refine AtT.zf ?_
     refine AtT.zf ?_
     refine AtT.zf ?_
     refine AtT.done ?_
   rotate_right
   focus
    refine AtT.zw (zQ _ _) ?_
    intro q101 V101 hV101 hq101
    (try replace hs1:=hs1.le hV101);(try replace hs2:=hs2.le hV101);(try replace hps:=hps.le hV101);(try replace hu93:=hu93.le hV101);(try replace s97:=s97.le hV101);(try replace s105:=s105.le hV101)
    have s101 : SlI V101 _ [0, 1] := Sl.lit hq101 rfl (by decide)
    refine AtT.two ?_ ?_
    focus
     refine AtT.zq rfl rfl qF (qG _ _) ?_
     rintro _ rfl
     refine AtT.two ?_ ?_
     focus
      refine AtT.zq rfl rfl ok32 (zu (zK 4) [1, 2] _ _ _ (sv1 hs1) s97) ?_
      rintro _ rfl; rw [wC1]
      refine AtT.two ?_ ?_
      focus
       refine AtT.zq rfl rfl qF (qG _ _) ?_
       rintro _ rfl
       refine AtT.two ?_ ?_
       focus
        refine AtT.zq rfl rfl ok32 (zu (zK 4) [0, 1] _ _ _ (sv1 hs1) s101) ?_
        rintro _ rfl; rw [wC2]
        refine AtT.zw (zQ _ _) ?_
        intro q105 V105 hV105 hq105
        (try replace hs1:=hs1.le hV105);(try replace hs2:=hs2.le hV105);(try replace hps:=hps.le hV105);(try replace hu93:=hu93.le hV105);(try replace s97:=s97.le hV105);(try replace s101:=s101.le hV105)
        have s105 : SlI V105 _ [3, 0] := Sl.lit hq105 rfl (by decide)
        refine AtT.zq rfl rfl qF (qG _ _) ?_
        rintro _ rfl
        refine AtT.zq rfl rfl ok32 (zu (zK 4) [3, 0] _ _ _ (sv1 hs1) s105) ?_
        rintro _ rfl; rw [wC3]
        refine AtT.zf ?_
        refine AtT.zf ?_
        refine AtT.zf ?_
        refine AtT.done ?_
       rotate_right
       focus
        refine AtT.zw (zQ _ _) ?_
        intro q105 V105 hV105 hq105
        (try replace hs1:=hs1.le hV105);(try replace hs2:=hs2.le hV105);(try replace hps:=hps.le hV105);(try replace hu93:=hu93.le hV105);(try replace s97:=s97.le hV105);(try replace s101:=s101.le hV105)
        have s105 : SlI V105 _ [3, 0] := Sl.lit hq105 rfl (by decide)
        refine AtT.zq rfl rfl ok32 (zu (zK 4) [0, 1] _ _ _ (sv1 hs1) s101) ?_
        rintro _ rfl; rw [wC2]
        refine AtT.zq rfl rfl qF (qG _ _) ?_
        rintro _ rfl
        refine AtT.zq rfl rfl ok32 (zu (zK 4) [3, 0] _ _ _ (sv1 hs1) s105) ?_
        rintro _ rfl; rw [wC3]
        refine AtT.zf ?_
        refine AtT.zf ?_
        refine AtT.zf ?_
        refine AtT.done ?_
      rotate_right
      focus
       refine AtT.zw (zQ _ _) ?_
       intro q105 V105 hV105 hq105
       (try replace hs1:=hs1.le hV105);(try replace hs2:=hs2.le hV105);(try replace hps:=hps.le hV105);(try replace hu93:=hu93.le hV105);(try replace s97:=s97.le hV105);(try replace s101:=s101.le hV105)
       have s105 : SlI V105 _ [3, 0] := Sl.lit hq105 rfl (by decide)
       refine AtT.zq rfl rfl qF (qG _ _) ?_
       rintro _ rfl
       refine AtT.zq rfl rfl ok32 (zu (zK 4) [0, 1] _ _ _ (sv1 hs1) s101) ?_
       rintro _ rfl; rw [wC2]
       refine AtT.zq rfl rfl qF (qG _ _) ?_
       rintro _ rfl
       refine AtT.zq rfl rfl ok32 (zu (zK 4) [3, 0] _ _ _ (sv1 hs1) s105) ?_
       rintro _ rfl; rw [wC3]
       refine AtT.zf ?_
       refine AtT.zf ?_
       refine AtT.zf ?_
       refine AtT.done ?_
     rotate_right
     focus
      refine AtT.zw (zQ _ _) ?_
      intro q105 V105 hV105 hq105
      (try replace hs1:=hs1.le hV105);(try replace hs2:=hs2.le hV105);(try replace hps:=hps.le hV105);(try replace hu93:=hu93.le hV105);(try replace s97:=s97.le hV105);(try replace s101:=s101.le hV105)
      have s105 : SlI V105 _ [3, 0] := Sl.lit hq105 rfl (by decide)
      refine AtT.zq rfl rfl ok32 (zu (zK 4) [1, 2] _ _ _ (sv1 hs1) s97) ?_
      rintro _ rfl; rw [wC1]
      refine AtT.zq rfl rfl qF (qG _ _) ?_
      rintro _ rfl
      refine AtT.zq rfl rfl ok32 (zu (zK 4) [0, 1] _ _ _ (sv1 hs1) s101) ?_
      rintro _ rfl; rw [wC2]
      refine AtT.zq rfl rfl qF (qG _ _) ?_
      rintro _ rfl
      refine AtT.zq rfl rfl ok32 (zu (zK 4) [3, 0] _ _ _ (sv1 hs1) s105) ?_
      rintro _ rfl; rw [wC3]
      refine AtT.zf ?_
      refine AtT.zf ?_
      refine AtT.zf ?_
      refine AtT.done ?_
    rotate_right
    focus
     refine AtT.zw (zQ _ _) ?_
     intro q105 V105 hV105 hq105
     (try replace hs1:=hs1.le hV105);(try replace hs2:=hs2.le hV105);(try replace hps:=hps.le hV105);(try replace hu93:=hu93.le hV105);(try replace s97:=s97.le hV105);(try replace s101:=s101.le hV105)
     have s105 : SlI V105 _ [3, 0] := Sl.lit hq105 rfl (by decide)
     refine AtT.zq rfl rfl qF (qG _ _) ?_
     rintro _ rfl
     refine AtT.zq rfl rfl ok32 (zu (zK 4) [1, 2] _ _ _ (sv1 hs1) s97) ?_
     rintro _ rfl; rw [wC1]
     refine AtT.zq rfl rfl qF (qG _ _) ?_
     rintro _ rfl
     refine AtT.zq rfl rfl ok32 (zu (zK 4) [0, 1] _ _ _ (sv1 hs1) s101) ?_
     rintro _ rfl; rw [wC2]
     refine AtT.zq rfl rfl qF (qG _ _) ?_
     rintro _ rfl
     refine AtT.zq rfl rfl ok32 (zu (zK 4) [3, 0] _ _ _ (sv1 hs1) s105) ?_
     rintro _ rfl; rw [wC3]
     refine AtT.zf ?_
     refine AtT.zf ?_
     refine AtT.zf ?_
     refine AtT.done ?_
   rotate_right
   focus
    refine AtT.zq rfl rfl qF (qG _ _) ?_
    rintro _ rfl
    refine AtT.br (fun i hi => ?_)
    simp only [List.mem_cons, List.not_mem_nil, or_false] at hi
    rcases hi with rfl | rfl | rfl
    rotate_right
    focus
     refine AtT.zw (zQ _ _) ?_
     intro q105 V105 hV105 hq105
     (try replace hs1:=hs1.le hV105);(try replace hs2:=hs2.le hV105);(try replace hps:=hps.le hV105);(try replace hu93:=hu93.le hV105);(try replace s97:=s97.le hV105);(try replace s101:=s101.le hV105)
     have s105 : SlI V105 _ [3, 0] := Sl.lit hq105 rfl (by decide)
     refine AtT.two ?_ ?_
     focus
      refine AtT.zq rfl rfl ok32 (zu (zK 4) [1, 2] _ _ _ (sv1 hs1) s97) ?_
      rintro _ rfl; rw [wC1]
      refine AtT.zw (zQ _ _) ?_
      intro q101 V101 hV101 hq101
      (try replace hs1:=hs1.le hV101);(try replace hs2:=hs2.le hV101);(try replace hps:=hps.le hV101);(try replace hu93:=hu93.le hV101);(try replace s97:=s97.le hV101);(try replace s105:=s105.le hV101)
      have s101 : SlI V101 _ [0, 1] := Sl.lit hq101 rfl (by decide)
      refine AtT.zq rfl rfl qF (qG _ _) ?_
      rintro _ rfl
      refine AtT.zq rfl rfl ok32 (zu (zK 4) [0, 1] _ _ _ (sv1 hs1) s101) ?_
      rintro _ rfl; rw [wC2]
      refine AtT.zq rfl rfl qF (qG _ _) ?_
      rintro _ rfl
      refine AtT.zq rfl rfl ok32 (zu (zK 4) [3, 0] _ _ _ (sv1 hs1) s105) ?_
      rintro _ rfl; rw [wC3]
      refine AtT.zf ?_
      refine AtT.zf ?_
      refine AtT.zf ?_
      refine AtT.done ?_
     rotate_right
     focus
      refine AtT.zw (zQ _ _) ?_
      intro q101 V101 hV101 hq101
      (try replace hs1:=hs1.le hV101);(try replace hs2:=hs2.le hV101);(try replace hps:=hps.le hV101);(try replace hu93:=hu93.le hV101);(try replace s97:=s97.le hV101);(try replace s105:=s105.le hV101)
      have s101 : SlI V101 _ [0, 1] := Sl.lit hq101 rfl (by decide)
      refine AtT.zq rfl rfl ok32 (zu (zK 4) [1, 2] _ _ _ (sv1 hs1) s97) ?_
      rintro _ rfl; rw [wC1]
      refine AtT.zq rfl rfl qF (qG _ _) ?_
      rintro _ rfl
      refine AtT.zq rfl rfl ok32 (zu (zK 4) [0, 1] _ _ _ (sv1 hs1) s101) ?_
      rintro _ rfl; rw [wC2]
      refine AtT.zq rfl rfl qF (qG _ _) ?_
      rintro _ rfl
      refine AtT.zq rfl rfl ok32 (zu (zK 4) [3, 0] _ _ _ (sv1 hs1) s105) ?_
      rintro _ rfl; rw [wC3]
      refine AtT.zf ?_
      refine AtT.zf ?_
      refine AtT.zf ?_
      refine AtT.done ?_
    rotate_right
    focus
     refine AtT.zw (zQ _ _) ?_
     intro q101 V101 hV101 hq101
     (try replace hs1:=hs1.le hV101);(try replace hs2:=hs2.le hV101);(try replace hps:=hps.le hV101);(try replace hu93:=hu93.le hV101);(try replace s97:=s97.le hV101);(try replace s105:=s105.le hV101)
     have s101 : SlI V101 _ [0, 1] := Sl.lit hq101 rfl (by decide)
     refine AtT.two ?_ ?_
     focus
      refine AtT.zq rfl rfl ok32 (zu (zK 4) [1, 2] _ _ _ (sv1 hs1) s97) ?_
      rintro _ rfl; rw [wC1]
      refine AtT.two ?_ ?_
      focus
       refine AtT.zq rfl rfl qF (qG _ _) ?_
       rintro _ rfl
       refine AtT.two ?_ ?_
       focus
        refine AtT.zq rfl rfl ok32 (zu (zK 4) [0, 1] _ _ _ (sv1 hs1) s101) ?_
        rintro _ rfl; rw [wC2]
        refine AtT.zw (zQ _ _) ?_
        intro q105 V105 hV105 hq105
        (try replace hs1:=hs1.le hV105);(try replace hs2:=hs2.le hV105);(try replace hps:=hps.le hV105);(try replace hu93:=hu93.le hV105);(try replace s97:=s97.le hV105);(try replace s101:=s101.le hV105)
        have s105 : SlI V105 _ [3, 0] := Sl.lit hq105 rfl (by decide)
        refine AtT.zq rfl rfl qF (qG _ _) ?_
        rintro _ rfl
        refine AtT.zq rfl rfl ok32 (zu (zK 4) [3, 0] _ _ _ (sv1 hs1) s105) ?_
        rintro _ rfl; rw [wC3]
        refine AtT.zf ?_
        refine AtT.zf ?_
        refine AtT.zf ?_
        refine AtT.done ?_
       rotate_right
       focus
        refine AtT.zw (zQ _ _) ?_
        intro q105 V105 hV105 hq105
        (try replace hs1:=hs1.le hV105);(try replace hs2:=hs2.le hV105);(try replace hps:=hps.le hV105);(try replace hu93:=hu93.le hV105);(try replace s97:=s97.le hV105);(try replace s101:=s101.le hV105)
        have s105 : SlI V105 _ [3, 0] := Sl.lit hq105 rfl (by decide)
        refine AtT.zq rfl rfl ok32 (zu (zK 4) [0, 1] _ _ _ (sv1 hs1) s101) ?_
        rintro _ rfl; rw [wC2]
        refine AtT.zq rfl rfl qF (qG _ _) ?_
        rintro _ rfl
        refine AtT.zq rfl rfl ok32 (zu (zK 4) [3, 0] _ _ _ (sv1 hs1) s105) ?_
        rintro _ rfl; rw [wC3]
        refine AtT.zf ?_
        refine AtT.zf ?_
        refine AtT.zf ?_
        refine AtT.done ?_
      rotate_right
      focus
       refine AtT.zw (zQ _ _) ?_
       intro q105 V105 hV105 hq105
       (try replace hs1:=hs1.le hV105);(try replace hs2:=hs2.le hV105);(try replace hps:=hps.le hV105);(try replace hu93:=hu93.le hV105);(try replace s97:=s97.le hV105);(try replace s101:=s101.le hV105)
       have s105 : SlI V105 _ [3, 0] := Sl.lit hq105 rfl (by decide)
       refine AtT.zq rfl rfl qF (qG _ _) ?_
       rintro _ rfl
       refine AtT.zq rfl rfl ok32 (zu (zK 4) [0, 1] _ _ _ (sv1 hs1) s101) ?_
       rintro _ rfl; rw [wC2]
       refine AtT.zq rfl rfl qF (qG _ _) ?_
       rintro _ rfl
       refine AtT.zq rfl rfl ok32 (zu (zK 4) [3, 0] _ _ _ (sv1 hs1) s105) ?_
       rintro _ rfl; rw [wC3]
       refine AtT.zf ?_
       refine AtT.zf ?_
       refine AtT.zf ?_
       refine AtT.done ?_
     rotate_right
     focus
      refine AtT.zw (zQ _ _) ?_
      intro q105 V105 hV105 hq105
      (try replace hs1:=hs1.le hV105);(try replace hs2:=hs2.le hV105);(try replace hps:=hps.le hV105);(try replace hu93:=hu93.le hV105);(try replace s97:=s97.le hV105);(try replace s101:=s101.le hV105)
      have s105 : SlI V105 _ [3, 0] := Sl.lit hq105 rfl (by decide)
      refine AtT.zq rfl rfl ok32 (zu (zK 4) [1, 2] _ _ _ (sv1 hs1) s97) ?_
      rintro _ rfl; rw [wC1]
      refine AtT.zq rfl rfl qF (qG _ _) ?_
      rintro _ rfl
      refine AtT.zq rfl rfl ok32 (zu (zK 4) [0, 1] _ _ _ (sv1 hs1) s101) ?_
      rintro _ rfl; rw [wC2]
      refine AtT.zq rfl rfl qF (qG _ _) ?_
      rintro _ rfl
      refine AtT.zq rfl rfl ok32 (zu (zK 4) [3, 0] _ _ _ (sv1 hs1) s105) ?_
      rintro _ rfl; rw [wC3]
      refine AtT.zf ?_
      refine AtT.zf ?_
      refine AtT.zf ?_
      refine AtT.done ?_
    rotate_right
    focus
     refine AtT.zq rfl rfl ok32 (zu (zK 4) [1, 2] _ _ _ (sv1 hs1) s97) ?_
     rintro _ rfl; rw [wC1]
     refine AtT.two ?_ ?_
     focus
      refine AtT.zw (zQ _ _) ?_
      intro q101 V101 hV101 hq101
      (try replace hs1:=hs1.le hV101);(try replace hs2:=hs2.le hV101);(try replace hps:=hps.le hV101);(try replace hu93:=hu93.le hV101);(try replace s97:=s97.le hV101);(try replace s105:=s105.le hV101)
      have s101 : SlI V101 _ [0, 1] := Sl.lit hq101 rfl (by decide)
      refine AtT.two ?_ ?_
      focus
       refine AtT.zq rfl rfl qF (qG _ _) ?_
       rintro _ rfl
       refine AtT.two ?_ ?_
       focus
        refine AtT.zq rfl rfl ok32 (zu (zK 4) [0, 1] _ _ _ (sv1 hs1) s101) ?_
        rintro _ rfl; rw [wC2]
        refine AtT.zw (zQ _ _) ?_
        intro q105 V105 hV105 hq105
        (try replace hs1:=hs1.le hV105);(try replace hs2:=hs2.le hV105);(try replace hps:=hps.le hV105);(try replace hu93:=hu93.le hV105);(try replace s97:=s97.le hV105);(try replace s101:=s101.le hV105)
        have s105 : SlI V105 _ [3, 0] := Sl.lit hq105 rfl (by decide)
        refine AtT.zq rfl rfl qF (qG _ _) ?_
        rintro _ rfl
        refine AtT.zq rfl rfl ok32 (zu (zK 4) [3, 0] _ _ _ (sv1 hs1) s105) ?_
        rintro _ rfl; rw [wC3]
        refine AtT.zf ?_
        refine AtT.zf ?_
        refine AtT.zf ?_
        refine AtT.done ?_
       rotate_right
       focus
        refine AtT.zw (zQ _ _) ?_
        intro q105 V105 hV105 hq105
        (try replace hs1:=hs1.le hV105);(try replace hs2:=hs2.le hV105);(try replace hps:=hps.le hV105);(try replace hu93:=hu93.le hV105);(try replace s97:=s97.le hV105);(try replace s101:=s101.le hV105)
        have s105 : SlI V105 _ [3, 0] := Sl.lit hq105 rfl (by decide)
        refine AtT.zq rfl rfl ok32 (zu (zK 4) [0, 1] _ _ _ (sv1 hs1) s101) ?_
        rintro _ rfl; rw [wC2]
        refine AtT.zq rfl rfl qF (qG _ _) ?_
        rintro _ rfl
        refine AtT.zq rfl rfl ok32 (zu (zK 4) [3, 0] _ _ _ (sv1 hs1) s105) ?_
        rintro _ rfl; rw [wC3]
        refine AtT.zf ?_
        refine AtT.zf ?_
        refine AtT.zf ?_
        refine AtT.done ?_
      rotate_right
      focus
       refine AtT.zw (zQ _ _) ?_
       intro q105 V105 hV105 hq105
       (try replace hs1:=hs1.le hV105);(try replace hs2:=hs2.le hV105);(try replace hps:=hps.le hV105);(try replace hu93:=hu93.le hV105);(try replace s97:=s97.le hV105);(try replace s101:=s101.le hV105)
       have s105 : SlI V105 _ [3, 0] := Sl.lit hq105 rfl (by decide)
       refine AtT.zq rfl rfl qF (qG _ _) ?_
       rintro _ rfl
       refine AtT.zq rfl rfl ok32 (zu (zK 4) [0, 1] _ _ _ (sv1 hs1) s101) ?_
       rintro _ rfl; rw [wC2]
       refine AtT.zq rfl rfl qF (qG _ _) ?_
       rintro _ rfl
       refine AtT.zq rfl rfl ok32 (zu (zK 4) [3, 0] _ _ _ (sv1 hs1) s105) ?_
       rintro _ rfl; rw [wC3]
       refine AtT.zf ?_
       refine AtT.zf ?_
       refine AtT.zf ?_
       refine AtT.done ?_
     rotate_right
     focus
      refine AtT.zw (zQ _ _) ?_
      intro q105 V105 hV105 hq105
      (try replace hs1:=hs1.le hV105);(try replace hs2:=hs2.le hV105);(try replace hps:=hps.le hV105);(try replace hu93:=hu93.le hV105);(try replace s97:=s97.le hV105);(try replace s101:=s101.le hV105)
      have s105 : SlI V105 _ [3, 0] := Sl.lit hq105 rfl (by decide)
      refine AtT.zw (zQ _ _) ?_
      intro q101 V101 hV101 hq101
      (try replace hs1:=hs1.le hV101);(try replace hs2:=hs2.le hV101);(try replace hps:=hps.le hV101);(try replace hu93:=hu93.le hV101);(try replace s97:=s97.le hV101);(try replace s105:=s105.le hV101)
      have s101 : SlI V101 _ [0, 1] := Sl.lit hq101 rfl (by decide)
      refine AtT.zq rfl rfl qF (qG _ _) ?_
      rintro _ rfl
      refine AtT.zq rfl rfl ok32 (zu (zK 4) [0, 1] _ _ _ (sv1 hs1) s101) ?_
      rintro _ rfl; rw [wC2]
      refine AtT.zq rfl rfl qF (qG _ _) ?_
      rintro _ rfl
      refine AtT.zq rfl rfl ok32 (zu (zK 4) [3, 0] _ _ _ (sv1 hs1) s105) ?_
      rintro _ rfl; rw [wC3]
      refine AtT.zf ?_
      refine AtT.zf ?_
      refine AtT.zf ?_
      refine AtT.done ?_
  all_goals (refine At.nrm ?_)
  all_goals exact At.qC () ⟨hs1, hs2, hps, hu93⟩ ⟨rfl, rfl, rfl, rfl, rfl, rfl, rfl, rfl, rfl, rfl, rfl, rfl, rfl, rfl, rfl, rfl, rfl, rfl, rfl, rfl, trivial⟩ Pt.zO
 rintro - Vc3 ks' O' ⟨hs1, hs2, hps, hu93⟩ hk hO hl3
 subst hk hO
 refine At.nrm ?_
 refine At.zl (.n false 0 (.n false 1 (.q 2 (.q 3 (.q 4 (.q 5 (.q 6 .done))))))) ?_
 refine AtT.qg rfl rfl ok52 (four_f 3 _) ?_
 rintro _ V109 hV109 hv109
 refine AtT.qg rfl rfl ok30 (partsP_f (zK 3) _ _ hv109) ?_
 rintro _ V110 hV110 ⟨u110, ll, rfl, hu110, hr110⟩; rw [w30]
 refine AtT.zh ?_
 refine AtT.zL ?_
 refine AtT.zL ?_
 refine AtT.zf ?_
 refine AtT.zf ?_
 refine AtT.done ?_
 refine At.nrm ?_
 obtain rfl : ll = [[0, 2], [1, 3]] := by
  rcases hr110 with ⟨h, _⟩ | ⟨_, h⟩
  ·exact absurd w30 h
  ·exact prtK_uniq h wP
 replace hs1 := hs1.le hV109
 replace hs2 := hs2.le hV109
 replace hps := hps.le hV109
 replace hu93 := hu93.le hV109
 replace hs1 := hs1.le hV110
 replace hs2 := hs2.le hV110
 replace hps := hps.le hV110
 replace hu93 := hu93.le hV110
 clear hV109 hV110 hv109
 refine At.zl (.n false 0 (.n false 1 (.q 2 (.q 3 (.q 4 (.n false 5 (.n true 6 (.q 7 .done)))))))) ?_
 refine AtT.qg rfl rfl ok52 (four_f 36 _) ?_
 rintro _ V114 hV114 hv114
 refine AtT.zq rfl rfl ok36 (largest_f (zK 36) _ _ hv114) ?_
 rintro _ rfl; rw [wL]
 refine AtT.zh ?_
 refine AtT.zL ?_
 refine AtT.zL ?_
 refine AtT.qx z26 ?_
 intro b24
 refine AtT.zW zS ?_
 refine AtT.zf ?_
 refine AtT.done ?_
 refine At.nrm ?_
 replace hs1 := hs1.le hV114
 replace hs2 := hs2.le hV114
 replace hps := hps.le hV114
 replace hu93 := hu93.le hV114
 replace hu110 := hu110.le hV114
 clear hV114 hv114
 refine At.zl (.q 0 (.n false 1 (.q 2 (.q 3 (.q 4 (.n false 5 (.n true 6 (.q 7 .done)))))))) ?_
 first | refine AtT.zD zM ?_ | refine AtT.zJ zM ?_ | refine AtT.zC zM ?_
 refine AtT.qg rfl rfl ok38 (turn_f (zK 4) 1 _ _ (sv1 hs1)) ?_
 rintro _ V120 hV120 ⟨u120, rfl, hu120⟩; rw [wT1]; obtain ⟨a120, c120, rfl, ht120⟩ := hu120
 refine AtT.zh ?_
 refine AtT.zL ?_
 refine AtT.zL ?_
 refine AtT.qx z24 ?_
 intro b26
 refine AtT.zW zM ?_
 refine AtT.zf ?_
 refine AtT.done ?_
 refine At.nrm ?_
 replace hs1 := hs1.le hV120
 replace hs2 := hs2.le hV120
 replace hps := hps.le hV120
 replace hu93 := hu93.le hV120
 replace hu110 := hu110.le hV120
 clear hV120
 refine At.zl (.q 0 (.n false 1 (.q 2 (.q 3 (.q 4 (.n false 5 (.n true 6 (.q 7 .done)))))))) ?_
 first | refine AtT.zD zM ?_ | refine AtT.zJ zM ?_ | refine AtT.zC zM ?_
 refine AtT.qg rfl rfl ok38 (turn_f (zK 4) 4 _ _ (sv1 hs1)) ?_
 rintro _ V125 hV125 ⟨u125, rfl, hu125⟩; rw [wT4]; obtain ⟨a125, c125, rfl, ht125⟩ := hu125
 refine AtT.zh ?_
 refine AtT.zL ?_
 refine AtT.zL ?_
 refine AtT.qx z24 ?_
 intro b28
 refine AtT.zW zM ?_
 refine AtT.zf ?_
 refine AtT.done ?_
 refine At.nrm ?_
 replace hs1 := hs1.le hV125
 replace hs2 := hs2.le hV125
 replace hps := hps.le hV125
 replace hu93 := hu93.le hV125
 replace hu110 := hu110.le hV125
 replace ht120 := ht120.le hV125
 clear hV125
 refine At.zl (.q 0 (.q 1 (.n false 2 (.q 3 (.q 4 (.q 5 (.q 6 (.q 7 .done)))))))) ?_
 first | refine AtT.zD zM ?_ | refine AtT.zJ zM ?_ | refine AtT.zC zM ?_
 first | refine AtT.zD zM ?_ | refine AtT.zJ zM ?_ | refine AtT.zC zM ?_
 refine AtT.zq rfl rfl ok40 (same_f (zK 4) qL _ _ _ (sv1 hs1) (sv2 hs2)) ?_
 rintro _ rfl; rw [wS1]
 refine AtT.zh ?_
 refine AtT.zL ?_
 refine AtT.zL ?_
 refine AtT.zf ?_
 refine AtT.zf ?_
 refine AtT.done ?_
 refine At.nrm ?_
 refine At.draw (.q 0 (.n false 1 (.n false 2 (.q 3 (.q 4 (.q 5 (.q 6 (.q 7 .done)))))))) ffm (by kernel_rfl) ?_
 first | refine AtT.zD zM ?_ | refine AtT.zJ zM ?_ | refine AtT.zC zM ?_
 refine AtT.qg rfl rfl ok52 (four_f 3 _) ?_
 rintro _ V136 hV136 hv136; (try replace hs1:=hs1.le hV136)
 refine AtT.zq rfl rfl ok40 (same_f (zK 4) (zK 3) _ _ _ (sv1 hs1) hv136) ?_
 rintro _ rfl; rw [wS2]
 refine AtT.zh ?_
 refine AtT.zL ?_
 refine AtT.zL ?_
 refine AtT.zf ?_
 refine AtT.zf ?_
 refine AtT.done ?_
 refine At.nrm ?_
 replace hs2 := hs2.le hV136
 replace hps := hps.le hV136
 replace hu93 := hu93.le hV136
 replace hu110 := hu110.le hV136
 replace ht120 := ht120.le hV136
 refine At.zl (.q 0 (.q 1 (.q 2 (.q 3 (.q 4 (.q 5 (.q 6 (.q 7 (.q 8 (.q 9 (.q 10 (.q 11 (.q 12 (.q 13 (.q 14 (.q 15 (.q 16 (.q 17 (.q 18 (.q 19 (.q 20 (.q 21 (.q 22 (.q 23 (.q 24 (.q 25 (.q 26 (.q 27 (.q 28 (.q 29 (.q 30 (.q 31 (.q 32 (.q 33 (.q 34 (.q 35 (.q 36 (.q 37 (.q 38 (.q 39 (.q 40 (.q 41 (.q 42 (.q 43 (.q 44 (.q 45 (.q 46 (.q 47 (.q 48 (.q 49 (.q 50 (.q 51 (.q 52 (.q 53 (.q 54 (.q 55 (.q 56 (.q 57 (.q 58 (.q 59 (.q 60 (.q 61 (.q 62 (.q 63 (.q 64 (.q 65 (.q 66 (.q 67 (.q 68 (.q 69 (.q 70 (.q 71 (.q 72 (.q 73 .done)))))))))))))))))))))))))))))))))))))))))))))))))))))))))))))))))))))))))) ?_
 refine AtT.zh ?_
 refine AtT.qH ?_
 refine AtT.zh ?_
 all_goals (first | refine AtT.kL 142 ?_ | refine AtT.zB (d := 142) rfl (fun hg142 => ?_) (fun hg142 => ?_) | refine AtT.zA (d := 142) rfl (fun hg142 => ?_) (fun hg142 => ?_))
 all_goals first|refine AtT.zg ?_|refine AtT.ze ?_|(refine AtT.zh ?_)
 all_goals first|refine AtT.zg ?_|refine AtT.ze ?_|(refine AtT.qH ?_)
 all_goals (refine AtT.zz ?_)
 all_goals (refine AtT.zh ?_)
 all_goals (first | refine AtT.kL 146 ?_ | refine AtT.zB (d := 146) rfl (fun hg146 => ?_) (fun hg146 => ?_) | refine AtT.zA (d := 146) rfl (fun hg146 => ?_) (fun hg146 => ?_))
 all_goals first|refine AtT.zg ?_|refine AtT.ze ?_|(refine AtT.zh ?_)
 all_goals first|refine AtT.zg ?_|refine AtT.ze ?_|(refine AtT.qH ?_)
 all_goals (refine AtT.zz ?_)
 all_goals (refine AtT.zh ?_)
 all_goals (first | refine AtT.kL 150 ?_ | refine AtT.zB (d := 150) rfl (fun hg150 => ?_) (fun hg150 => ?_) | refine AtT.zA (d := 150) rfl (fun hg150 => ?_) (fun hg150 => ?_))
 all_goals first|refine AtT.zg ?_|refine AtT.ze ?_|(refine AtT.zh ?_)
 all_goals first|refine AtT.zg ?_|refine AtT.ze ?_|(refine AtT.qH ?_)
 all_goals (refine AtT.zz ?_)
 all_goals (refine AtT.zh ?_)
 all_goals (first | refine AtT.kL 154 ?_ | refine AtT.zB (d := 154) rfl (fun hg154 => ?_) (fun hg154 => ?_) | refine AtT.zA (d := 154) rfl (fun hg154 => ?_) (fun hg154 => ?_))
 all_goals first|refine AtT.zg ?_|refine AtT.ze ?_|(refine AtT.zh ?_)
 all_goals first|refine AtT.zg ?_|refine AtT.ze ?_|(refine AtT.qH ?_)
 all_goals (refine AtT.zz ?_)
 all_goals (refine AtT.zh ?_)
 all_goals (first | refine AtT.kL 158 ?_ | refine AtT.zB (d := 158) rfl (fun hg158 => ?_) (fun hg158 => ?_) | refine AtT.zA (d := 158) rfl (fun hg158 => ?_) (fun hg158 => ?_))
 all_goals first|refine AtT.zg ?_|refine AtT.ze ?_|(refine AtT.zh ?_)
 all_goals first|refine AtT.zg ?_|refine AtT.ze ?_|(refine AtT.qH ?_)
 all_goals (refine AtT.zz ?_)
 all_goals (refine AtT.zh ?_)
 all_goals (first | refine AtT.kL 162 ?_ | refine AtT.zB (d := 162) rfl (fun hg162 => ?_) (fun hg162 => ?_) | refine AtT.zA (d := 162) rfl (fun hg162 => ?_) (fun hg162 => ?_))
 all_goals first|refine AtT.zg ?_|refine AtT.ze ?_|(refine AtT.zh ?_)
 all_goals first|refine AtT.zg ?_|refine AtT.ze ?_|(refine AtT.qH ?_)
 all_goals (refine AtT.zz ?_)
 all_goals (refine AtT.zh ?_)
 all_goals (first | refine AtT.kL 166 ?_ | refine AtT.zB (d := 166) rfl (fun hg166 => ?_) (fun hg166 => ?_) | refine AtT.zA (d := 166) rfl (fun hg166 => ?_) (fun hg166 => ?_))
 all_goals first|refine AtT.zg ?_|refine AtT.ze ?_|(refine AtT.zh ?_)
 all_goals first|refine AtT.zg ?_|refine AtT.ze ?_|(refine AtT.qH ?_)
 all_goals (refine AtT.zz ?_)
 all_goals (refine AtT.zh ?_)
 all_goals (first | refine AtT.kL 170 ?_ | refine AtT.zB (d := 170) rfl (fun hg170 => ?_) (fun hg170 => ?_) | refine AtT.zA (d := 170) rfl (fun hg170 => ?_) (fun hg170 => ?_))
 all_goals first|refine AtT.zg ?_|refine AtT.ze ?_|(refine AtT.zh ?_)
 all_goals first|refine AtT.zg ?_|refine AtT.ze ?_|(refine AtT.qH ?_)
 all_goals (refine AtT.zz ?_)
 all_goals (refine AtT.zh ?_)
 all_goals (first | refine AtT.kL 174 ?_ | refine AtT.zB (d := 174) rfl (fun hg174 => ?_) (fun hg174 => ?_) | refine AtT.zA (d := 174) rfl (fun hg174 => ?_) (fun hg174 => ?_))
 all_goals first|refine AtT.zg ?_|refine AtT.ze ?_|(refine AtT.zh ?_)
 all_goals first|refine AtT.zg ?_|refine AtT.ze ?_|(refine AtT.qH ?_)
 all_goals (refine AtT.zz ?_)
 all_goals (refine AtT.zh ?_)
 all_goals (first | refine AtT.kL 178 ?_ | refine AtT.zB (d := 178) rfl (fun hg178 => ?_) (fun hg178 => ?_) | refine AtT.zA (d := 178) rfl (fun hg178 => ?_) (fun hg178 => ?_))
 all_goals first|refine AtT.zg ?_|refine AtT.ze ?_|(refine AtT.zh ?_)
 all_goals first|refine AtT.zg ?_|refine AtT.ze ?_|(refine AtT.qH ?_)
 all_goals (refine AtT.zz ?_)
 all_goals (refine AtT.zh ?_)
 all_goals (first | refine AtT.kL 182 ?_ | refine AtT.zB (d := 182) rfl (fun hg182 => ?_) (fun hg182 => ?_) | refine AtT.zA (d := 182) rfl (fun hg182 => ?_) (fun hg182 => ?_))
 all_goals first|refine AtT.zg ?_|refine AtT.ze ?_|(refine AtT.zh ?_)
 all_goals first|refine AtT.zg ?_|refine AtT.ze ?_|(refine AtT.qH ?_)
 all_goals (refine AtT.zz ?_)
 all_goals (refine AtT.zh ?_)
 all_goals (first | refine AtT.kL 186 ?_ | refine AtT.zB (d := 186) rfl (fun hg186 => ?_) (fun hg186 => ?_) | refine AtT.zA (d := 186) rfl (fun hg186 => ?_) (fun hg186 => ?_))
 all_goals first|refine AtT.zg ?_|refine AtT.ze ?_|(refine AtT.zh ?_)
 all_goals first|refine AtT.zg ?_|refine AtT.ze ?_|(refine AtT.qH ?_)
 all_goals (refine AtT.zz ?_)
 all_goals (refine AtT.zh ?_)
 all_goals (first | refine AtT.kL 190 ?_ | refine AtT.zB (d := 190) rfl (fun hg190 => ?_) (fun hg190 => ?_) | refine AtT.zA (d := 190) rfl (fun hg190 => ?_) (fun hg190 => ?_))
 all_goals first|refine AtT.zg ?_|refine AtT.ze ?_|(refine AtT.zh ?_)
 all_goals first|refine AtT.zg ?_|refine AtT.ze ?_|(refine AtT.qH ?_)
 all_goals (refine AtT.zz ?_)
 all_goals (refine AtT.zh ?_)
 all_goals (first | refine AtT.kL 194 ?_ | refine AtT.zB (d := 194) rfl (fun hg194 => ?_) (fun hg194 => ?_) | refine AtT.zA (d := 194) rfl (fun hg194 => ?_) (fun hg194 => ?_))
 all_goals first|refine AtT.zg ?_|refine AtT.ze ?_|(refine AtT.zh ?_)
 all_goals first|refine AtT.zg ?_|refine AtT.ze ?_|(refine AtT.qH ?_)
 all_goals (refine AtT.zz ?_)
 all_goals (refine AtT.zh ?_)
 all_goals (first | refine AtT.kL 198 ?_ | refine AtT.zB (d := 198) rfl (fun hg198 => ?_) (fun hg198 => ?_) | refine AtT.zA (d := 198) rfl (fun hg198 => ?_) (fun hg198 => ?_))
 all_goals first|refine AtT.zg ?_|refine AtT.ze ?_|(refine AtT.zh ?_)
 all_goals first|refine AtT.zg ?_|refine AtT.ze ?_|(refine AtT.qH ?_)
 all_goals (refine AtT.zz ?_)
 all_goals (refine AtT.zh ?_)
 all_goals (first | refine AtT.kL 202 ?_ | refine AtT.zB (d := 202) rfl (fun hg202 => ?_) (fun hg202 => ?_) | refine AtT.zA (d := 202) rfl (fun hg202 => ?_) (fun hg202 => ?_))
 all_goals first|refine AtT.zg ?_|refine AtT.ze ?_|(refine AtT.zh ?_)
 all_goals first|refine AtT.zg ?_|refine AtT.ze ?_|(refine AtT.qH ?_)
 all_goals (refine AtT.zz ?_)
 all_goals (refine AtT.zh ?_)
 all_goals (first | refine AtT.kL 206 ?_ | refine AtT.zB (d := 206) rfl (fun hg206 => ?_) (fun hg206 => ?_) | refine AtT.zA (d := 206) rfl (fun hg206 => ?_) (fun hg206 => ?_))
 all_goals first|refine AtT.zg ?_|refine AtT.ze ?_|(refine AtT.zh ?_)
 all_goals first|refine AtT.zg ?_|refine AtT.ze ?_|(refine AtT.qH ?_)
 all_goals (refine AtT.zz ?_)
 all_goals (refine AtT.zh ?_)
 all_goals (first | refine AtT.kL 210 ?_ | refine AtT.zB (d := 210) rfl (fun hg210 => ?_) (fun hg210 => ?_) | refine AtT.zA (d := 210) rfl (fun hg210 => ?_) (fun hg210 => ?_))
 all_goals first|refine AtT.zg ?_|refine AtT.ze ?_|(refine AtT.zh ?_)
 all_goals first|refine AtT.zg ?_|refine AtT.ze ?_|(refine AtT.qH ?_)
 all_goals (refine AtT.zz ?_)
 all_goals refine AtT.done ?_
 all_goals (refine At.nrm ?_)
 refine At.qW rfl rfl ?_
 refine At.nrm ?_
 refine At.zl (.q 0 (.q 1 (.n false 2 (.q 3 (.q 4 (.q 5 (.q 6 (.q 7 .done)))))))) ?_
 first | refine AtT.zD zM ?_ | refine AtT.zJ zM ?_ | refine AtT.zC zM ?_
 refine AtT.zh ?_
 refine AtT.zq rfl rfl ok18 (rcheckPatches_f (zK 4) ps _ _ _ (sv1 hs1) hps) ?_
 rintro _ rfl; rw [hcp]
 refine AtT.zh ?_
 refine AtT.zL ?_
 refine AtT.zL ?_
 refine AtT.zf ?_
 refine AtT.zf ?_
 refine AtT.done ?_
 refine At.nrm ?_
 refine At.drawF [(0, 128, 1684996666696914987166688442938726917102321526408785780068975640576), (1, 1684996666696914987166688442938726917102321526408785780068975640576, 3369993333393829974333376885877453834204643052817571560137951281152), (2, 3369993333393829974333376885877453834204643052817571560137951281152, 6739986666787659948666753771754907668409286105635143120275902562304), (4, 6739986666787659948666753771754907668409286105635143120275902564352, 13479973333575319897333507543509815336818572211270286240551805124608), (12, 20219960000362979846000261315264723005227858316905429360827707686912, 26959946667150639794667015087019630673637144422540572481103610249216), (20, 33699933333938299743333768858774538342046430528175715601379512811520, 53919893334301279589334030174039261347274288845081144962207220498432), (36, 53919893334301279589334030174039261347274288845081144962207220498432, 107839786668602559178668060348078522694548577690162289924414440996864), (64, 107839786668602559178668060348078522694548577690162289924414441005056, 215679573337205118357336120696157045389097155380324579848828881993728), (192, 323519360005807677536004181044235568083645733070486869773243322990592, 431359146674410236714672241392314090778194310760649159697657763987456), (320, 539198933343012795893340301740392613472742888450811449622072204984320, 862718293348820473429344482784628181556388621521298319395315527974912), (576, 862718293348820473429344482784628181556388621521298319395315527974912, 1725436586697640946858688965569256363112777243042596638790631055949824), (1024, 1725436586697640946858688965569256363112777243042596638790631055982592, 3450873173395281893717377931138512726225554486085193277581262111899648), (3072, 5176309760092922840576066896707769089338331729127789916371893167849472, 6901746346790563787434755862277025452451108972170386555162524223799296), (5120, 8627182933488204734293444827846281815563886215212983193953155279749120, 13803492693581127574869511724554050904902217944340773110325048447598592), (9216, 15528929280278768521728200690123307268014995187383369749115679503548416, 27606985387162255149739023449108101809804435888681546220650096895197184), (17408, 27606985387162255149739023449108101809804435888681546220650096895197184, 55213970774324510299478046898216203619608871777363092441300193790394368), (32768, 55213970774324510299478046898216203619608871777363092441300228150132736, 110427941548649020598956093796432407239217743554726184882600387580788736), (98304, 165641912322973530898434140694648610858826615332089277323900581371183104, 220855883097298041197912187592864814478435487109452369765200775161577472), (163840, 276069853871622551497390234491081018098044358886815462206500968951971840, 441711766194596082395824375185729628956870974218904739530401550323154944), (294912, 441711766194596082395824375185729628956870974218904739530401550323154944, 883423532389192164791648750371459257913741948437809479060803100646309888), (524288, 883423532389192164791648750371459257913741948437809479060803117826179072, 1766847064778384329583297500742918515827483896875618958121606201292619776), (1572864, 2650270597167576494374946251114377773741225845313428437182409301938929664, 3533694129556768659166595001485837031654967793751237916243212402585239552), (2621440, 4417117661945960823958243751857296289568709742189047395304015503231549440, 7067388259113537318333190002971674063309935587502475832486424805170479104), (4718592, 7067388259113537318333190002971674063309935587502475832486424805170479104, 14134776518227074636666380005943348126619871175004951664972849610340958208), (8388608, 14134776518227074636666380005943348126619871175004951664972849610341089280, 28269553036454149273332760011886696253239742350009903329945699220681916416), (8388608, 14134776518227074636666380005943348126619871175004951664972849610340958208, 56539106072908298546665520023773392506479484700019806659891398441363832832), (41943040, 70673882591135373183331900029716740633099355875024758324864248051704791040, 113078212145816597093331040047546785012958969400039613319782796882727665664), (92274688, 155482541700497821003330180065376829392818582925054468314701345713750540288, 226156424291633194186662080095093570025917938800079226639565593765455331328), (142606336, 240291200809860268823328460101036918152537809975084178304538443375796289536, 452312848583266388373324160190187140051835877600158453279131187530910662656), (402653184, 452312848583266388373324160190187140051835877600158453279131187530910662656, 904625697166532776746648320380374280103671755200316906558262375061821325312), (536870912, 904625697166532776746648320380374280103671755200316906558262375061825519616, 1809251394333065553493296640760748560207343510400633813116524750123642650624), (536870912, 904625697166532776746648320380374280103671755200316906558262375061821325312, 3618502788666131106986593281521497120414687020801267626233049500247285301248), (2684354560, 4523128485832663883733241601901871400518358776001584532791311875309106626560, 7237005577332262213973186563042994240829374041602535252466099000494570602496), (536870912, 904625697166532776746648320380374280103671755200316906558262375061821325312, 14474011154664524427946373126085988481658748083205070504932198000989141204992), (13421772800, 15378636851831057204693021446466362761762419838405387411490460376050962530304, 28948022309329048855892746252171976963317496166410141009864396001978282409984), (22011707392, 37089653583827843846612581135595345484250541963212993168888757377534674337792, 57896044618658097711785492504343953926634992332820282019728792003956564819968), (52076478464, 58800670315824630488532140824724328206738664088020598926287054379018386145280, 115792089237316195423570985008687907853269984665640564039457584007913129639936), (70330089472, 118505966328815793753810929969829030693580999931241514759132371133098593615872, 231584178474632390847141970017375815706539969331281128078915168015826259279872), (137975824384, 232488804171798923623888618337756189986643641086481444985473430390888080605184, 463168356949264781694283940034751631413079938662562256157830336031652518559744), (412316860416, 463168356949264781694283940034751631413079938662562256157830336031652518559744, 926336713898529563388567880069503262826159877325124512315660672063305037119488), (549755813888, 926336713898529563388567880069503262826159877325124512315660672063305053896704, 1852673427797059126777135760139006525652319754650249024631321344126610074238976), (549755813888, 926336713898529563388567880069503262826159877325124512315660672063305037119488, 3705346855594118253554271520278013051304639509300498049262642688253220148477952), (2748779069440, 4631683569492647816942839400347516314130799386625622561578303360316525185597440, 7410693711188236507108543040556026102609279018600996098525285376506440296955904), (4947802324992, 8337030425086766070497110920625529365435438895926120610840946048569745334075392, 14821387422376473014217086081112052205218558037201992197050570753012880593911808), (9345848836096, 15747724136275002577605653961181555468044717914527116709366231425076185631031296, 29642774844752946028434172162224104410437116074403984394101141506025761187823616), (19241453486080, 32421784986448534718599875802432614198915595706379357931048123522215676299182080, 59285549689505892056868344324448208820874232148807968788202283012051522375647232), (35734127902720, 60211886403404421620256912204517712083700392026133093300517943684114827412766720, 118571099379011784113736688648896417641748464297615937576404566024103044751294464), (74766790688768, 118571099379011784113736688648896417641748464297615937576404566024103044751294464, 237142198758023568227473377297792835283496928595231875152809132048206089502588928), (140737488355328, 237142198758023568227473377297792835283496928595231875152809132048206089569697792, 474284397516047136454946754595585670566993857190463750305618264096412179005177856), (140737488355328, 237142198758023568227473377297792835283496928595231875152809132048206089502588932, 948568795032094272909893509191171341133987714380927500611236528192824358010355712), (985162418487296, 1659995391306164977592313641084549846984478500166623126069663924337442626518122496, 1897137590064188545819787018382342682267975428761855001222473056385648716020711424), (1266637395197952, 2134279788822212114047260395680135517551472357357086876375282188433854805523300352, 3794275180128377091639574036764685364535950857523710002444946112771297432041422848), (3377699720527872, 3794275180128377091639574036764685364535950857523710002444946112771297432041422848, 7588550360256754183279148073529370729071901715047420004889892225542594864082845696), (4503599627370496, 7588550360256754183279148073529370729071901715047420004889892225542594865156587520, 15177100720513508366558296147058741458143803430094840009779784451085189728165691392), (13510798882111488, 22765651080770262549837444220588112187215705145142260014669676676627784592248537088, 30354201441027016733116592294117482916287606860189680019559568902170379456331382784), (22517998136852480, 37942751801283770916395740367646853645359508575237100024449461127712974320414228480, 60708402882054033466233184588234965832575213720379360039119137804340758912662765568), (72057594037927935, 60708402882054033466233184588234965832575213720379360039119137804340758912662765568, 1)] (.q 0 (.q 1 (.q 2 (.q 3 (.q 4 (.q 5 (.q 6 (.q 7 (.q 8 (.q 9 (.q 10 (.q 11 (.q 12 (.q 13 (.q 14 (.q 15 (.q 16 (.q 17 (.q 18 (.q 19 (.q 20 (.q 21 (.q 22 (.q 23 (.q 24 (.n false 25 (.n false 26 (.n false 27 (.q 28 (.q 29 (.q 30 (.two 31 (.two 32 (.n false 33 (.n false 34 (.n false 35 (.n false 36 (.n false 37 (.q 38 (.q 39 (.q 40 (.n false 41 (.n false 42 (.q 43 (.q 44 (.q 45 (.q 46 (.q 47 (.q 48 (.q 49 (.n false 50 (.q 51 (.q 52 (.q 53 (.q 54 (.q 55 (.q 56 .done)))))))))))))))))))))))) 33 (.n false 32 (.n false 34 (.n false 35 (.n false 36 (.n false 37 (.q 38 (.q 39 (.q 40 (.n false 41 (.n false 42 (.q 43 (.q 44 (.q 45 (.q 46 (.q 47 (.q 48 (.q 49 (.n false 50 (.q 51 (.q 52 (.q 53 (.q 54 (.q 55 (.q 56 .done))))))))))))))))))))))))) 33 (.n false 31 (.n false 32 (.n false 34 (.n false 35 (.n false 36 (.n false 37 (.q 38 (.q 39 (.q 40 (.n false 41 (.n false 42 (.q 43 (.q 44 (.q 45 (.q 46 (.q 47 (.q 48 (.q 49 (.n false 50 (.q 51 (.q 52 (.q 53 (.q 54 (.q 55 (.q 56 .done))))))))))))))))))))))))))))))))))))))))))))))))))))))))) ffm (by kernel_rfl) (by kernel_rfl) (by kernel_rfl) ?_
 refine AtT.zh ?_
 refine AtT.jg ?_
 refine AtT.qJ (d := 221) rfl (rfl) ?_
 refine AtT.zh ?_
 all_goals (first | refine AtT.kL 222 ?_ | refine AtT.zB (d := 222) rfl (fun hg222 => ?_) (fun hg222 => ?_) | refine AtT.zA (d := 222) rfl (fun hg222 => ?_) (fun hg222 => ?_))
 all_goals first|refine AtT.zg ?_|refine AtT.ze ?_|(refine AtT.zh ?_)
 all_goals first|refine AtT.zg ?_|refine AtT.ze ?_|(refine AtT.jg ?_)
 all_goals (refine AtT.qJ (d := 224) rfl (rfl) ?_)
 all_goals (refine AtT.zz ?_)
 all_goals (refine AtT.zh ?_)
 all_goals (first | refine AtT.kL 226 ?_ | refine AtT.zB (d := 226) rfl (fun hg226 => ?_) (fun hg226 => ?_) | refine AtT.zA (d := 226) rfl (fun hg226 => ?_) (fun hg226 => ?_))
 all_goals first|refine AtT.zg ?_|refine AtT.ze ?_|(refine AtT.zh ?_)
 all_goals first|refine AtT.zg ?_|refine AtT.ze ?_|(refine AtT.jg ?_)
 all_goals (refine AtT.qJ (d := 228) rfl (rfl) ?_)
 all_goals (refine AtT.zz ?_)
 all_goals (refine AtT.zh ?_)
 all_goals (first | refine AtT.kL 230 ?_ | refine AtT.zB (d := 230) rfl (fun hg230 => ?_) (fun hg230 => ?_) | refine AtT.zA (d := 230) rfl (fun hg230 => ?_) (fun hg230 => ?_))
 all_goals first|refine AtT.zg ?_|refine AtT.ze ?_|(refine AtT.zh ?_)
 all_goals first|refine AtT.zg ?_|refine AtT.ze ?_|(first | refine AtT.zY Tryz.underlying27 ?_ | refine AtT.zZ Tryz.underlying27 ?_)
 all_goals first|refine AtT.zg ?_|refine AtT.ze ?_|(refine AtT.jg ?_)
 all_goals (refine AtT.qJ (d := 233) rfl ((by omega)) ?_)
 all_goals (refine AtT.zz ?_)
 all_goals (refine AtT.zh ?_)
 all_goals (first | refine AtT.kL 235 ?_ | refine AtT.zB (d := 235) rfl (fun hg235 => ?_) (fun hg235 => ?_) | refine AtT.zA (d := 235) rfl (fun hg235 => ?_) (fun hg235 => ?_))
 all_goals first|refine AtT.zg ?_|refine AtT.ze ?_|(refine AtT.zh ?_)
 all_goals first|refine AtT.zg ?_|refine AtT.ze ?_|(refine AtT.jg ?_)
 all_goals (refine AtT.qJ (d := 237) rfl (rfl) ?_)
 all_goals (refine AtT.zz ?_)
 all_goals (refine AtT.zh ?_)
 all_goals (first | refine AtT.kL 239 ?_ | refine AtT.zB (d := 239) rfl (fun hg239 => ?_) (fun hg239 => ?_) | refine AtT.zA (d := 239) rfl (fun hg239 => ?_) (fun hg239 => ?_))
 all_goals first|refine AtT.zg ?_|refine AtT.ze ?_|(refine AtT.zh ?_)
 all_goals first|refine AtT.zg ?_|refine AtT.ze ?_|(refine AtT.jg ?_)
 all_goals (refine AtT.qJ (d := 241) rfl (rfl) ?_)
 all_goals (refine AtT.zz ?_)
 all_goals (refine AtT.zh ?_)
 all_goals (first | refine AtT.kL 243 ?_ | refine AtT.zB (d := 243) rfl (fun hg243 => ?_) (fun hg243 => ?_) | refine AtT.zA (d := 243) rfl (fun hg243 => ?_) (fun hg243 => ?_))
 all_goals first|refine AtT.zg ?_|refine AtT.ze ?_|(refine AtT.zh ?_)
 all_goals first|refine AtT.zP ?_|refine AtT.zI ?_|((refine AtT.zw (zQ _ _) ?_) ; (intro q245 V245 hV245 hq245))
 all_goals ((try replace hs1:=hs1.le hV245);(try replace hs2:=hs2.le hV245);(try replace hu93:=hu93.le hV245);(try replace hu110:=hu110.le hV245);(try replace ht120:=ht120.le hV245))
 all_goals first|refine AtT.zP ?_|refine AtT.zI ?_|((refine AtT.zq rfl rfl qF (qG _ _) ?_) ; (rintro _ rfl))
 all_goals first|refine AtT.zP ?_|refine AtT.zI ?_|((refine AtT.zq rfl rfl ok34 (ints_f [0, 3] [0, 3] _ _ _ hu93 (Sl.lit hq245 rfl (by decide))) ?_) ; (rintro _ rfl))
 all_goals (refine AtT.qJ (d := 247) rfl (rfl) ?_)
 all_goals (refine AtT.zz ?_)
 all_goals (refine AtT.zh ?_)
 all_goals (first | refine AtT.kL 249 ?_ | refine AtT.zB (d := 249) rfl (fun hg249 => ?_) (fun hg249 => ?_) | refine AtT.zA (d := 249) rfl (fun hg249 => ?_) (fun hg249 => ?_))
 all_goals first|refine AtT.zg ?_|refine AtT.ze ?_|(refine AtT.zh ?_)
 refine AtT.two ?_ ?_
 focus
  all_goals first|refine AtT.zP ?_|refine AtT.zI ?_|((refine AtT.zw (zQ _ _) ?_) ; (intro q251 V251 hV251 hq251))
  all_goals ((try replace hs1:=hs1.le hV251);(try replace hs2:=hs2.le hV251);(try replace hu93:=hu93.le hV251);(try replace hu110:=hu110.le hV251);(try replace ht120:=ht120.le hV251);(try replace s253:=s253.le hV251))
  all_goals (have s251 : SlI V251 _ [0, 2] := Sl.lit hq251 rfl (by decide))
  refine AtT.two ?_ ?_
  focus
   all_goals first|refine AtT.zP ?_|refine AtT.zI ?_|((refine AtT.zq rfl rfl qF (qG _ _) ?_) ; (rintro _ rfl))
   all_goals first|refine AtT.zP ?_|refine AtT.zI ?_|((refine AtT.zw (zQ _ _) ?_) ; (intro q253 V253 hV253 hq253))
   all_goals ((try replace hs1:=hs1.le hV253);(try replace hs2:=hs2.le hV253);(try replace hu93:=hu93.le hV253);(try replace hu110:=hu110.le hV253);(try replace ht120:=ht120.le hV253);(try replace s251:=s251.le hV253))
   all_goals (have s253 : SlI V253 _ [1, 3] := Sl.lit hq253 rfl (by decide))
   all_goals first|refine AtT.zP ?_|refine AtT.zI ?_|((refine AtT.zq rfl rfl qF (qG _ _) ?_) ; (rintro _ rfl))
   all_goals first|refine AtT.zP ?_|refine AtT.zI ?_|((refine AtT.zw (bs42_2_0_1 _ _ _ _ _ _) ?_) ; (intro q255 V255 hV255 hq255))
   all_goals ((try replace hs1:=hs1.le hV255);(try replace hs2:=hs2.le hV255);(try replace hu93:=hu93.le hV255);(try replace hu110:=hu110.le hV255);(try replace ht120:=ht120.le hV255);(try replace s251:=s251.le hV255);(try replace s253:=s253.le hV255))
   all_goals first|refine AtT.zP ?_|refine AtT.zI ?_|((refine AtT.zq rfl rfl ok55 (lists_f _ _) ?_) ; (rintro _ rfl))
   all_goals first|refine AtT.zP ?_|refine AtT.zI ?_|((refine AtT.zq rfl rfl ok35 (lists_eq_f [[0, 2], [1, 3]] [[0, 2], [1, 3]] _ _ _ hu110 (SL.lit [(some q251, 2, 2), (some q253, 2, 2)] [[0, 2], [1, 3]] 2 hq255 rfl rfl (by simp) (fun i q l h1 h2 => by match i, h1, h2 with | 0, h1, h2 => (cases h1; cases h2; exact s251) | 1, h1, h2 => (cases h1; cases h2; exact s253)))) ?_) ; (rintro _ rfl))
   all_goals (refine AtT.qJ (d := 257) rfl (rfl) ?_)
   all_goals (refine AtT.zz ?_)
   all_goals (refine AtT.zh ?_)
   all_goals (first | refine AtT.kL 259 ?_ | refine AtT.zB (d := 259) rfl (fun hg259 => ?_) (fun hg259 => ?_) | refine AtT.zA (d := 259) rfl (fun hg259 => ?_) (fun hg259 => ?_))
   all_goals first|refine AtT.zg ?_|refine AtT.ze ?_|(first | refine AtT.zD zS ?_ | refine AtT.zJ zS ?_ | refine AtT.zC zS ?_)
   all_goals first|refine AtT.zP ?_|refine AtT.zI ?_|((refine AtT.zw (qh _ _ _ _) ?_) ; (intro q261 V261 hV261 hq261))
   all_goals ((try replace hs1:=hs1.le hV261);(try replace hs2:=hs2.le hV261);(try replace ht120:=ht120.le hV261))
   all_goals (have s261 : SlI V261 _ [0, 2, 3, 2] := Sl.lit hq261 rfl (by decide))
   all_goals first|refine AtT.zP ?_|refine AtT.zI ?_|((refine AtT.qg rfl rfl ok53 (qI [⟨0, 2, 3, 2⟩] (by decide) _ _ (show SlI _ _ [0, 2, 3, 2] from s261)) ?_) ; (rintro _ V262 hV262 hp262; (try replace hs1:=hs1.le hV262); (try replace hs2:=hs2.le hV262); (try replace ht120:=ht120.le hV262); obtain ⟨a262, c262, rfl, k262, k262', _⟩ := id hp262; clear k262 k262'))
   all_goals first|refine AtT.zg ?_|refine AtT.ze ?_|(refine AtT.idx rfl ⟨_, _, rfl, rfl, rfl⟩ Tryz.underlying27 zS rfl hp262 rfl (by decide) (by decide) (by decide) ?_) ; (intro p263 e263 he263 hc263)
   all_goals first|refine AtT.zg ?_|refine AtT.ze ?_|(first | refine AtT.zD zS ?_ | refine AtT.zJ zS ?_ | refine AtT.zC zS ?_)
   all_goals (obtain rfl : (⟨0, 2, 3, 2⟩ : Pc) = e263 := qO (h := he263))
   all_goals first|refine AtT.zg ?_|refine AtT.ze ?_|(refine AtT.keqS (eqS26 _ _ _ _ _ _ _ _) ?_)
   all_goals (refine AtT.qJ (d := 265) rfl (⟨rfl, rfl, rfl, rfl⟩) ?_)
   all_goals (refine AtT.zz ?_)
   all_goals (refine AtT.zh ?_)
   all_goals (first | refine AtT.kL 267 ?_ | refine AtT.zB (d := 267) rfl (fun hg267 => ?_) (fun hg267 => ?_) | refine AtT.zA (d := 267) rfl (fun hg267 => ?_) (fun hg267 => ?_))
   all_goals first|refine AtT.zg ?_|refine AtT.ze ?_|(first | refine AtT.zD zM ?_ | refine AtT.zJ zM ?_ | refine AtT.zC zM ?_)
   all_goals first|refine AtT.zg ?_|refine AtT.ze ?_|(first | refine AtT.zD zM ?_ | refine AtT.zJ zM ?_ | refine AtT.zC zM ?_)
   all_goals first|refine AtT.zP ?_|refine AtT.zI ?_|((refine AtT.zq rfl rfl ok42 (requal_f (tuR (zK 4) 1).1 qL _ _ _ ⟨a120, c120, rfl, ht120⟩ (sv2 hs2)) ?_) ; (rintro _ rfl))
   all_goals (refine AtT.qJ (d := 270) rfl (wT1e) ?_)
   all_goals (refine AtT.zz ?_)
   all_goals (refine AtT.zh ?_)
   all_goals (first | refine AtT.kL 272 ?_ | refine AtT.zB (d := 272) rfl (fun hg272 => ?_) (fun hg272 => ?_) | refine AtT.zA (d := 272) rfl (fun hg272 => ?_) (fun hg272 => ?_))
   all_goals first|refine AtT.zg ?_|refine AtT.ze ?_|(refine AtT.zh ?_)
   all_goals first|refine AtT.zg ?_|refine AtT.ze ?_|(refine AtT.jg ?_)
   all_goals (refine AtT.qJ (d := 274) rfl (rfl) ?_)
   all_goals (refine AtT.zz ?_)
   all_goals (refine AtT.zf ?_)
   all_goals refine AtT.done ?_
  rotate_right
  focus
   all_goals first|refine AtT.zP ?_|refine AtT.zI ?_|((refine AtT.zw (zQ _ _) ?_) ; (intro q253 V253 hV253 hq253))
   all_goals ((try replace hs1:=hs1.le hV253);(try replace hs2:=hs2.le hV253);(try replace hu93:=hu93.le hV253);(try replace hu110:=hu110.le hV253);(try replace ht120:=ht120.le hV253);(try replace s251:=s251.le hV253))
   all_goals (have s253 : SlI V253 _ [1, 3] := Sl.lit hq253 rfl (by decide))
   all_goals first|refine AtT.zP ?_|refine AtT.zI ?_|((refine AtT.zq rfl rfl qF (qG _ _) ?_) ; (rintro _ rfl))
   all_goals first|refine AtT.zP ?_|refine AtT.zI ?_|((refine AtT.zq rfl rfl qF (qG _ _) ?_) ; (rintro _ rfl))
   all_goals first|refine AtT.zP ?_|refine AtT.zI ?_|((refine AtT.zw (bs42_2_0_1 _ _ _ _ _ _) ?_) ; (intro q255 V255 hV255 hq255))
   all_goals ((try replace hs1:=hs1.le hV255);(try replace hs2:=hs2.le hV255);(try replace hu93:=hu93.le hV255);(try replace hu110:=hu110.le hV255);(try replace ht120:=ht120.le hV255);(try replace s251:=s251.le hV255);(try replace s253:=s253.le hV255))
   all_goals first|refine AtT.zP ?_|refine AtT.zI ?_|((refine AtT.zq rfl rfl ok55 (lists_f _ _) ?_) ; (rintro _ rfl))
   all_goals first|refine AtT.zP ?_|refine AtT.zI ?_|((refine AtT.zq rfl rfl ok35 (lists_eq_f [[0, 2], [1, 3]] [[0, 2], [1, 3]] _ _ _ hu110 (SL.lit [(some q251, 2, 2), (some q253, 2, 2)] [[0, 2], [1, 3]] 2 hq255 rfl rfl (by simp) (fun i q l h1 h2 => by match i, h1, h2 with | 0, h1, h2 => (cases h1; cases h2; exact s251) | 1, h1, h2 => (cases h1; cases h2; exact s253)))) ?_) ; (rintro _ rfl))
   all_goals (refine AtT.qJ (d := 257) rfl (rfl) ?_)
   all_goals (refine AtT.zz ?_)
   all_goals (refine AtT.zh ?_)
   all_goals first|refine AtT.zg ?_|refine AtT.ze ?_|(first | refine AtT.zD zS ?_ | refine AtT.zJ zS ?_ | refine AtT.zC zS ?_)
   all_goals first|refine AtT.zP ?_|refine AtT.zI ?_|((refine AtT.zw (qh _ _ _ _) ?_) ; (intro q261 V261 hV261 hq261))
   all_goals ((try replace hs1:=hs1.le hV261);(try replace hs2:=hs2.le hV261);(try replace ht120:=ht120.le hV261))
   all_goals (have s261 : SlI V261 _ [0, 2, 3, 2] := Sl.lit hq261 rfl (by decide))
   all_goals first|refine AtT.zP ?_|refine AtT.zI ?_|((refine AtT.qg rfl rfl ok53 (qI [⟨0, 2, 3, 2⟩] (by decide) _ _ (show SlI _ _ [0, 2, 3, 2] from s261)) ?_) ; (rintro _ V262 hV262 hp262; (try replace hs1:=hs1.le hV262); (try replace hs2:=hs2.le hV262); (try replace ht120:=ht120.le hV262); obtain ⟨a262, c262, rfl, k262, k262', _⟩ := id hp262; clear k262 k262'))
   all_goals first|refine AtT.zg ?_|refine AtT.ze ?_|(refine AtT.idx rfl ⟨_, _, rfl, rfl, rfl⟩ Tryz.underlying27 zS rfl hp262 rfl (by decide) (by decide) (by decide) ?_) ; (intro p263 e263 he263 hc263)
   all_goals first|refine AtT.zg ?_|refine AtT.ze ?_|(first | refine AtT.zD zS ?_ | refine AtT.zJ zS ?_ | refine AtT.zC zS ?_)
   all_goals (obtain rfl : (⟨0, 2, 3, 2⟩ : Pc) = e263 := qO (h := he263))
   all_goals first|refine AtT.zg ?_|refine AtT.ze ?_|(refine AtT.keqS (eqS26 _ _ _ _ _ _ _ _) ?_)
   all_goals (refine AtT.qJ (d := 265) rfl (⟨rfl, rfl, rfl, rfl⟩) ?_)
   all_goals (refine AtT.zz ?_)
   all_goals (refine AtT.zh ?_)
   all_goals first|refine AtT.zg ?_|refine AtT.ze ?_|(first | refine AtT.zD zM ?_ | refine AtT.zJ zM ?_ | refine AtT.zC zM ?_)
   all_goals first|refine AtT.zg ?_|refine AtT.ze ?_|(first | refine AtT.zD zM ?_ | refine AtT.zJ zM ?_ | refine AtT.zC zM ?_)
   all_goals first|refine AtT.zP ?_|refine AtT.zI ?_|((refine AtT.zq rfl rfl ok42 (requal_f (tuR (zK 4) 1).1 qL _ _ _ ⟨a120, c120, rfl, ht120⟩ (sv2 hs2)) ?_) ; (rintro _ rfl))
   all_goals (refine AtT.qJ (d := 270) rfl (wT1e) ?_)
   all_goals (refine AtT.zz ?_)
   all_goals (refine AtT.zh ?_)
   all_goals first|refine AtT.zg ?_|refine AtT.ze ?_|(refine AtT.zh ?_)
   all_goals first|refine AtT.zg ?_|refine AtT.ze ?_|(refine AtT.jg ?_)
   all_goals (refine AtT.qJ (d := 274) rfl (rfl) ?_)
   all_goals (refine AtT.zz ?_)
   all_goals (refine AtT.zf ?_)
   all_goals refine AtT.done ?_
 rotate_right
 focus
  all_goals first|refine AtT.zP ?_|refine AtT.zI ?_|((refine AtT.zw (zQ _ _) ?_) ; (intro q253 V253 hV253 hq253))
  all_goals ((try replace hs1:=hs1.le hV253);(try replace hs2:=hs2.le hV253);(try replace hu93:=hu93.le hV253);(try replace hu110:=hu110.le hV253);(try replace ht120:=ht120.le hV253);(try replace s251:=s251.le hV253))
  all_goals (have s253 : SlI V253 _ [1, 3] := Sl.lit hq253 rfl (by decide))
  all_goals first|refine AtT.zP ?_|refine AtT.zI ?_|((refine AtT.zw (zQ _ _) ?_) ; (intro q251 V251 hV251 hq251))
  all_goals ((try replace hs1:=hs1.le hV251);(try replace hs2:=hs2.le hV251);(try replace hu93:=hu93.le hV251);(try replace hu110:=hu110.le hV251);(try replace ht120:=ht120.le hV251);(try replace s253:=s253.le hV251))
  all_goals (have s251 : SlI V251 _ [0, 2] := Sl.lit hq251 rfl (by decide))
  all_goals first|refine AtT.zP ?_|refine AtT.zI ?_|((refine AtT.zq rfl rfl qF (qG _ _) ?_) ; (rintro _ rfl))
  all_goals first|refine AtT.zP ?_|refine AtT.zI ?_|((refine AtT.zq rfl rfl qF (qG _ _) ?_) ; (rintro _ rfl))
  all_goals first|refine AtT.zP ?_|refine AtT.zI ?_|((refine AtT.zw (bs42_2_0_1 _ _ _ _ _ _) ?_) ; (intro q255 V255 hV255 hq255))
  all_goals ((try replace hs1:=hs1.le hV255);(try replace hs2:=hs2.le hV255);(try replace hu93:=hu93.le hV255);(try replace hu110:=hu110.le hV255);(try replace ht120:=ht120.le hV255);(try replace s251:=s251.le hV255);(try replace s253:=s253.le hV255))
  all_goals first|refine AtT.zP ?_|refine AtT.zI ?_|((refine AtT.zq rfl rfl ok55 (lists_f _ _) ?_) ; (rintro _ rfl))
  all_goals first|refine AtT.zP ?_|refine AtT.zI ?_|((refine AtT.zq rfl rfl ok35 (lists_eq_f [[0, 2], [1, 3]] [[0, 2], [1, 3]] _ _ _ hu110 (SL.lit [(some q251, 2, 2), (some q253, 2, 2)] [[0, 2], [1, 3]] 2 hq255 rfl rfl (by simp) (fun i q l h1 h2 => by match i, h1, h2 with | 0, h1, h2 => (cases h1; cases h2; exact s251) | 1, h1, h2 => (cases h1; cases h2; exact s253)))) ?_) ; (rintro _ rfl))
  all_goals (refine AtT.qJ (d := 257) rfl (rfl) ?_)
  all_goals (refine AtT.zz ?_)
  all_goals (refine AtT.zh ?_)
  all_goals first|refine AtT.zg ?_|refine AtT.ze ?_|(first | refine AtT.zD zS ?_ | refine AtT.zJ zS ?_ | refine AtT.zC zS ?_)
  all_goals first|refine AtT.zP ?_|refine AtT.zI ?_|((refine AtT.zw (qh _ _ _ _) ?_) ; (intro q261 V261 hV261 hq261))
  all_goals ((try replace hs1:=hs1.le hV261);(try replace hs2:=hs2.le hV261);(try replace ht120:=ht120.le hV261))
  all_goals (have s261 : SlI V261 _ [0, 2, 3, 2] := Sl.lit hq261 rfl (by decide))
  all_goals first|refine AtT.zP ?_|refine AtT.zI ?_|((refine AtT.qg rfl rfl ok53 (qI [⟨0, 2, 3, 2⟩] (by decide) _ _ (show SlI _ _ [0, 2, 3, 2] from s261)) ?_) ; (rintro _ V262 hV262 hp262; (try replace hs1:=hs1.le hV262); (try replace hs2:=hs2.le hV262); (try replace ht120:=ht120.le hV262); obtain ⟨a262, c262, rfl, k262, k262', _⟩ := id hp262; clear k262 k262'))
  all_goals first|refine AtT.zg ?_|refine AtT.ze ?_|(refine AtT.idx rfl ⟨_, _, rfl, rfl, rfl⟩ Tryz.underlying27 zS rfl hp262 rfl (by decide) (by decide) (by decide) ?_) ; (intro p263 e263 he263 hc263)
  all_goals first|refine AtT.zg ?_|refine AtT.ze ?_|(first | refine AtT.zD zS ?_ | refine AtT.zJ zS ?_ | refine AtT.zC zS ?_)
  all_goals (obtain rfl : (⟨0, 2, 3, 2⟩ : Pc) = e263 := qO (h := he263))
  all_goals first|refine AtT.zg ?_|refine AtT.ze ?_|(refine AtT.keqS (eqS26 _ _ _ _ _ _ _ _) ?_)
  all_goals (refine AtT.qJ (d := 265) rfl (⟨rfl, rfl, rfl, rfl⟩) ?_)
  all_goals (refine AtT.zz ?_)
  all_goals (refine AtT.zh ?_)
  all_goals first|refine AtT.zg ?_|refine AtT.ze ?_|(first | refine AtT.zD zM ?_ | refine AtT.zJ zM ?_ | refine AtT.zC zM ?_)
  all_goals first|refine AtT.zg ?_|refine AtT.ze ?_|(first | refine AtT.zD zM ?_ | refine AtT.zJ zM ?_ | refine AtT.zC zM ?_)
  all_goals first|refine AtT.zP ?_|refine AtT.zI ?_|((refine AtT.zq rfl rfl ok42 (requal_f (tuR (zK 4) 1).1 qL _ _ _ ⟨a120, c120, rfl, ht120⟩ (sv2 hs2)) ?_) ; (rintro _ rfl))
  all_goals (refine AtT.qJ (d := 270) rfl (wT1e) ?_)
  all_goals (refine AtT.zz ?_)
  all_goals (refine AtT.zh ?_)
  all_goals first|refine AtT.zg ?_|refine AtT.ze ?_|(refine AtT.zh ?_)
  all_goals first|refine AtT.zg ?_|refine AtT.ze ?_|(refine AtT.jg ?_)
  all_goals (refine AtT.qJ (d := 274) rfl (rfl) ?_)
  all_goals (refine AtT.zz ?_)
  all_goals (refine AtT.zf ?_)
  all_goals refine AtT.done ?_
 all_goals (refine At.nrm ?_)
 all_goals (exact At.qb rfl (.tmp rfl) rfl)
end Go.Proofs.YtghomjjffllkeaaGreatDoor
set_option linter.unusedVariables false
namespace Go.Lw
section
variable {cx : Cx} {n : Nat} {ks : List (Nat × Value)} {O R : List Own} {V : View} {P : Program} {fn : Func}
theorem At.ret4 {R : Value → View → Prop} {r s q j : ResultVar} {v u z y : Value} (hr : fn.results = #[r, s, q, j]) (h1 : Res P ks O V r v) (h2 : Res P ks O V s u) (h3 : Res P ks O V q z) (h4 : Res P ks O V j y) (h : R (.tuple #[v, u, z, y]) V) (hd : cx.ds = [] := by rfl) : At cx n ks O V (bodyPost P fn (Post cx R) .ret) := fun a w hk hm =>
 ⟨hk.defers.trans hd, .tuple #[v, u, z, y], by
  rcases h1.spec hk hm with ⟨t, rfl, e⟩ | ⟨p, T, q, rfl, e, l⟩ <;> rcases h2.spec hk hm with ⟨t2, rfl, e2⟩ | ⟨p2, T2, q2, rfl, e2, l2⟩ <;> rcases h3.spec hk hm with ⟨t3, rfl, e3⟩ | ⟨p3, T3, q3, rfl, e3, l3⟩ <;> rcases h4.spec hk hm with ⟨t4, rfl, e4⟩ | ⟨p4, T4, q4, rfl, e4, l4⟩ <;> simp [results, hr, asAddr, *], _, V, rfl, hm.below, hm.le0, hm.view, hm.fresh, h⟩
end
end Go.Lw
set_option linter.unusedVariables false
namespace Go.Proofs.YtghomjjffllkeaaGreatDoor
open Go.Lw Go.Gl Go.Pm Go.RowKit Go.Shelf
def FeR (s : Sh) (r : Value) (V' : View) : Prop := ∃ (a : Option Addr) (c : Nat) (ps : List Pc), r = .tuple #[iv ps.length, iv (arL ps), .slice a ps.length c, .bool true] ∧ Sl V' pce 4 (.slice a ps.length c) ps ∧ MnR (gdS s) (knL s) ps
theorem few_f (s : Sh) (h0 : chE s = 0) (V : View) (v : Value) (hv : ShV V v s) : Fnc Tryz.prog 45 [v] V (FeR s) := by
 obtain ⟨a, c, rfl, hs⟩ := id hv
 have hok := jo h0
 have hkn := hok.kn
 refine qf Tryz.func45 rfl Tryz.ntmps45 (Nat.le_of_ble_eq_true rfl) ?_
 intro w0 hw0
 refine At.nrm ?_
 refine At.zl (.n false 0 (.q 1 (.q 2 (.q 3 (.q 4 .done))))) ?_
 refine AtT.jb ?_
 intro b1
 refine AtT.zf ?_
 refine AtT.zf ?_
 refine AtT.zf ?_
 refine AtT.zf ?_
 refine AtT.done ?_
 refine At.nrm ?_
 refine At.zl (.q 0 (.n false 1 (.q 2 (.q 3 (.q 4 (.q 5 (.q 6 .done))))))) ?_
 first | refine AtT.zD zM ?_ | refine AtT.zJ zM ?_ | refine AtT.zC zM ?_
 refine AtT.zq rfl rfl ok23 (fewest_f s _ _ hv) ?_
 rintro _ ⟨n, e, rfl, hF⟩; obtain ⟨rfl, m, d, rfl, hB⟩ := fw_ok h0 hF
 refine AtT.zh ?_
 refine AtT.zL ?_
 refine AtT.zL ?_
 refine AtT.zf ?_
 refine AtT.zf ?_
 refine AtT.done ?_
 refine At.nrm ?_
 refine At.zl (.q 0 (.n false 1 (.q 2 (.q 3 (.q 4 (.q 5 (.q 6 .done))))))) ?_
 first | refine AtT.zD zM ?_ | refine AtT.zJ zM ?_ | refine AtT.zC zM ?_
 refine AtT.zq rfl rfl ok25 (cells_f s _ _ hv) ?_
 rintro _ ⟨n, e, rfl, hC⟩; obtain ⟨rfl, m', hB'⟩ := ce_ok h0 hC
 refine AtT.zh ?_
 refine AtT.zL ?_
 refine AtT.zL ?_
 refine AtT.zf ?_
 refine AtT.zf ?_
 refine AtT.done ?_
 refine At.nrm ?_
 obtain ⟨rfl, rfl⟩ := best_uniq hB hB'
 refine At.zl (.q 0 (.n false 1 (.q 2 (.q 3 (.q 4 (.q 5 (.q 6 .done))))))) ?_
 first | refine AtT.zD zM ?_ | refine AtT.zJ zM ?_ | refine AtT.zC zM ?_
 refine AtT.qg rfl rfl ok27 (patches_f s _ _ hv) ?_
 rintro v26 V26 hV26 ⟨a26, c26, ps, e26, rfl, hs26, hr⟩; obtain ⟨rfl, hm⟩ := pt_ok h0 hr
 refine AtT.zh ?_
 refine AtT.zL ?_
 refine AtT.zL ?_
 refine AtT.zf ?_
 refine AtT.zf ?_
 refine AtT.done ?_
 refine At.nrm ?_
 obtain ⟨e1, e2⟩ := best_uniq hB hm.best
 subst e1 e2
 have hbl := best_le_len (sh_gok hok) (kn_on hok) (kn_fig hok) hm.best
 have hcp := cpR_mends hok (by omega) hm.mends
 refine At.zl (.q 0 (.q 1 (.q 2 (.q 3 (.q 4 (.q 5 (.q 6 (.q 7 (.q 8 (.q 9 (.q 10 (.q 11 (.q 12 (.q 13 (.q 14 (.q 15 (.q 16 (.q 17 (.q 18 (.q 19 .done)))))))))))))))))))) ?_
 refine AtT.zh ?_
 refine AtT.qH ?_
 refine AtT.qm (d := 30) rfl ((fun h => h rfl)) ?_
 refine AtT.zh ?_
 all_goals (first | refine AtT.kL 31 ?_ | refine AtT.zB (d := 31) rfl (fun hg31 => ?_) (fun hg31 => ?_) | refine AtT.zA (d := 31) rfl (fun hg31 => ?_) (fun hg31 => ?_))
 all_goals first|refine AtT.zg ?_|refine AtT.ze ?_|(refine AtT.zh ?_)
 all_goals first|refine AtT.zg ?_|refine AtT.ze ?_|(refine AtT.qH ?_)
 all_goals (refine AtT.qm (d := 33) rfl ((fun h => h rfl)) ?_)
 all_goals (refine AtT.zz ?_)
 all_goals (refine AtT.zh ?_)
 all_goals (first | refine AtT.kL 35 ?_ | refine AtT.zB (d := 35) rfl (fun hg35 => ?_) (fun hg35 => ?_) | refine AtT.zA (d := 35) rfl (fun hg35 => ?_) (fun hg35 => ?_))
 all_goals first|refine AtT.zg ?_|refine AtT.ze ?_|(refine AtT.zh ?_)
 all_goals first|refine AtT.zg ?_|refine AtT.ze ?_|(refine AtT.qH ?_)
 all_goals (refine AtT.qm (d := 37) rfl ((fun h => h rfl)) ?_)
 all_goals (refine AtT.zz ?_)
 all_goals (refine AtT.zh ?_)
 all_goals (first | refine AtT.kL 39 ?_ | refine AtT.zB (d := 39) rfl (fun hg39 => ?_) (fun hg39 => ?_) | refine AtT.zA (d := 39) rfl (fun hg39 => ?_) (fun hg39 => ?_))
 all_goals first|refine AtT.zg ?_|refine AtT.ze ?_|(refine AtT.zh ?_)
 all_goals first|refine AtT.zg ?_|refine AtT.ze ?_|(first | refine AtT.zY Tryz.underlying27 ?_ | refine AtT.zZ Tryz.underlying27 ?_)
 all_goals first|refine AtT.zg ?_|refine AtT.ze ?_|(refine AtT.zh ?_)
 all_goals first|refine AtT.zg ?_|refine AtT.ze ?_|(refine AtT.qH ?_)
 all_goals (refine AtT.qm (d := 43) rfl ((fun h => h rfl)) ?_)
 all_goals (refine AtT.zz ?_)
 all_goals (refine AtT.zh ?_)
 all_goals (first | refine AtT.kL 45 ?_ | refine AtT.zB (d := 45) rfl (fun hg45 => ?_) (fun hg45 => ?_) | refine AtT.zA (d := 45) rfl (fun hg45 => ?_) (fun hg45 => ?_))
 all_goals first|refine AtT.zg ?_|refine AtT.ze ?_|(refine AtT.zh ?_)
 all_goals first|refine AtT.zg ?_|refine AtT.ze ?_|(refine AtT.qw ?_)
 all_goals (refine AtT.qm (d := 47) rfl ((by omega)) ?_)
 all_goals (refine AtT.zz ?_)
 all_goals refine AtT.done ?_
 all_goals (refine At.nrm ?_)
 refine At.qW rfl rfl ?_
 refine At.nrm ?_
 refine At.zl (.q 0 (.q 1 (.n false 2 (.q 3 (.q 4 (.q 5 (.q 6 (.q 7 .done)))))))) ?_
 first | refine AtT.zD zM ?_ | refine AtT.zJ zM ?_ | refine AtT.zC zM ?_
 refine AtT.zh ?_
 refine AtT.zq rfl rfl ok17 (checkPatches_f s ps _ _ _ (hv.le hV26) hs26) ?_
 rintro _ rfl; rw [hcp]
 refine AtT.zh ?_
 refine AtT.zL ?_
 refine AtT.zL ?_
 refine AtT.zf ?_
 refine AtT.zf ?_
 refine AtT.done ?_
 refine At.nrm ?_
 refine At.zl (.q 0 (.q 1 (.n false 2 (.q 3 (.q 4 (.q 5 (.q 6 (.q 7 .done)))))))) ?_
 first | refine AtT.zD zM ?_ | refine AtT.zJ zM ?_ | refine AtT.zC zM ?_
 refine AtT.zh ?_
 refine AtT.zq rfl rfl ok18 (rcheckPatches_f s ps _ _ _ (hv.le hV26) hs26) ?_
 rintro _ rfl; rw [hcp]
 refine AtT.zh ?_
 refine AtT.zL ?_
 refine AtT.zL ?_
 refine AtT.zf ?_
 refine AtT.zf ?_
 refine AtT.done ?_
 refine At.nrm ?_
 refine At.zl (.q 0 (.q 1 (.q 2 (.q 3 (.q 4 (.q 5 (.q 6 (.q 7 (.q 8 (.q 9 (.q 10 (.q 11 (.q 12 (.q 13 (.q 14 (.q 15 (.q 16 (.q 17 (.q 18 (.q 19 (.q 20 (.q 21 (.q 22 .done))))))))))))))))))))))) ?_
 refine AtT.zh ?_
 refine AtT.zh ?_
 refine AtT.zh ?_
 refine AtT.zh ?_
 refine AtT.jg ?_
 refine AtT.qJ (d := 65) rfl (rfl) ?_
 refine AtT.zh ?_
 all_goals (first | refine AtT.kL 66 ?_ | refine AtT.zB (d := 66) rfl (fun hg66 => ?_) (fun hg66 => ?_) | refine AtT.zA (d := 66) rfl (fun hg66 => ?_) (fun hg66 => ?_))
 all_goals first|refine AtT.zg ?_|refine AtT.ze ?_|(refine AtT.zh ?_)
 all_goals first|refine AtT.zg ?_|refine AtT.ze ?_|(refine AtT.jg ?_)
 all_goals (refine AtT.qJ (d := 68) rfl (rfl) ?_)
 all_goals (refine AtT.zz ?_)
 all_goals (refine AtT.zh ?_)
 all_goals (first | refine AtT.kL 70 ?_ | refine AtT.zB (d := 70) rfl (fun hg70 => ?_) (fun hg70 => ?_) | refine AtT.zA (d := 70) rfl (fun hg70 => ?_) (fun hg70 => ?_))
 all_goals first|refine AtT.zg ?_|refine AtT.ze ?_|(refine AtT.zh ?_)
 all_goals first|refine AtT.zg ?_|refine AtT.ze ?_|(refine AtT.zh ?_)
 all_goals first|refine AtT.zg ?_|refine AtT.ze ?_|(refine AtT.jg ?_)
 all_goals (refine AtT.qJ (d := 73) rfl (rfl) ?_)
 all_goals (refine AtT.zz ?_)
 all_goals (refine AtT.zh ?_)
 all_goals (first | refine AtT.kL 75 ?_ | refine AtT.zB (d := 75) rfl (fun hg75 => ?_) (fun hg75 => ?_) | refine AtT.zA (d := 75) rfl (fun hg75 => ?_) (fun hg75 => ?_))
 all_goals first|refine AtT.zg ?_|refine AtT.ze ?_|(refine AtT.zh ?_)
 all_goals first|refine AtT.zg ?_|refine AtT.ze ?_|(refine AtT.zh ?_)
 all_goals first|refine AtT.zg ?_|refine AtT.ze ?_|(refine AtT.jg ?_)
 all_goals (refine AtT.qJ (d := 78) rfl (rfl) ?_)
 all_goals (refine AtT.zz ?_)
 all_goals (refine AtT.zf ?_)
 all_goals (refine AtT.zf ?_)
 all_goals (refine AtT.zf ?_)
 all_goals (refine AtT.zf ?_)
 all_goals refine AtT.done ?_
 all_goals (refine At.nrm ?_)
 exact At.ret4 rfl (.tmp rfl) (.tmp rfl) (.tmp rfl) (.tmp rfl) ⟨a26, c26, ps, rfl, hs26, hm⟩
end Go.Proofs.YtghomjjffllkeaaGreatDoor
