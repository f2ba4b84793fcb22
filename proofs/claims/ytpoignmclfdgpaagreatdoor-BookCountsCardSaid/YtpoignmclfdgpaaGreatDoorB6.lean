/- Texts that the last one of this claim imports. -/
import Derived.Test.YtpoignmclfdgpaaGreatDoorB5
set_option linter.unusedVariables false
set_option linter.unusedSimpArgs false
set_option linter.unusedSectionVars false
set_option linter.unusedVariables false
set_option maxRecDepth 20000
namespace Go.Proofs.YtpoignmclfdgpaaGreatDoor
open Go.Lw Go.Gl Go.Bk Go.RowKit
set_option maxHeartbeats 3200000 in
theorem works_f (V : View) (hg : GvV V) : Fnc Tryz.prog 17 [] V fun r _ => r = .bool true := by
 refine qh Tryz.func17 rfl Tryz.ntmps17 (Nat.le_of_ble_eq_true rfl) ?_
 intro w0 hw0
 refine At.nrm ?_
 refine At.zh (.q 0 .done) ?_
 refine AtT.ze ?_
 refine AtT.done ?_
 refine At.nrm ?_
 refine At.zh (.n false 0 (.n false 1 (.n false 2 (.q 3 (.n true 4 .done))))) ?_
 refine AtT.qa rfl rfl ok51 (two_f _) ?_
 rintro v46 V46 hV46 hr
 refine AtT.qa rfl rfl ok53 (six_f _) ?_
 rintro _ V47 hV47 ⟨w47, a47, c47, rfl, ⟨q47, z47, y47, e47, rfl, i47, j47⟩, hs47⟩
 refine AtT.zT z26 ?_
 intro b2
 refine AtT.ze ?_
 refine AtT.zF zK ?_
 refine AtT.done ?_
 refine At.nrm ?_
 have hb : BoV V47 (.agg #[.slice z47 q47.length y47, .slice a47 bo6.es.length c47]) bo6 := ⟨_, _, _, rfl, ⟨q47, z47, y47, e47, rfl, i47, j47⟩, hs47⟩
 clear e47 i47 j47 hs47
 replace hg := (hg.le hV46).le hV47
 replace hr := hr.le hV47
 clear hV46 hV47
 refine At.zh (.q 0 (.n false 1 (.q 2 (.q 3 (.q 4 (.q 5 (.q 6 .done))))))) ?_
 refine AtT.zf ?_
 refine AtT.qa rfl rfl ok18 (praw_f rs2 3 1 _ _ hr) ?_
 rintro _ V50 hV50 ⟨u50, rfl, h50⟩; rw [c_r1E]
 refine AtT.zf ?_
 refine AtT.zt ?_
 refine AtT.zt ?_
 refine AtT.ze ?_
 refine AtT.ze ?_
 refine AtT.done ?_
 refine At.nrm ?_
 replace hg := hg.le hV50
 replace hr := hr.le hV50
 replace hb := hb.le hV50
 clear hV50
 rw [c_r1] at h50
 refine At.zh (.q 0 (.n false 1 (.q 2 (.q 3 (.q 4 (.q 5 (.q 6 .done))))))) ?_
 refine AtT.zf ?_
 refine AtT.qa rfl rfl ok18 (praw_f rs2 0 4 _ _ hr) ?_
 rintro _ V55 hV55 ⟨u55, rfl, h55⟩; rw [c_r2E]
 refine AtT.zf ?_
 refine AtT.zt ?_
 refine AtT.zt ?_
 refine AtT.ze ?_
 refine AtT.ze ?_
 refine AtT.done ?_
 refine At.nrm ?_
 replace hg := hg.le hV55
 replace hr := hr.le hV55
 replace hb := hb.le hV55
 replace h50 := h50.le hV55
 clear hV55
 rw [c_r2] at h55
 refine At.zh (.q 0 (.n false 1 (.q 2 (.q 3 (.q 4 (.q 5 (.q 6 .done))))))) ?_
 refine AtT.zf ?_
 refine AtT.qa rfl rfl ok18 (praw_f rs2 8 1 _ _ hr) ?_
 rintro _ V60 hV60 ⟨u60, rfl, h60⟩; rw [c_r3E]
 refine AtT.zf ?_
 refine AtT.zt ?_
 refine AtT.zt ?_
 refine AtT.ze ?_
 refine AtT.ze ?_
 refine AtT.done ?_
 refine At.nrm ?_
 replace hg := hg.le hV60
 replace hr := hr.le hV60
 replace hb := hb.le hV60
 replace h50 := h50.le hV60
 replace h55 := h55.le hV60
 clear hV60
 clear h60
 refine At.zh (.q 0 (.n false 1 (.q 2 (.q 3 (.q 4 (.q 5 (.q 6 .done))))))) ?_
 first | refine AtT.zD zK ?_ | refine AtT.zI zK ?_ | refine AtT.zC zK ?_
 refine AtT.qa rfl rfl ok23 (pcounting_f bo6 6 _ _ hb) ?_
 rintro _ V65 hV65 ⟨u65, rfl, h65⟩; rw [c_n6E]
 refine AtT.zf ?_
 refine AtT.zt ?_
 refine AtT.zt ?_
 refine AtT.ze ?_
 refine AtT.ze ?_
 refine AtT.done ?_
 refine At.nrm ?_
 replace hg := hg.le hV65
 replace hr := hr.le hV65
 replace hb := hb.le hV65
 replace h50 := h50.le hV65
 replace h55 := h55.le hV65
 clear hV65
 rw [c_n6] at h65
 refine At.zh (.q 0 (.n false 1 (.q 2 (.q 3 (.q 4 (.q 5 (.q 6 .done))))))) ?_
 first | refine AtT.zD zK ?_ | refine AtT.zI zK ?_ | refine AtT.zC zK ?_
 refine AtT.qa rfl rfl ok23 (pcounting_f bo6 4 _ _ hb) ?_
 rintro _ V70 hV70 ⟨u70, rfl, h70⟩; rw [c_n4E]
 refine AtT.zf ?_
 refine AtT.zt ?_
 refine AtT.zt ?_
 refine AtT.ze ?_
 refine AtT.ze ?_
 refine AtT.done ?_
 refine At.nrm ?_
 replace hg := hg.le hV70
 replace hr := hr.le hV70
 replace hb := hb.le hV70
 replace h50 := h50.le hV70
 replace h55 := h55.le hV70
 replace h65 := h65.le hV70
 clear hV70
 rw [c_n4] at h70
 refine At.zh (.q 0 (.n false 1 (.q 2 (.q 3 (.q 4 (.q 5 (.q 6 .done))))))) ?_
 first | refine AtT.zD zK ?_ | refine AtT.zI zK ?_ | refine AtT.zC zK ?_
 refine AtT.qa rfl rfl ok23 (pcounting_f bo6 7 _ _ hb) ?_
 rintro _ V75 hV75 ⟨u75, rfl, h75⟩; rw [c_n7E]
 refine AtT.zf ?_
 refine AtT.zt ?_
 refine AtT.zt ?_
 refine AtT.ze ?_
 refine AtT.ze ?_
 refine AtT.done ?_
 refine At.nrm ?_
 replace hg := hg.le hV75
 replace hr := hr.le hV75
 replace hb := hb.le hV75
 replace h50 := h50.le hV75
 replace h55 := h55.le hV75
 replace h65 := h65.le hV75
 replace h70 := h70.le hV75
 clear hV75
 clear h75
 refine At.zh (.q 0 (.n false 1 (.q 2 (.q 3 (.q 4 (.q 5 (.q 6 .done))))))) ?_
 first | refine AtT.zD zK ?_ | refine AtT.zI zK ?_ | refine AtT.zC zK ?_
 refine AtT.qa rfl rfl ok31 (pstock_f bo6 6 9 _ _ hb) ?_
 rintro _ V80 hV80 ⟨u80, rfl, h80⟩; rw [c_s1E]
 refine AtT.zf ?_
 refine AtT.zt ?_
 refine AtT.zt ?_
 refine AtT.ze ?_
 refine AtT.ze ?_
 refine AtT.done ?_
 refine At.nrm ?_
 replace hg := hg.le hV80
 replace hr := hr.le hV80
 replace hb := hb.le hV80
 replace h50 := h50.le hV80
 replace h55 := h55.le hV80
 replace h65 := h65.le hV80
 replace h70 := h70.le hV80
 clear hV80
 rw [c_s1] at h80
 refine At.zh (.q 0 (.n false 1 (.q 2 (.q 3 (.q 4 (.q 5 (.q 6 .done))))))) ?_
 first | refine AtT.zD zK ?_ | refine AtT.zI zK ?_ | refine AtT.zC zK ?_
 refine AtT.qa rfl rfl ok31 (pstock_f bo6 4 9 _ _ hb) ?_
 rintro _ V85 hV85 ⟨u85, rfl, h85⟩; rw [c_s2E]
 refine AtT.zf ?_
 refine AtT.zt ?_
 refine AtT.zt ?_
 refine AtT.ze ?_
 refine AtT.ze ?_
 refine AtT.done ?_
 refine At.nrm ?_
 replace hg := hg.le hV85
 replace hr := hr.le hV85
 replace hb := hb.le hV85
 replace h50 := h50.le hV85
 replace h55 := h55.le hV85
 replace h65 := h65.le hV85
 replace h70 := h70.le hV85
 replace h80 := h80.le hV85
 clear hV85
 rw [c_s2] at h85
 refine At.zh (.q 0 (.n false 1 (.q 2 (.q 3 (.q 4 (.q 5 (.q 6 .done))))))) ?_
 first | refine AtT.zD zK ?_ | refine AtT.zI zK ?_ | refine AtT.zC zK ?_
 refine AtT.qa rfl rfl ok31 (pstock_f bo6 6 2 _ _ hb) ?_
 rintro _ V90 hV90 ⟨u90, rfl, h90⟩; rw [c_s3E]
 refine AtT.zf ?_
 refine AtT.zt ?_
 refine AtT.zt ?_
 refine AtT.ze ?_
 refine AtT.ze ?_
 refine AtT.done ?_
 refine At.nrm ?_
 replace hg := hg.le hV90
 replace hr := hr.le hV90
 replace hb := hb.le hV90
 replace h50 := h50.le hV90
 replace h55 := h55.le hV90
 replace h65 := h65.le hV90
 replace h70 := h70.le hV90
 replace h80 := h80.le hV90
 replace h85 := h85.le hV90
 clear hV90
 rw [c_s3] at h90
 refine At.cutG (ι := Nat × Option Addr × Nat × Nat × Option Addr × Nat) (fun g => [(1, v46), (2, .pointer (some ⟨b2, 0, none⟩)), (3, u50), (4, iv 0), (5, u55), (6, iv 0), (8, iv 2), (9, u65), (10, iv 0), (11, u70), (12, iv 0), (14, iv 2), (15, u80), (16, iv 0), (17, u85), (18, iv 0), (19, u90), (20, iv 0), (21, .pointer (some ⟨g.1, 0, none⟩)), (22, iv 0)]) (fun g => [.blk b2 (LC [.slice z47 q47.length y47, .slice a47 bo6.es.length c47] 26), .blk g.1 (LC [.slice g.2.1 g.2.2.1 g.2.2.2.1, .slice g.2.2.2.2.1 box.es.length g.2.2.2.2.2] 26)]) (fun g V'' => GvV V'' ∧ RsV V'' v46 rs2 ∧ BoV V'' (.agg #[.slice z47 q47.length y47, .slice a47 bo6.es.length c47]) bo6 ∧ SlI V'' u50 ([4, 2] ++ List.replicate 6 0) ∧ SlI V'' u55 ([4] ++ List.replicate 7 0) ∧ SlI V'' u65 [0, 1, 2, 4, 5] ∧ SlI V'' u70 [0, 1, 2, 3] ∧ SlI V'' u80 ([3, 2, 1, 1] ++ List.replicate 4 0) ∧ SlI V'' u85 ([3, 2, 2] ++ List.replicate 5 0) ∧ SlI V'' u90 ([3, 2, 3] ++ List.replicate 5 0) ∧ BoV V'' (.agg #[.slice g.2.1 g.2.2.1 g.2.2.2.1, .slice g.2.2.2.2.1 box.es.length g.2.2.2.2.2]) box) ?_ ?_
 ·refine At.draw (.q 0 (.two 1 (.two 2 (.q 3 (.q 4 (.q 5 (.n false 6 (.n false 7 (.q 8 .done)))))) 6 (.n false 2 (.q 3 (.q 4 (.q 5 (.n false 7 (.q 8 .done))))))) 6 (.n false 1 (.n false 2 (.q 3 (.q 4 (.q 5 (.n false 7 (.q 8 .done))))))))) ffm (by kernel_rfl) ?_
  refine AtC.start ?_
  refine AtC.pre (fun hle0 => ?_)
  refine AtC.kq (by (first | refine AtT.zD zK ?_ | refine AtT.zI zK ?_ | refine AtT.zC zK ?_); exact At.knows) ?_
  refine AtC.two ?_ ?_
  focus
   refine AtC.nz ?_
   refine AtT.zG rfl rfl ok44 (jy 6 4 4 0 _) ?_
   rintro _ rfl
   refine AtC.kgo ?_
   refine AtC.two ?_ ?_
   focus
    refine AtC.nz ?_
    refine AtT.qa rfl rfl ok25 (kr bo6 ⟨6, 4, 4, 0⟩ _ _ hb) ?_
    rintro _ V96 hV96 ⟨u96, rfl, hu96⟩; rw [c_a1]; rw [c_a1B] at hu96; replace hg := hg.le hV96; replace hr := hr.le hV96; replace hb := hb.le hV96; replace h50 := h50.le hV96; replace h55 := h55.le hV96; replace h65 := h65.le hV96; replace h70 := h70.le hV96; replace h80 := h80.le hV96; replace h85 := h85.le hV96; replace h90 := h90.le hV96; obtain ⟨w96, a96, c96, rfl, ⟨q96, z96, y96, e96, rfl, i96, j96⟩, hs96⟩ := id hu96; clear e96 i96 j96 hs96
    refine AtC.kgo ?_
    refine AtC.kq (by (refine AtT.zf ?_); exact At.knows) ?_
    refine AtC.kq (by (refine AtT.zt ?_); exact At.knows) ?_
    refine AtC.kq (by (refine AtT.zt ?_); exact At.knows) ?_
    refine AtC.nz ?_
    refine AtT.zT z26 ?_
    intro b21
    refine AtC.kgo ?_
    refine AtC.nz ?_
    refine AtT.zF zK ?_
    refine AtC.kgo ?_
    refine AtC.kq (by (refine AtT.ze ?_); exact At.knows) ?_
    refine AtC.done ?_
   rotate_right
   focus
    refine AtC.nz ?_
    refine AtT.zT z26 ?_
    intro b21
    refine AtC.kgo ?_
    refine AtC.nz ?_
    refine AtT.qa rfl rfl ok25 (kr bo6 ⟨6, 4, 4, 0⟩ _ _ hb) ?_
    rintro _ V96 hV96 ⟨u96, rfl, hu96⟩; rw [c_a1]; rw [c_a1B] at hu96; replace hg := hg.le hV96; replace hr := hr.le hV96; replace hb := hb.le hV96; replace h50 := h50.le hV96; replace h55 := h55.le hV96; replace h65 := h65.le hV96; replace h70 := h70.le hV96; replace h80 := h80.le hV96; replace h85 := h85.le hV96; replace h90 := h90.le hV96; obtain ⟨w96, a96, c96, rfl, ⟨q96, z96, y96, e96, rfl, i96, j96⟩, hs96⟩ := id hu96; clear e96 i96 j96 hs96
    refine AtC.kgo ?_
    refine AtC.kq (by (refine AtT.zf ?_); exact At.knows) ?_
    refine AtC.kq (by (refine AtT.zt ?_); exact At.knows) ?_
    refine AtC.kq (by (refine AtT.zt ?_); exact At.knows) ?_
    refine AtC.nz ?_
    refine AtT.zF zK ?_
    refine AtC.kgo ?_
    refine AtC.kq (by (refine AtT.ze ?_); exact At.knows) ?_
    refine AtC.done ?_
  rotate_right
  focus
   refine AtC.nz ?_
   refine AtT.zT z26 ?_
   intro b21
   refine AtC.kgo ?_
   refine AtC.nz ?_
   refine AtT.zG rfl rfl ok44 (jy 6 4 4 0 _) ?_
   rintro _ rfl
   refine AtC.kgo ?_
   refine AtC.nz ?_
   refine AtT.qa rfl rfl ok25 (kr bo6 ⟨6, 4, 4, 0⟩ _ _ hb) ?_
   rintro _ V96 hV96 ⟨u96, rfl, hu96⟩; rw [c_a1]; rw [c_a1B] at hu96; replace hg := hg.le hV96; replace hr := hr.le hV96; replace hb := hb.le hV96; replace h50 := h50.le hV96; replace h55 := h55.le hV96; replace h65 := h65.le hV96; replace h70 := h70.le hV96; replace h80 := h80.le hV96; replace h85 := h85.le hV96; replace h90 := h90.le hV96; obtain ⟨w96, a96, c96, rfl, ⟨q96, z96, y96, e96, rfl, i96, j96⟩, hs96⟩ := id hu96; clear e96 i96 j96 hs96
   refine AtC.kgo ?_
   refine AtC.kq (by (refine AtT.zf ?_); exact At.knows) ?_
   refine AtC.kq (by (refine AtT.zt ?_); exact At.knows) ?_
   refine AtC.kq (by (refine AtT.zt ?_); exact At.knows) ?_
   refine AtC.nz ?_
   refine AtT.zF zK ?_
   refine AtC.kgo ?_
   refine AtC.kq (by (refine AtT.ze ?_); exact At.knows) ?_
   refine AtC.done ?_
  all_goals (refine At.nrm ?_)
  all_goals exact At.kC (b21, z96, q96.length, y96, a96, c96) ⟨hg, hr, hb, h50, h55, h65, h70, h80, h85, h90, hu96⟩ ⟨rfl, rfl, rfl, rfl, rfl, rfl, rfl, rfl, rfl, rfl, rfl, rfl, rfl, rfl, rfl, rfl, rfl, rfl, rfl, rfl, trivial⟩ Pt.zH
 rintro ⟨b21, z96, n96, y96, a96, c96⟩ Vc11 ks' O' ⟨hg, hr, hb, h50, h55, h65, h70, h80, h85, h90, hu96⟩ hk hO hl11
 dsimp only at hk hO hu96
 subst hk hO
 refine At.nrm ?_
 refine At.cutG (ι := Unit) (fun _ => [(1, v46), (2, .pointer (some ⟨b2, 0, none⟩)), (3, u50), (4, iv 0), (5, u55), (6, iv 0), (8, iv 2), (9, u65), (10, iv 0), (11, u70), (12, iv 0), (14, iv 2), (15, u80), (16, iv 0), (17, u85), (18, iv 0), (19, u90), (20, iv 0), (21, .pointer (some ⟨b21, 0, none⟩)), (22, iv 0), (24, iv 28)]) (fun _ => [.blk b2 (LC [.slice z47 q47.length y47, .slice a47 bo6.es.length c47] 26), .blk b21 (LC [.slice z96 n96 y96, .slice a96 box.es.length c96] 26)]) (fun _ V'' => GvV V'' ∧ RsV V'' v46 rs2 ∧ BoV V'' (.agg #[.slice z47 q47.length y47, .slice a47 bo6.es.length c47]) bo6 ∧ SlI V'' u50 ([4, 2] ++ List.replicate 6 0) ∧ SlI V'' u55 ([4] ++ List.replicate 7 0) ∧ SlI V'' u65 [0, 1, 2, 4, 5] ∧ SlI V'' u70 [0, 1, 2, 3] ∧ SlI V'' u80 ([3, 2, 1, 1] ++ List.replicate 4 0) ∧ SlI V'' u85 ([3, 2, 2] ++ List.replicate 5 0) ∧ SlI V'' u90 ([3, 2, 3] ++ List.replicate 5 0) ∧ BoV V'' (.agg #[.slice z96 n96 y96, .slice a96 box.es.length c96]) box) ?_ ?_
 ·refine At.draw (.q 0 (.two 1 (.two 2 (.q 3 (.q 4 (.q 5 (.n false 6 (.n false 7 (.q 8 .done)))))) 6 (.n false 2 (.q 3 (.q 4 (.q 5 (.n false 7 (.q 8 .done))))))) 6 (.n false 1 (.n false 2 (.q 3 (.q 4 (.q 5 (.n false 7 (.q 8 .done))))))))) ffm (by kernel_rfl) ?_
  refine AtC.start ?_
  refine AtC.pre (fun hle0 => ?_)
  refine AtC.kq (by (first | refine AtT.zD zK ?_ | refine AtT.zI zK ?_ | refine AtT.zC zK ?_); exact At.knows) ?_
  refine AtC.two ?_ ?_
  focus
   refine AtC.nz ?_
   refine AtT.zG rfl rfl ok44 (jy 6 2 2 2 _) ?_
   rintro _ rfl
   refine AtC.kgo ?_
   refine AtC.two ?_ ?_
   focus
    refine AtC.nz ?_
    refine AtT.qa rfl rfl ok25 (kr bo6 ⟨6, 2, 2, 2⟩ _ _ hb) ?_
    rintro _ V102 hV102 ⟨u102, rfl, hu102⟩; rw [c_a2]; replace hg := hg.le hV102; replace hr := hr.le hV102; replace hb := hb.le hV102; replace h50 := h50.le hV102; replace h55 := h55.le hV102; replace h65 := h65.le hV102; replace h70 := h70.le hV102; replace h80 := h80.le hV102; replace h85 := h85.le hV102; replace h90 := h90.le hV102; replace hu96 := hu96.le hV102; obtain ⟨w102, a102, c102, rfl, ⟨q102, z102, y102, e102, rfl, i102, j102⟩, hs102⟩ := id hu102; clear e102 i102 j102 hs102
    refine AtC.kgo ?_
    refine AtC.kq (by (refine AtT.zf ?_); exact At.knows) ?_
    refine AtC.kq (by (refine AtT.zt ?_); exact At.knows) ?_
    refine AtC.kq (by (refine AtT.zt ?_); exact At.knows) ?_
    refine AtC.nz ?_
    refine AtT.zT z26 ?_
    intro b23
    refine AtC.kgo ?_
    refine AtC.nz ?_
    refine AtT.zF zK ?_
    refine AtC.kgo ?_
    refine AtC.kq (by (refine AtT.ze ?_); exact At.knows) ?_
    refine AtC.done ?_
   rotate_right
   focus
    refine AtC.nz ?_
    refine AtT.zT z26 ?_
    intro b23
    refine AtC.kgo ?_
    refine AtC.nz ?_
    refine AtT.qa rfl rfl ok25 (kr bo6 ⟨6, 2, 2, 2⟩ _ _ hb) ?_
    rintro _ V102 hV102 ⟨u102, rfl, hu102⟩; rw [c_a2]; replace hg := hg.le hV102; replace hr := hr.le hV102; replace hb := hb.le hV102; replace h50 := h50.le hV102; replace h55 := h55.le hV102; replace h65 := h65.le hV102; replace h70 := h70.le hV102; replace h80 := h80.le hV102; replace h85 := h85.le hV102; replace h90 := h90.le hV102; replace hu96 := hu96.le hV102; obtain ⟨w102, a102, c102, rfl, ⟨q102, z102, y102, e102, rfl, i102, j102⟩, hs102⟩ := id hu102; clear e102 i102 j102 hs102
    refine AtC.kgo ?_
    refine AtC.kq (by (refine AtT.zf ?_); exact At.knows) ?_
    refine AtC.kq (by (refine AtT.zt ?_); exact At.knows) ?_
    refine AtC.kq (by (refine AtT.zt ?_); exact At.knows) ?_
    refine AtC.nz ?_
    refine AtT.zF zK ?_
    refine AtC.kgo ?_
    refine AtC.kq (by (refine AtT.ze ?_); exact At.knows) ?_
    refine AtC.done ?_
  rotate_right
  focus
   refine AtC.nz ?_
   refine AtT.zT z26 ?_
   intro b23
   refine AtC.kgo ?_
   refine AtC.nz ?_
   refine AtT.zG rfl rfl ok44 (jy 6 2 2 2 _) ?_
   rintro _ rfl
   refine AtC.kgo ?_
   refine AtC.nz ?_
   refine AtT.qa rfl rfl ok25 (kr bo6 ⟨6, 2, 2, 2⟩ _ _ hb) ?_
   rintro _ V102 hV102 ⟨u102, rfl, hu102⟩; rw [c_a2]; replace hg := hg.le hV102; replace hr := hr.le hV102; replace hb := hb.le hV102; replace h50 := h50.le hV102; replace h55 := h55.le hV102; replace h65 := h65.le hV102; replace h70 := h70.le hV102; replace h80 := h80.le hV102; replace h85 := h85.le hV102; replace h90 := h90.le hV102; replace hu96 := hu96.le hV102; obtain ⟨w102, a102, c102, rfl, ⟨q102, z102, y102, e102, rfl, i102, j102⟩, hs102⟩ := id hu102; clear e102 i102 j102 hs102
   refine AtC.kgo ?_
   refine AtC.kq (by (refine AtT.zf ?_); exact At.knows) ?_
   refine AtC.kq (by (refine AtT.zt ?_); exact At.knows) ?_
   refine AtC.kq (by (refine AtT.zt ?_); exact At.knows) ?_
   refine AtC.nz ?_
   refine AtT.zF zK ?_
   refine AtC.kgo ?_
   refine AtC.kq (by (refine AtT.ze ?_); exact At.knows) ?_
   refine AtC.done ?_
  all_goals (refine At.nrm ?_)
  all_goals exact At.kC () ⟨hg, hr, hb, h50, h55, h65, h70, h80, h85, h90, hu96⟩ ⟨rfl, rfl, rfl, rfl, rfl, rfl, rfl, rfl, rfl, rfl, rfl, rfl, rfl, rfl, rfl, rfl, rfl, rfl, rfl, rfl, rfl, trivial⟩ Pt.zH
 rintro - Vc12 ks' O' ⟨hg, hr, hb, h50, h55, h65, h70, h80, h85, h90, hu96⟩ hk hO hl12
 subst hk hO
 refine At.nrm ?_
 refine At.cutG (ι := Unit) (fun _ => [(1, v46), (2, .pointer (some ⟨b2, 0, none⟩)), (3, u50), (4, iv 0), (5, u55), (6, iv 0), (8, iv 2), (9, u65), (10, iv 0), (11, u70), (12, iv 0), (14, iv 2), (15, u80), (16, iv 0), (17, u85), (18, iv 0), (19, u90), (20, iv 0), (21, .pointer (some ⟨b21, 0, none⟩)), (22, iv 0), (24, iv 28), (26, iv 12)]) (fun _ => [.blk b2 (LC [.slice z47 q47.length y47, .slice a47 bo6.es.length c47] 26), .blk b21 (LC [.slice z96 n96 y96, .slice a96 box.es.length c96] 26)]) (fun _ V'' => GvV V'' ∧ RsV V'' v46 rs2 ∧ BoV V'' (.agg #[.slice z47 q47.length y47, .slice a47 bo6.es.length c47]) bo6 ∧ SlI V'' u50 ([4, 2] ++ List.replicate 6 0) ∧ SlI V'' u55 ([4] ++ List.replicate 7 0) ∧ SlI V'' u65 [0, 1, 2, 4, 5] ∧ SlI V'' u70 [0, 1, 2, 3] ∧ SlI V'' u80 ([3, 2, 1, 1] ++ List.replicate 4 0) ∧ SlI V'' u85 ([3, 2, 2] ++ List.replicate 5 0) ∧ SlI V'' u90 ([3, 2, 3] ++ List.replicate 5 0) ∧ BoV V'' (.agg #[.slice z96 n96 y96, .slice a96 box.es.length c96]) box) ?_ ?_
 ·refine At.draw (.q 0 (.two 1 (.two 2 (.q 3 (.q 4 (.q 5 (.n false 6 (.n false 7 (.q 8 .done)))))) 6 (.n false 2 (.q 3 (.q 4 (.q 5 (.n false 7 (.q 8 .done))))))) 6 (.n false 1 (.n false 2 (.q 3 (.q 4 (.q 5 (.n false 7 (.q 8 .done))))))))) ffm (by kernel_rfl) ?_
  refine AtC.start ?_
  refine AtC.pre (fun hle0 => ?_)
  refine AtC.kq (by (first | refine AtT.zD zK ?_ | refine AtT.zI zK ?_ | refine AtT.zC zK ?_); exact At.knows) ?_
  refine AtC.two ?_ ?_
  focus
   refine AtC.nz ?_
   refine AtT.zG rfl rfl ok44 (jy 4 1 0 1 _) ?_
   rintro _ rfl
   refine AtC.kgo ?_
   refine AtC.two ?_ ?_
   focus
    refine AtC.nz ?_
    refine AtT.qa rfl rfl ok25 (kr bo6 ⟨4, 1, 0, 1⟩ _ _ hb) ?_
    rintro _ V108 hV108 ⟨u108, rfl, hu108⟩; rw [c_a3]; replace hg := hg.le hV108; replace hr := hr.le hV108; replace hb := hb.le hV108; replace h50 := h50.le hV108; replace h55 := h55.le hV108; replace h65 := h65.le hV108; replace h70 := h70.le hV108; replace h80 := h80.le hV108; replace h85 := h85.le hV108; replace h90 := h90.le hV108; replace hu96 := hu96.le hV108; obtain ⟨w108, a108, c108, rfl, ⟨q108, z108, y108, e108, rfl, i108, j108⟩, hs108⟩ := id hu108; clear e108 i108 j108 hs108
    refine AtC.kgo ?_
    refine AtC.kq (by (refine AtT.zf ?_); exact At.knows) ?_
    refine AtC.kq (by (refine AtT.zt ?_); exact At.knows) ?_
    refine AtC.kq (by (refine AtT.zt ?_); exact At.knows) ?_
    refine AtC.nz ?_
    refine AtT.zT z26 ?_
    intro b25
    refine AtC.kgo ?_
    refine AtC.nz ?_
    refine AtT.zF zK ?_
    refine AtC.kgo ?_
    refine AtC.kq (by (refine AtT.ze ?_); exact At.knows) ?_
    refine AtC.done ?_
   rotate_right
   focus
    refine AtC.nz ?_
    refine AtT.zT z26 ?_
    intro b25
    refine AtC.kgo ?_
    refine AtC.nz ?_
    refine AtT.qa rfl rfl ok25 (kr bo6 ⟨4, 1, 0, 1⟩ _ _ hb) ?_
    rintro _ V108 hV108 ⟨u108, rfl, hu108⟩; rw [c_a3]; replace hg := hg.le hV108; replace hr := hr.le hV108; replace hb := hb.le hV108; replace h50 := h50.le hV108; replace h55 := h55.le hV108; replace h65 := h65.le hV108; replace h70 := h70.le hV108; replace h80 := h80.le hV108; replace h85 := h85.le hV108; replace h90 := h90.le hV108; replace hu96 := hu96.le hV108; obtain ⟨w108, a108, c108, rfl, ⟨q108, z108, y108, e108, rfl, i108, j108⟩, hs108⟩ := id hu108; clear e108 i108 j108 hs108
    refine AtC.kgo ?_
    refine AtC.kq (by (refine AtT.zf ?_); exact At.knows) ?_
    refine AtC.kq (by (refine AtT.zt ?_); exact At.knows) ?_
    refine AtC.kq (by (refine AtT.zt ?_); exact At.knows) ?_
    refine AtC.nz ?_
    refine AtT.zF zK ?_
    refine AtC.kgo ?_
    refine AtC.kq (by (refine AtT.ze ?_); exact At.knows) ?_
    refine AtC.done ?_
  rotate_right
  focus
   refine AtC.nz ?_
   refine AtT.zT z26 ?_
   intro b25
   refine AtC.kgo ?_
   refine AtC.nz ?_
   refine AtT.zG rfl rfl ok44 (jy 4 1 0 1 _) ?_
   rintro _ rfl
   refine AtC.kgo ?_
   refine AtC.nz ?_
   refine AtT.qa rfl rfl ok25 (kr bo6 ⟨4, 1, 0, 1⟩ _ _ hb) ?_
   rintro _ V108 hV108 ⟨u108, rfl, hu108⟩; rw [c_a3]; replace hg := hg.le hV108; replace hr := hr.le hV108; replace hb := hb.le hV108; replace h50 := h50.le hV108; replace h55 := h55.le hV108; replace h65 := h65.le hV108; replace h70 := h70.le hV108; replace h80 := h80.le hV108; replace h85 := h85.le hV108; replace h90 := h90.le hV108; replace hu96 := hu96.le hV108; obtain ⟨w108, a108, c108, rfl, ⟨q108, z108, y108, e108, rfl, i108, j108⟩, hs108⟩ := id hu108; clear e108 i108 j108 hs108
   refine AtC.kgo ?_
   refine AtC.kq (by (refine AtT.zf ?_); exact At.knows) ?_
   refine AtC.kq (by (refine AtT.zt ?_); exact At.knows) ?_
   refine AtC.kq (by (refine AtT.zt ?_); exact At.knows) ?_
   refine AtC.nz ?_
   refine AtT.zF zK ?_
   refine AtC.kgo ?_
   refine AtC.kq (by (refine AtT.ze ?_); exact At.knows) ?_
   refine AtC.done ?_
  all_goals (refine At.nrm ?_)
  all_goals exact At.kC () ⟨hg, hr, hb, h50, h55, h65, h70, h80, h85, h90, hu96⟩ ⟨rfl, rfl, rfl, rfl, rfl, rfl, rfl, rfl, rfl, rfl, rfl, rfl, rfl, rfl, rfl, rfl, rfl, rfl, rfl, rfl, rfl, rfl, trivial⟩ Pt.zH
 rintro - Vc13 ks' O' ⟨hg, hr, hb, h50, h55, h65, h70, h80, h85, h90, hu96⟩ hk hO hl13
 subst hk hO
 refine At.nrm ?_
 refine At.cutG (ι := Unit) (fun _ => [(1, v46), (2, .pointer (some ⟨b2, 0, none⟩)), (3, u50), (4, iv 0), (5, u55), (6, iv 0), (8, iv 2), (9, u65), (10, iv 0), (11, u70), (12, iv 0), (14, iv 2), (15, u80), (16, iv 0), (17, u85), (18, iv 0), (19, u90), (20, iv 0), (21, .pointer (some ⟨b21, 0, none⟩)), (22, iv 0), (24, iv 28), (26, iv 12), (28, iv 16)]) (fun _ => [.blk b2 (LC [.slice z47 q47.length y47, .slice a47 bo6.es.length c47] 26), .blk b21 (LC [.slice z96 n96 y96, .slice a96 box.es.length c96] 26)]) (fun _ V'' => GvV V'' ∧ RsV V'' v46 rs2 ∧ BoV V'' (.agg #[.slice z47 q47.length y47, .slice a47 bo6.es.length c47]) bo6 ∧ SlI V'' u50 ([4, 2] ++ List.replicate 6 0) ∧ SlI V'' u55 ([4] ++ List.replicate 7 0) ∧ SlI V'' u65 [0, 1, 2, 4, 5] ∧ SlI V'' u70 [0, 1, 2, 3] ∧ SlI V'' u80 ([3, 2, 1, 1] ++ List.replicate 4 0) ∧ SlI V'' u85 ([3, 2, 2] ++ List.replicate 5 0) ∧ SlI V'' u90 ([3, 2, 3] ++ List.replicate 5 0) ∧ BoV V'' (.agg #[.slice z96 n96 y96, .slice a96 box.es.length c96]) box) ?_ ?_
 ·refine At.draw (.q 0 (.two 1 (.two 2 (.q 3 (.q 4 (.q 5 (.n false 6 (.n false 7 (.q 8 .done)))))) 6 (.n false 2 (.q 3 (.q 4 (.q 5 (.n false 7 (.q 8 .done))))))) 6 (.n false 1 (.n false 2 (.q 3 (.q 4 (.q 5 (.n false 7 (.q 8 .done))))))))) ffm (by kernel_rfl) ?_
  refine AtC.start ?_
  refine AtC.pre (fun hle0 => ?_)
  refine AtC.kq (by (first | refine AtT.zD zK ?_ | refine AtT.zI zK ?_ | refine AtT.zC zK ?_); exact At.knows) ?_
  refine AtC.two ?_ ?_
  focus
   refine AtC.nz ?_
   refine AtT.zG rfl rfl ok44 (jy 6 3 4 1 _) ?_
   rintro _ rfl
   refine AtC.kgo ?_
   refine AtC.two ?_ ?_
   focus
    refine AtC.nz ?_
    refine AtT.qa rfl rfl ok25 (kr bo6 ⟨6, 3, 4, 1⟩ _ _ hb) ?_
    rintro _ V114 hV114 ⟨u114, rfl, hu114⟩; rw [c_a4]; replace hg := hg.le hV114; replace hr := hr.le hV114; replace hb := hb.le hV114; replace h50 := h50.le hV114; replace h55 := h55.le hV114; replace h65 := h65.le hV114; replace h70 := h70.le hV114; replace h80 := h80.le hV114; replace h85 := h85.le hV114; replace h90 := h90.le hV114; replace hu96 := hu96.le hV114; obtain ⟨w114, a114, c114, rfl, ⟨q114, z114, y114, e114, rfl, i114, j114⟩, hs114⟩ := id hu114; clear e114 i114 j114 hs114
    refine AtC.kgo ?_
    refine AtC.kq (by (refine AtT.zf ?_); exact At.knows) ?_
    refine AtC.kq (by (refine AtT.zt ?_); exact At.knows) ?_
    refine AtC.kq (by (refine AtT.zt ?_); exact At.knows) ?_
    refine AtC.nz ?_
    refine AtT.zT z26 ?_
    intro b27
    refine AtC.kgo ?_
    refine AtC.nz ?_
    refine AtT.zF zK ?_
    refine AtC.kgo ?_
    refine AtC.kq (by (refine AtT.ze ?_); exact At.knows) ?_
    refine AtC.done ?_
   rotate_right
   focus
    refine AtC.nz ?_
    refine AtT.zT z26 ?_
    intro b27
    refine AtC.kgo ?_
    refine AtC.nz ?_
    refine AtT.qa rfl rfl ok25 (kr bo6 ⟨6, 3, 4, 1⟩ _ _ hb) ?_
    rintro _ V114 hV114 ⟨u114, rfl, hu114⟩; rw [c_a4]; replace hg := hg.le hV114; replace hr := hr.le hV114; replace hb := hb.le hV114; replace h50 := h50.le hV114; replace h55 := h55.le hV114; replace h65 := h65.le hV114; replace h70 := h70.le hV114; replace h80 := h80.le hV114; replace h85 := h85.le hV114; replace h90 := h90.le hV114; replace hu96 := hu96.le hV114; obtain ⟨w114, a114, c114, rfl, ⟨q114, z114, y114, e114, rfl, i114, j114⟩, hs114⟩ := id hu114; clear e114 i114 j114 hs114
    refine AtC.kgo ?_
    refine AtC.kq (by (refine AtT.zf ?_); exact At.knows) ?_
    refine AtC.kq (by (refine AtT.zt ?_); exact At.knows) ?_
    refine AtC.kq (by (refine AtT.zt ?_); exact At.knows) ?_
    refine AtC.nz ?_
    refine AtT.zF zK ?_
    refine AtC.kgo ?_
    refine AtC.kq (by (refine AtT.ze ?_); exact At.knows) ?_
    refine AtC.done ?_
  rotate_right
  focus
   refine AtC.nz ?_
   refine AtT.zT z26 ?_
   intro b27
   refine AtC.kgo ?_
   refine AtC.nz ?_
   refine AtT.zG rfl rfl ok44 (jy 6 3 4 1 _) ?_
   rintro _ rfl
   refine AtC.kgo ?_
   refine AtC.nz ?_
   refine AtT.qa rfl rfl ok25 (kr bo6 ⟨6, 3, 4, 1⟩ _ _ hb) ?_
   rintro _ V114 hV114 ⟨u114, rfl, hu114⟩; rw [c_a4]; replace hg := hg.le hV114; replace hr := hr.le hV114; replace hb := hb.le hV114; replace h50 := h50.le hV114; replace h55 := h55.le hV114; replace h65 := h65.le hV114; replace h70 := h70.le hV114; replace h80 := h80.le hV114; replace h85 := h85.le hV114; replace h90 := h90.le hV114; replace hu96 := hu96.le hV114; obtain ⟨w114, a114, c114, rfl, ⟨q114, z114, y114, e114, rfl, i114, j114⟩, hs114⟩ := id hu114; clear e114 i114 j114 hs114
   refine AtC.kgo ?_
   refine AtC.kq (by (refine AtT.zf ?_); exact At.knows) ?_
   refine AtC.kq (by (refine AtT.zt ?_); exact At.knows) ?_
   refine AtC.kq (by (refine AtT.zt ?_); exact At.knows) ?_
   refine AtC.nz ?_
   refine AtT.zF zK ?_
   refine AtC.kgo ?_
   refine AtC.kq (by (refine AtT.ze ?_); exact At.knows) ?_
   refine AtC.done ?_
  all_goals (refine At.nrm ?_)
  all_goals exact At.kC () ⟨hg, hr, hb, h50, h55, h65, h70, h80, h85, h90, hu96⟩ ⟨rfl, rfl, rfl, rfl, rfl, rfl, rfl, rfl, rfl, rfl, rfl, rfl, rfl, rfl, rfl, rfl, rfl, rfl, rfl, rfl, rfl, rfl, rfl, trivial⟩ Pt.zH
 rintro - Vc14 ks' O' ⟨hg, hr, hb, h50, h55, h65, h70, h80, h85, h90, hu96⟩ hk hO hl14
 subst hk hO
 refine At.nrm ?_
 refine At.cutG (ι := Unit) (fun _ => [(1, v46), (2, .pointer (some ⟨b2, 0, none⟩)), (3, u50), (4, iv 0), (5, u55), (6, iv 0), (8, iv 2), (9, u65), (10, iv 0), (11, u70), (12, iv 0), (14, iv 2), (15, u80), (16, iv 0), (17, u85), (18, iv 0), (19, u90), (20, iv 0), (21, .pointer (some ⟨b21, 0, none⟩)), (22, iv 0), (24, iv 28), (26, iv 12), (28, iv 16), (30, iv 2)]) (fun _ => [.blk b2 (LC [.slice z47 q47.length y47, .slice a47 bo6.es.length c47] 26), .blk b21 (LC [.slice z96 n96 y96, .slice a96 box.es.length c96] 26)]) (fun _ V'' => GvV V'' ∧ RsV V'' v46 rs2 ∧ BoV V'' (.agg #[.slice z47 q47.length y47, .slice a47 bo6.es.length c47]) bo6 ∧ SlI V'' u50 ([4, 2] ++ List.replicate 6 0) ∧ SlI V'' u55 ([4] ++ List.replicate 7 0) ∧ SlI V'' u65 [0, 1, 2, 4, 5] ∧ SlI V'' u70 [0, 1, 2, 3] ∧ SlI V'' u80 ([3, 2, 1, 1] ++ List.replicate 4 0) ∧ SlI V'' u85 ([3, 2, 2] ++ List.replicate 5 0) ∧ SlI V'' u90 ([3, 2, 3] ++ List.replicate 5 0) ∧ BoV V'' (.agg #[.slice z96 n96 y96, .slice a96 box.es.length c96]) box) ?_ ?_
 ·refine At.draw (.q 0 (.two 1 (.two 2 (.q 3 (.q 4 (.q 5 (.n false 6 (.n false 7 (.q 8 .done)))))) 6 (.n false 2 (.q 3 (.q 4 (.q 5 (.n false 7 (.q 8 .done))))))) 6 (.n false 1 (.n false 2 (.q 3 (.q 4 (.q 5 (.n false 7 (.q 8 .done))))))))) ffm (by kernel_rfl) ?_
  refine AtC.start ?_
  refine AtC.pre (fun hle0 => ?_)
  refine AtC.kq (by (first | refine AtT.zD zK ?_ | refine AtT.zI zK ?_ | refine AtT.zC zK ?_); exact At.knows) ?_
  refine AtC.two ?_ ?_
  focus
   refine AtC.nz ?_
   refine AtT.zG rfl rfl ok44 (jy 6 4 6 0 _) ?_
   rintro _ rfl
   refine AtC.kgo ?_
   refine AtC.two ?_ ?_
   focus
    refine AtC.nz ?_
    refine AtT.qa rfl rfl ok25 (kr bo6 ⟨6, 4, 6, 0⟩ _ _ hb) ?_
    rintro _ V120 hV120 ⟨u120, rfl, hu120⟩; rw [c_a5]; replace hg := hg.le hV120; replace hr := hr.le hV120; replace hb := hb.le hV120; replace h50 := h50.le hV120; replace h55 := h55.le hV120; replace h65 := h65.le hV120; replace h70 := h70.le hV120; replace h80 := h80.le hV120; replace h85 := h85.le hV120; replace h90 := h90.le hV120; replace hu96 := hu96.le hV120; obtain ⟨w120, a120, c120, rfl, ⟨q120, z120, y120, e120, rfl, i120, j120⟩, hs120⟩ := id hu120; clear e120 i120 j120 hs120
    refine AtC.kgo ?_
    refine AtC.kq (by (refine AtT.zf ?_); exact At.knows) ?_
    refine AtC.kq (by (refine AtT.zt ?_); exact At.knows) ?_
    refine AtC.kq (by (refine AtT.zt ?_); exact At.knows) ?_
    refine AtC.nz ?_
    refine AtT.zT z26 ?_
    intro b29
    refine AtC.kgo ?_
    refine AtC.nz ?_
    refine AtT.zF zK ?_
    refine AtC.kgo ?_
    refine AtC.kq (by (refine AtT.ze ?_); exact At.knows) ?_
    refine AtC.done ?_
   rotate_right
   focus
    refine AtC.nz ?_
    refine AtT.zT z26 ?_
    intro b29
    refine AtC.kgo ?_
    refine AtC.nz ?_
    refine AtT.qa rfl rfl ok25 (kr bo6 ⟨6, 4, 6, 0⟩ _ _ hb) ?_
    rintro _ V120 hV120 ⟨u120, rfl, hu120⟩; rw [c_a5]; replace hg := hg.le hV120; replace hr := hr.le hV120; replace hb := hb.le hV120; replace h50 := h50.le hV120; replace h55 := h55.le hV120; replace h65 := h65.le hV120; replace h70 := h70.le hV120; replace h80 := h80.le hV120; replace h85 := h85.le hV120; replace h90 := h90.le hV120; replace hu96 := hu96.le hV120; obtain ⟨w120, a120, c120, rfl, ⟨q120, z120, y120, e120, rfl, i120, j120⟩, hs120⟩ := id hu120; clear e120 i120 j120 hs120
    refine AtC.kgo ?_
    refine AtC.kq (by (refine AtT.zf ?_); exact At.knows) ?_
    refine AtC.kq (by (refine AtT.zt ?_); exact At.knows) ?_
    refine AtC.kq (by (refine AtT.zt ?_); exact At.knows) ?_
    refine AtC.nz ?_
    refine AtT.zF zK ?_
    refine AtC.kgo ?_
    refine AtC.kq (by (refine AtT.ze ?_); exact At.knows) ?_
    refine AtC.done ?_
  rotate_right
  focus
   refine AtC.nz ?_
   refine AtT.zT z26 ?_
   intro b29
   refine AtC.kgo ?_
   refine AtC.nz ?_
   refine AtT.zG rfl rfl ok44 (jy 6 4 6 0 _) ?_
   rintro _ rfl
   refine AtC.kgo ?_
   refine AtC.nz ?_
   refine AtT.qa rfl rfl ok25 (kr bo6 ⟨6, 4, 6, 0⟩ _ _ hb) ?_
   rintro _ V120 hV120 ⟨u120, rfl, hu120⟩; rw [c_a5]; replace hg := hg.le hV120; replace hr := hr.le hV120; replace hb := hb.le hV120; replace h50 := h50.le hV120; replace h55 := h55.le hV120; replace h65 := h65.le hV120; replace h70 := h70.le hV120; replace h80 := h80.le hV120; replace h85 := h85.le hV120; replace h90 := h90.le hV120; replace hu96 := hu96.le hV120; obtain ⟨w120, a120, c120, rfl, ⟨q120, z120, y120, e120, rfl, i120, j120⟩, hs120⟩ := id hu120; clear e120 i120 j120 hs120
   refine AtC.kgo ?_
   refine AtC.kq (by (refine AtT.zf ?_); exact At.knows) ?_
   refine AtC.kq (by (refine AtT.zt ?_); exact At.knows) ?_
   refine AtC.kq (by (refine AtT.zt ?_); exact At.knows) ?_
   refine AtC.nz ?_
   refine AtT.zF zK ?_
   refine AtC.kgo ?_
   refine AtC.kq (by (refine AtT.ze ?_); exact At.knows) ?_
   refine AtC.done ?_
  all_goals (refine At.nrm ?_)
  all_goals exact At.kC () ⟨hg, hr, hb, h50, h55, h65, h70, h80, h85, h90, hu96⟩ ⟨rfl, rfl, rfl, rfl, rfl, rfl, rfl, rfl, rfl, rfl, rfl, rfl, rfl, rfl, rfl, rfl, rfl, rfl, rfl, rfl, rfl, rfl, rfl, rfl, trivial⟩ Pt.zH
 rintro - Vc15 ks' O' ⟨hg, hr, hb, h50, h55, h65, h70, h80, h85, h90, hu96⟩ hk hO hl15
 subst hk hO
 refine At.nrm ?_
 refine At.zh (.q 0 (.n false 1 (.q 2 (.q 3 (.q 4 (.q 5 (.q 6 .done))))))) ?_
 first | refine AtT.zD zK ?_ | refine AtT.zI zK ?_ | refine AtT.zC zK ?_
 refine AtT.zG rfl rfl ok33 (pmost_f bo6 2 _ _ hb) ?_
 rintro _ rfl; rw [c_m1, c_m1E]
 refine AtT.zf ?_
 refine AtT.zt ?_
 refine AtT.zt ?_
 refine AtT.ze ?_
 refine AtT.ze ?_
 refine AtT.done ?_
 refine At.nrm ?_
 refine At.zh (.q 0 (.n false 1 (.q 2 (.q 3 (.q 4 (.q 5 (.q 6 .done))))))) ?_
 first | refine AtT.zD zK ?_ | refine AtT.zI zK ?_ | refine AtT.zC zK ?_
 refine AtT.zG rfl rfl ok33 (pmost_f bo6 3 _ _ hb) ?_
 rintro _ rfl; rw [c_m2, c_m2E]
 refine AtT.zf ?_
 refine AtT.zt ?_
 refine AtT.zt ?_
 refine AtT.ze ?_
 refine AtT.ze ?_
 refine AtT.done ?_
 refine At.nrm ?_
 refine At.zh (.q 0 (.n false 1 (.q 2 (.q 3 (.q 4 (.q 5 (.q 6 .done))))))) ?_
 first | refine AtT.zD zK ?_ | refine AtT.zI zK ?_ | refine AtT.zC zK ?_
 refine AtT.zG rfl rfl ok33 (pmost_f bo6 0 _ _ hb) ?_
 rintro _ rfl; rw [c_m3E]
 refine AtT.zf ?_
 refine AtT.zt ?_
 refine AtT.zt ?_
 refine AtT.ze ?_
 refine AtT.ze ?_
 refine AtT.done ?_
 refine At.nrm ?_
 refine At.zh (.n false 0 (.q 1 (.q 2 (.q 3 (.q 4 (.q 5 .done)))))) ?_
 refine AtT.zG rfl rfl ok35 (pcheck_f [97] (by decide) _ hg) ?_
 rintro _ rfl; rw [if_neg (by decide), if_neg (by decide), c_k1]
 refine AtT.zf ?_
 refine AtT.zt ?_
 refine AtT.zt ?_
 refine AtT.ze ?_
 refine AtT.ze ?_
 refine AtT.done ?_
 refine At.nrm ?_
 refine At.zh (.n false 0 (.q 1 (.q 2 (.q 3 (.q 4 (.q 5 .done)))))) ?_
 refine AtT.zG rfl rfl ok35 (pcheck_f [114, 32, 50, 32, 48, 32, 50, 32, 49, 32, 49, 10, 114, 32, 51, 32, 50, 32, 50, 10] (by decide) _ hg) ?_
 rintro _ rfl; rw [if_neg (by decide), if_neg (by decide), c_k2]
 refine AtT.zf ?_
 refine AtT.zt ?_
 refine AtT.zt ?_
 refine AtT.ze ?_
 refine AtT.ze ?_
 refine AtT.done ?_
 refine At.nrm ?_
 refine At.zh (.q 0 (.n false 1 (.q 2 (.q 3 (.q 4 (.q 5 (.q 6 .done))))))) ?_
 first | refine AtT.zD zK ?_ | refine AtT.zI zK ?_ | refine AtT.zC zK ?_
 refine AtT.zG rfl rfl ok37 (file_f bo6 _ hg _ hb) ?_
 rintro _ rfl; rw [c_b, if_pos rfl]
 refine AtT.zf ?_
 refine AtT.zt ?_
 refine AtT.zt ?_
 refine AtT.ze ?_
 refine AtT.ze ?_
 refine AtT.done ?_
 refine At.nrm ?_
 refine At.zh (.q 0 (.q 1 (.q 2 (.q 3 (.q 4 (.q 5 (.q 6 (.q 7 (.q 8 (.q 9 (.q 10 (.q 11 (.q 12 (.q 13 (.q 14 (.q 15 (.q 16 (.q 17 (.q 18 (.q 19 (.q 20 (.q 21 (.q 22 (.q 23 (.q 24 (.q 25 (.q 26 (.q 27 (.q 28 (.q 29 (.q 30 (.q 31 (.q 32 (.q 33 (.q 34 (.q 35 (.q 36 (.q 37 (.q 38 (.q 39 (.q 40 (.q 41 (.q 42 (.q 43 (.q 44 (.q 45 (.q 46 (.q 47 (.q 48 (.q 49 (.q 50 (.q 51 (.q 52 (.q 53 (.q 54 (.q 55 (.q 56 (.q 57 (.q 58 (.q 59 (.q 60 (.q 61 (.q 62 (.q 63 (.q 64 (.q 65 (.q 66 (.q 67 (.q 68 (.q 69 (.q 70 (.q 71 (.q 72 (.q 73 (.q 74 (.q 75 (.q 76 (.q 77 (.q 78 (.q 79 (.q 80 (.q 81 (.q 82 .done))))))))))))))))))))))))))))))))))))))))))))))))))))))))))))))))))))))))))))))))))) ?_
 refine AtT.zf ?_
 refine AtT.qH ?_
 refine AtT.zU (d := 152) rfl ((fun h => h rfl)) ?_
 refine AtT.zf ?_
 all_goals (first | refine AtT.kL 153 ?_ | refine AtT.zA (d := 153) rfl (fun hg153 => ?_) (fun hg153 => ?_) | refine AtT.zz (d := 153) rfl (fun hg153 => ?_) (fun hg153 => ?_))
 all_goals first|refine AtT.zi ?_|refine AtT.zg ?_|(refine AtT.zf ?_)
 all_goals first|refine AtT.zi ?_|refine AtT.zg ?_|(refine AtT.qH ?_)
 all_goals (refine AtT.zU (d := 155) rfl ((fun h => h rfl)) ?_)
 all_goals (refine AtT.zB ?_)
 all_goals (refine AtT.zf ?_)
 all_goals (first | refine AtT.kL 157 ?_ | refine AtT.zA (d := 157) rfl (fun hg157 => ?_) (fun hg157 => ?_) | refine AtT.zz (d := 157) rfl (fun hg157 => ?_) (fun hg157 => ?_))
 all_goals first|refine AtT.zi ?_|refine AtT.zg ?_|(refine AtT.zf ?_)
 all_goals first|refine AtT.zi ?_|refine AtT.zg ?_|(refine AtT.qH ?_)
 all_goals (refine AtT.zU (d := 159) rfl ((fun h => h rfl)) ?_)
 all_goals (refine AtT.zB ?_)
 all_goals (refine AtT.zf ?_)
 all_goals (first | refine AtT.kL 161 ?_ | refine AtT.zA (d := 161) rfl (fun hg161 => ?_) (fun hg161 => ?_) | refine AtT.zz (d := 161) rfl (fun hg161 => ?_) (fun hg161 => ?_))
 all_goals first|refine AtT.zi ?_|refine AtT.zg ?_|(refine AtT.zf ?_)
 all_goals first|refine AtT.zi ?_|refine AtT.zg ?_|(refine AtT.qH ?_)
 all_goals (refine AtT.zU (d := 163) rfl ((fun h => h rfl)) ?_)
 all_goals (refine AtT.zB ?_)
 all_goals (refine AtT.zf ?_)
 all_goals (first | refine AtT.kL 165 ?_ | refine AtT.zA (d := 165) rfl (fun hg165 => ?_) (fun hg165 => ?_) | refine AtT.zz (d := 165) rfl (fun hg165 => ?_) (fun hg165 => ?_))
 all_goals first|refine AtT.zi ?_|refine AtT.zg ?_|(refine AtT.zf ?_)
 all_goals first|refine AtT.zi ?_|refine AtT.zg ?_|(refine AtT.qH ?_)
 all_goals (refine AtT.zU (d := 167) rfl ((fun h => h rfl)) ?_)
 all_goals (refine AtT.zB ?_)
 all_goals (refine AtT.zf ?_)
 all_goals (first | refine AtT.kL 169 ?_ | refine AtT.zA (d := 169) rfl (fun hg169 => ?_) (fun hg169 => ?_) | refine AtT.zz (d := 169) rfl (fun hg169 => ?_) (fun hg169 => ?_))
 all_goals first|refine AtT.zi ?_|refine AtT.zg ?_|(refine AtT.zf ?_)
 all_goals first|refine AtT.zi ?_|refine AtT.zg ?_|(refine AtT.qH ?_)
 all_goals (refine AtT.zU (d := 171) rfl ((fun h => h rfl)) ?_)
 all_goals (refine AtT.zB ?_)
 all_goals (refine AtT.zf ?_)
 all_goals (first | refine AtT.kL 173 ?_ | refine AtT.zA (d := 173) rfl (fun hg173 => ?_) (fun hg173 => ?_) | refine AtT.zz (d := 173) rfl (fun hg173 => ?_) (fun hg173 => ?_))
 all_goals first|refine AtT.zi ?_|refine AtT.zg ?_|(refine AtT.zf ?_)
 all_goals first|refine AtT.zi ?_|refine AtT.zg ?_|(refine AtT.qH ?_)
 all_goals (refine AtT.zU (d := 175) rfl ((fun h => h rfl)) ?_)
 all_goals (refine AtT.zB ?_)
 all_goals (refine AtT.zf ?_)
 all_goals (first | refine AtT.kL 177 ?_ | refine AtT.zA (d := 177) rfl (fun hg177 => ?_) (fun hg177 => ?_) | refine AtT.zz (d := 177) rfl (fun hg177 => ?_) (fun hg177 => ?_))
 all_goals first|refine AtT.zi ?_|refine AtT.zg ?_|(refine AtT.zf ?_)
 all_goals first|refine AtT.zi ?_|refine AtT.zg ?_|(refine AtT.qH ?_)
 all_goals (refine AtT.zU (d := 179) rfl ((fun h => h rfl)) ?_)
 all_goals (refine AtT.zB ?_)
 all_goals (refine AtT.zf ?_)
 all_goals (first | refine AtT.kL 181 ?_ | refine AtT.zA (d := 181) rfl (fun hg181 => ?_) (fun hg181 => ?_) | refine AtT.zz (d := 181) rfl (fun hg181 => ?_) (fun hg181 => ?_))
 all_goals first|refine AtT.zi ?_|refine AtT.zg ?_|(refine AtT.zf ?_)
 all_goals first|refine AtT.zi ?_|refine AtT.zg ?_|(refine AtT.qH ?_)
 all_goals (refine AtT.zU (d := 183) rfl ((fun h => h rfl)) ?_)
 all_goals (refine AtT.zB ?_)
 all_goals (refine AtT.zf ?_)
 all_goals (first | refine AtT.kL 185 ?_ | refine AtT.zA (d := 185) rfl (fun hg185 => ?_) (fun hg185 => ?_) | refine AtT.zz (d := 185) rfl (fun hg185 => ?_) (fun hg185 => ?_))
 all_goals first|refine AtT.zi ?_|refine AtT.zg ?_|(refine AtT.zf ?_)
 all_goals first|refine AtT.zi ?_|refine AtT.zg ?_|(refine AtT.qH ?_)
 all_goals (refine AtT.zU (d := 187) rfl ((fun h => h rfl)) ?_)
 all_goals (refine AtT.zB ?_)
 all_goals (refine AtT.zf ?_)
 all_goals (first | refine AtT.kL 189 ?_ | refine AtT.zA (d := 189) rfl (fun hg189 => ?_) (fun hg189 => ?_) | refine AtT.zz (d := 189) rfl (fun hg189 => ?_) (fun hg189 => ?_))
 all_goals first|refine AtT.zi ?_|refine AtT.zg ?_|(refine AtT.zf ?_)
 all_goals first|refine AtT.zi ?_|refine AtT.zg ?_|(refine AtT.qH ?_)
 all_goals (refine AtT.zU (d := 191) rfl ((fun h => h rfl)) ?_)
 all_goals (refine AtT.zB ?_)
 all_goals (refine AtT.zf ?_)
 all_goals (first | refine AtT.kL 193 ?_ | refine AtT.zA (d := 193) rfl (fun hg193 => ?_) (fun hg193 => ?_) | refine AtT.zz (d := 193) rfl (fun hg193 => ?_) (fun hg193 => ?_))
 all_goals first|refine AtT.zi ?_|refine AtT.zg ?_|(refine AtT.zf ?_)
 all_goals first|refine AtT.zi ?_|refine AtT.zg ?_|(refine AtT.qH ?_)
 all_goals (refine AtT.zU (d := 195) rfl ((fun h => h rfl)) ?_)
 all_goals (refine AtT.zB ?_)
 all_goals (refine AtT.zf ?_)
 all_goals (first | refine AtT.kL 197 ?_ | refine AtT.zA (d := 197) rfl (fun hg197 => ?_) (fun hg197 => ?_) | refine AtT.zz (d := 197) rfl (fun hg197 => ?_) (fun hg197 => ?_))
 all_goals first|refine AtT.zi ?_|refine AtT.zg ?_|(refine AtT.zf ?_)
 all_goals first|refine AtT.zi ?_|refine AtT.zg ?_|(refine AtT.qH ?_)
 all_goals (refine AtT.zU (d := 199) rfl ((fun h => h rfl)) ?_)
 all_goals (refine AtT.zB ?_)
 all_goals (refine AtT.zf ?_)
 all_goals (first | refine AtT.kL 201 ?_ | refine AtT.zA (d := 201) rfl (fun hg201 => ?_) (fun hg201 => ?_) | refine AtT.zz (d := 201) rfl (fun hg201 => ?_) (fun hg201 => ?_))
 all_goals first|refine AtT.zi ?_|refine AtT.zg ?_|(refine AtT.zf ?_)
 all_goals first|refine AtT.zi ?_|refine AtT.zg ?_|(refine AtT.qH ?_)
 all_goals (refine AtT.zU (d := 203) rfl ((fun h => h rfl)) ?_)
 all_goals (refine AtT.zB ?_)
 all_goals (refine AtT.zf ?_)
 all_goals (first | refine AtT.kL 205 ?_ | refine AtT.zA (d := 205) rfl (fun hg205 => ?_) (fun hg205 => ?_) | refine AtT.zz (d := 205) rfl (fun hg205 => ?_) (fun hg205 => ?_))
 all_goals first|refine AtT.zi ?_|refine AtT.zg ?_|(refine AtT.zf ?_)
 all_goals first|refine AtT.zi ?_|refine AtT.zg ?_|(refine AtT.qH ?_)
 all_goals (refine AtT.zU (d := 207) rfl ((fun h => h rfl)) ?_)
 all_goals (refine AtT.zB ?_)
 all_goals (refine AtT.zf ?_)
 all_goals (first | refine AtT.kL 209 ?_ | refine AtT.zA (d := 209) rfl (fun hg209 => ?_) (fun hg209 => ?_) | refine AtT.zz (d := 209) rfl (fun hg209 => ?_) (fun hg209 => ?_))
 all_goals first|refine AtT.zi ?_|refine AtT.zg ?_|(refine AtT.zf ?_)
 all_goals first|refine AtT.zi ?_|refine AtT.zg ?_|(refine AtT.qH ?_)
 all_goals (refine AtT.zU (d := 211) rfl ((fun h => h rfl)) ?_)
 all_goals (refine AtT.zB ?_)
 all_goals (refine AtT.zf ?_)
 all_goals (first | refine AtT.kL 213 ?_ | refine AtT.zA (d := 213) rfl (fun hg213 => ?_) (fun hg213 => ?_) | refine AtT.zz (d := 213) rfl (fun hg213 => ?_) (fun hg213 => ?_))
 all_goals first|refine AtT.zi ?_|refine AtT.zg ?_|(refine AtT.zf ?_)
 all_goals first|refine AtT.zi ?_|refine AtT.zg ?_|(refine AtT.qH ?_)
 all_goals (refine AtT.zU (d := 215) rfl ((fun h => h rfl)) ?_)
 all_goals (refine AtT.zB ?_)
 all_goals (refine AtT.zf ?_)
 all_goals (first | refine AtT.kL 217 ?_ | refine AtT.zA (d := 217) rfl (fun hg217 => ?_) (fun hg217 => ?_) | refine AtT.zz (d := 217) rfl (fun hg217 => ?_) (fun hg217 => ?_))
 all_goals first|refine AtT.zi ?_|refine AtT.zg ?_|(refine AtT.zf ?_)
 all_goals first|refine AtT.zi ?_|refine AtT.zg ?_|(refine AtT.qH ?_)
 all_goals (refine AtT.zU (d := 219) rfl ((fun h => h rfl)) ?_)
 all_goals (refine AtT.zB ?_)
 all_goals (refine AtT.zf ?_)
 all_goals (first | refine AtT.kL 221 ?_ | refine AtT.zA (d := 221) rfl (fun hg221 => ?_) (fun hg221 => ?_) | refine AtT.zz (d := 221) rfl (fun hg221 => ?_) (fun hg221 => ?_))
 all_goals first|refine AtT.zi ?_|refine AtT.zg ?_|(refine AtT.zf ?_)
 all_goals first|refine AtT.zi ?_|refine AtT.zg ?_|(refine AtT.qH ?_)
 all_goals (refine AtT.zU (d := 223) rfl ((fun h => h rfl)) ?_)
 all_goals (refine AtT.zB ?_)
 all_goals (refine AtT.zf ?_)
 all_goals (first | refine AtT.kL 225 ?_ | refine AtT.zA (d := 225) rfl (fun hg225 => ?_) (fun hg225 => ?_) | refine AtT.zz (d := 225) rfl (fun hg225 => ?_) (fun hg225 => ?_))
 all_goals first|refine AtT.zi ?_|refine AtT.zg ?_|(refine AtT.zf ?_)
 all_goals first|refine AtT.zi ?_|refine AtT.zg ?_|(refine AtT.qH ?_)
 all_goals (refine AtT.zU (d := 227) rfl ((fun h => h rfl)) ?_)
 all_goals (refine AtT.zB ?_)
 all_goals (refine AtT.zf ?_)
 all_goals (first | refine AtT.kL 229 ?_ | refine AtT.zA (d := 229) rfl (fun hg229 => ?_) (fun hg229 => ?_) | refine AtT.zz (d := 229) rfl (fun hg229 => ?_) (fun hg229 => ?_))
 all_goals first|refine AtT.zi ?_|refine AtT.zg ?_|(refine AtT.zf ?_)
 all_goals first|refine AtT.zi ?_|refine AtT.zg ?_|(refine AtT.lenT rfl ⟨_, _, rfl, rfl, rfl⟩ Tryz.underlying9 rfl (by decide) ?_)
 all_goals first|refine AtT.zi ?_|refine AtT.zg ?_|(refine AtT.qJ ?_)
 all_goals (refine AtT.zU (d := 232) rfl ((by have := c_fl; omega)) ?_)
 all_goals (refine AtT.zB ?_)
 all_goals refine AtT.done ?_
 all_goals (refine At.nrm ?_)
 refine At.qf rfl rfl ?_
 refine At.nrm ?_
 refine At.zh (.q 0 (.n false 1 (.n false 2 (.n false 3 (.q 4 (.q 5 (.q 6 (.n false 7 (.n false 8 (.n false 9 (.q 10 (.q 11 (.q 12 (.q 13 (.n false 14 (.n false 15 (.n false 16 (.q 17 (.q 18 (.q 19 (.q 20 (.n false 21 (.n false 22 (.n false 23 (.q 24 (.q 25 (.q 26 (.q 27 (.n false 28 (.n false 29 (.n false 30 (.q 31 (.q 32 (.q 33 (.q 34 (.n false 35 (.n false 36 (.n false 37 (.q 38 (.q 39 (.q 40 (.q 41 (.n false 42 (.n false 43 (.n false 44 (.q 45 (.q 46 (.q 47 (.q 48 (.q 49 (.q 50 (.q 51 (.q 52 (.q 53 (.q 54 (.q 55 (.q 56 (.q 57 (.q 58 (.q 59 (.q 60 (.q 61 (.q 62 .done))))))))))))))))))))))))))))))))))))))))))))))))))))))))))))))) ?_
 refine AtT.zf ?_
 refine AtT.zQ (bs28_2_0_1 _ _) ?_
 intro q235 V235 hV235 hq235
 (try replace hg:=hg.le hV235);(try replace hr:=hr.le hV235);(try replace hb:=hb.le hV235);(try replace h50:=h50.le hV235);(try replace h55:=h55.le hV235);(try replace h65:=h65.le hV235);(try replace h70:=h70.le hV235);(try replace h80:=h80.le hV235);(try replace h85:=h85.le hV235);(try replace h90:=h90.le hV235);(try replace hu96:=hu96.le hV235)
 refine AtT.qa rfl rfl ok52 (longsZ_f [4, 2] (by decide) q235 _ (show Cells _ _ (flat ei [4, 2]) from hq235)) ?_
 rintro v236 V236 hV236 hs236
 (try replace hg:=hg.le hV236);(try replace hr:=hr.le hV236);(try replace hb:=hb.le hV236);(try replace h50:=h50.le hV236);(try replace h55:=h55.le hV236);(try replace h65:=h65.le hV236);(try replace h70:=h70.le hV236);(try replace h80:=h80.le hV236);(try replace h85:=h85.le hV236);(try replace h90:=h90.le hV236);(try replace hu96:=hu96.le hV236)
 refine AtT.zG rfl rfl ok22 (longs_f _ _ _ _ _ h50 hs236) ?_
 rintro _ rfl
 refine AtT.qm (d := 237) rfl (rfl) ?_
 refine AtT.qF ?_
 refine AtT.qM (d := 238) rfl ((show (!true) = false from rfl)) ?_
 refine AtT.zf ?_
 all_goals (first | refine AtT.kL 239 ?_ | refine AtT.zA (d := 239) rfl (fun hg239 => ?_) (fun hg239 => ?_) | refine AtT.zz (d := 239) rfl (fun hg239 => ?_) (fun hg239 => ?_))
 all_goals first|refine AtT.zi ?_|refine AtT.zg ?_|(refine AtT.zf ?_)
 all_goals first|refine AtT.qg ?_|refine AtT.zW ?_|((refine AtT.zQ (bs28_1_0 _) ?_) ; (intro q241 V241 hV241 hq241))
 all_goals ((try replace hg:=hg.le hV241);(try replace hr:=hr.le hV241);(try replace hb:=hb.le hV241);(try replace h50:=h50.le hV241);(try replace h55:=h55.le hV241);(try replace h65:=h65.le hV241);(try replace h70:=h70.le hV241);(try replace h80:=h80.le hV241);(try replace h85:=h85.le hV241);(try replace h90:=h90.le hV241);(try replace hu96:=hu96.le hV241))
 all_goals first|refine AtT.qg ?_|refine AtT.zW ?_|((refine AtT.qa rfl rfl ok52 (longsZ_f [4] (by decide) q241 _ (show Cells _ _ (flat ei [4]) from hq241)) ?_) ; (rintro v242 V242 hV242 hs242))
 all_goals ((try replace hg:=hg.le hV242);(try replace hr:=hr.le hV242);(try replace hb:=hb.le hV242);(try replace h50:=h50.le hV242);(try replace h55:=h55.le hV242);(try replace h65:=h65.le hV242);(try replace h70:=h70.le hV242);(try replace h80:=h80.le hV242);(try replace h85:=h85.le hV242);(try replace h90:=h90.le hV242);(try replace hu96:=hu96.le hV242))
 all_goals first|refine AtT.qg ?_|refine AtT.zW ?_|((refine AtT.zG rfl rfl ok22 (longs_f _ _ _ _ _ h55 hs242) ?_) ; (rintro _ rfl))
 all_goals (refine AtT.qm (d := 243) rfl (rfl) ?_)
 all_goals first|refine AtT.zi ?_|refine AtT.zg ?_|(refine AtT.qF ?_)
 all_goals (refine AtT.qM (d := 244) rfl ((show (!true) = false from rfl)) ?_)
 all_goals (refine AtT.zB ?_)
 all_goals (refine AtT.zf ?_)
 all_goals (first | refine AtT.kL 246 ?_ | refine AtT.zA (d := 246) rfl (fun hg246 => ?_) (fun hg246 => ?_) | refine AtT.zz (d := 246) rfl (fun hg246 => ?_) (fun hg246 => ?_))
 all_goals first|refine AtT.zi ?_|refine AtT.zg ?_|(refine AtT.zf ?_)
 all_goals first|refine AtT.qg ?_|refine AtT.zW ?_|((refine AtT.zQ (bs37_5_0_1_2_3_4 _ _ _ _ _) ?_) ; (intro q248 V248 hV248 hq248))
 all_goals ((try replace hg:=hg.le hV248);(try replace hr:=hr.le hV248);(try replace hb:=hb.le hV248);(try replace h50:=h50.le hV248);(try replace h55:=h55.le hV248);(try replace h65:=h65.le hV248);(try replace h70:=h70.le hV248);(try replace h80:=h80.le hV248);(try replace h85:=h85.le hV248);(try replace h90:=h90.le hV248);(try replace hu96:=hu96.le hV248))
 all_goals (have s248 : SlI V248 _ [0, 1, 2, 4, 5] := Sl.lit hq248 rfl (by decide))
 all_goals first|refine AtT.qg ?_|refine AtT.zW ?_|((refine AtT.zG rfl rfl ok54 (of_f _ _) ?_) ; (rintro _ rfl))
 all_goals first|refine AtT.qg ?_|refine AtT.zW ?_|((refine AtT.zG rfl rfl ok29 (ints_f _ _ _ _ _ h65 s248) ?_) ; (rintro _ rfl))
 all_goals (refine AtT.qm (d := 250) rfl (rfl) ?_)
 all_goals first|refine AtT.zi ?_|refine AtT.zg ?_|(refine AtT.qF ?_)
 all_goals (refine AtT.qM (d := 251) rfl ((show (!true) = false from rfl)) ?_)
 all_goals (refine AtT.zB ?_)
 all_goals (refine AtT.zf ?_)
 all_goals (first | refine AtT.kL 253 ?_ | refine AtT.zA (d := 253) rfl (fun hg253 => ?_) (fun hg253 => ?_) | refine AtT.zz (d := 253) rfl (fun hg253 => ?_) (fun hg253 => ?_))
 all_goals first|refine AtT.zi ?_|refine AtT.zg ?_|(refine AtT.zf ?_)
 all_goals first|refine AtT.qg ?_|refine AtT.zW ?_|((refine AtT.zQ (bs37_4_0_1_2_3 _ _ _ _) ?_) ; (intro q255 V255 hV255 hq255))
 all_goals ((try replace hg:=hg.le hV255);(try replace hr:=hr.le hV255);(try replace hb:=hb.le hV255);(try replace h50:=h50.le hV255);(try replace h55:=h55.le hV255);(try replace h65:=h65.le hV255);(try replace h70:=h70.le hV255);(try replace h80:=h80.le hV255);(try replace h85:=h85.le hV255);(try replace h90:=h90.le hV255);(try replace hu96:=hu96.le hV255))
 all_goals (have s255 : SlI V255 _ [0, 1, 2, 3] := Sl.lit hq255 rfl (by decide))
 all_goals first|refine AtT.qg ?_|refine AtT.zW ?_|((refine AtT.zG rfl rfl ok54 (of_f _ _) ?_) ; (rintro _ rfl))
 all_goals first|refine AtT.qg ?_|refine AtT.zW ?_|((refine AtT.zG rfl rfl ok29 (ints_f _ _ _ _ _ h70 s255) ?_) ; (rintro _ rfl))
 all_goals (refine AtT.qm (d := 257) rfl (rfl) ?_)
 all_goals first|refine AtT.zi ?_|refine AtT.zg ?_|(refine AtT.qF ?_)
 all_goals (refine AtT.qM (d := 258) rfl ((show (!true) = false from rfl)) ?_)
 all_goals (refine AtT.zB ?_)
 all_goals (refine AtT.zf ?_)
 all_goals (first | refine AtT.kL 260 ?_ | refine AtT.zA (d := 260) rfl (fun hg260 => ?_) (fun hg260 => ?_) | refine AtT.zz (d := 260) rfl (fun hg260 => ?_) (fun hg260 => ?_))
 all_goals first|refine AtT.zi ?_|refine AtT.zg ?_|(refine AtT.zf ?_)
 all_goals first|refine AtT.qg ?_|refine AtT.zW ?_|((refine AtT.zQ (bs28_4_0_1_2_3 _ _ _ _) ?_) ; (intro q262 V262 hV262 hq262))
 all_goals ((try replace hg:=hg.le hV262);(try replace hr:=hr.le hV262);(try replace hb:=hb.le hV262);(try replace h50:=h50.le hV262);(try replace h55:=h55.le hV262);(try replace h65:=h65.le hV262);(try replace h70:=h70.le hV262);(try replace h80:=h80.le hV262);(try replace h85:=h85.le hV262);(try replace h90:=h90.le hV262);(try replace hu96:=hu96.le hV262))
 all_goals first|refine AtT.qg ?_|refine AtT.zW ?_|((refine AtT.qa rfl rfl ok52 (longsZ_f [3, 2, 1, 1] (by decide) q262 _ (show Cells _ _ (flat ei [3, 2, 1, 1]) from hq262)) ?_) ; (rintro v263 V263 hV263 hs263))
 all_goals ((try replace hg:=hg.le hV263);(try replace hr:=hr.le hV263);(try replace hb:=hb.le hV263);(try replace h50:=h50.le hV263);(try replace h55:=h55.le hV263);(try replace h65:=h65.le hV263);(try replace h70:=h70.le hV263);(try replace h80:=h80.le hV263);(try replace h85:=h85.le hV263);(try replace h90:=h90.le hV263);(try replace hu96:=hu96.le hV263))
 all_goals first|refine AtT.qg ?_|refine AtT.zW ?_|((refine AtT.zG rfl rfl ok22 (longs_f _ _ _ _ _ h80 hs263) ?_) ; (rintro _ rfl))
 all_goals (refine AtT.qm (d := 264) rfl (rfl) ?_)
 all_goals first|refine AtT.zi ?_|refine AtT.zg ?_|(refine AtT.qF ?_)
 all_goals (refine AtT.qM (d := 265) rfl ((show (!true) = false from rfl)) ?_)
 all_goals (refine AtT.zB ?_)
 all_goals (refine AtT.zf ?_)
 all_goals (first | refine AtT.kL 267 ?_ | refine AtT.zA (d := 267) rfl (fun hg267 => ?_) (fun hg267 => ?_) | refine AtT.zz (d := 267) rfl (fun hg267 => ?_) (fun hg267 => ?_))
 all_goals first|refine AtT.zi ?_|refine AtT.zg ?_|(refine AtT.zf ?_)
 all_goals first|refine AtT.qg ?_|refine AtT.zW ?_|((refine AtT.zQ (bs28_3_0_1_2 _ _ _) ?_) ; (intro q269 V269 hV269 hq269))
 all_goals ((try replace hg:=hg.le hV269);(try replace hr:=hr.le hV269);(try replace hb:=hb.le hV269);(try replace h50:=h50.le hV269);(try replace h55:=h55.le hV269);(try replace h65:=h65.le hV269);(try replace h70:=h70.le hV269);(try replace h80:=h80.le hV269);(try replace h85:=h85.le hV269);(try replace h90:=h90.le hV269);(try replace hu96:=hu96.le hV269))
 all_goals first|refine AtT.qg ?_|refine AtT.zW ?_|((refine AtT.qa rfl rfl ok52 (longsZ_f [3, 2, 2] (by decide) q269 _ (show Cells _ _ (flat ei [3, 2, 2]) from hq269)) ?_) ; (rintro v270 V270 hV270 hs270))
 all_goals ((try replace hg:=hg.le hV270);(try replace hr:=hr.le hV270);(try replace hb:=hb.le hV270);(try replace h50:=h50.le hV270);(try replace h55:=h55.le hV270);(try replace h65:=h65.le hV270);(try replace h70:=h70.le hV270);(try replace h80:=h80.le hV270);(try replace h85:=h85.le hV270);(try replace h90:=h90.le hV270);(try replace hu96:=hu96.le hV270))
 all_goals first|refine AtT.qg ?_|refine AtT.zW ?_|((refine AtT.zG rfl rfl ok22 (longs_f _ _ _ _ _ h85 hs270) ?_) ; (rintro _ rfl))
 all_goals (refine AtT.qm (d := 271) rfl (rfl) ?_)
 all_goals first|refine AtT.zi ?_|refine AtT.zg ?_|(refine AtT.qF ?_)
 all_goals (refine AtT.qM (d := 272) rfl ((show (!true) = false from rfl)) ?_)
 all_goals (refine AtT.zB ?_)
 all_goals (refine AtT.zf ?_)
 all_goals (first | refine AtT.kL 274 ?_ | refine AtT.zA (d := 274) rfl (fun hg274 => ?_) (fun hg274 => ?_) | refine AtT.zz (d := 274) rfl (fun hg274 => ?_) (fun hg274 => ?_))
 all_goals first|refine AtT.zi ?_|refine AtT.zg ?_|(refine AtT.zf ?_)
 all_goals first|refine AtT.qg ?_|refine AtT.zW ?_|((refine AtT.zQ (bs28_3_0_1_2 _ _ _) ?_) ; (intro q276 V276 hV276 hq276))
 all_goals ((try replace hg:=hg.le hV276);(try replace hr:=hr.le hV276);(try replace hb:=hb.le hV276);(try replace h50:=h50.le hV276);(try replace h55:=h55.le hV276);(try replace h65:=h65.le hV276);(try replace h70:=h70.le hV276);(try replace h80:=h80.le hV276);(try replace h85:=h85.le hV276);(try replace h90:=h90.le hV276);(try replace hu96:=hu96.le hV276))
 all_goals first|refine AtT.qg ?_|refine AtT.zW ?_|((refine AtT.qa rfl rfl ok52 (longsZ_f [3, 2, 3] (by decide) q276 _ (show Cells _ _ (flat ei [3, 2, 3]) from hq276)) ?_) ; (rintro v277 V277 hV277 hs277))
 all_goals ((try replace hg:=hg.le hV277);(try replace hr:=hr.le hV277);(try replace hb:=hb.le hV277);(try replace h50:=h50.le hV277);(try replace h55:=h55.le hV277);(try replace h65:=h65.le hV277);(try replace h70:=h70.le hV277);(try replace h80:=h80.le hV277);(try replace h85:=h85.le hV277);(try replace h90:=h90.le hV277);(try replace hu96:=hu96.le hV277))
 all_goals first|refine AtT.qg ?_|refine AtT.zW ?_|((refine AtT.zG rfl rfl ok22 (longs_f _ _ _ _ _ h90 hs277) ?_) ; (rintro _ rfl))
 all_goals (refine AtT.qm (d := 278) rfl (rfl) ?_)
 all_goals first|refine AtT.zi ?_|refine AtT.zg ?_|(refine AtT.qF ?_)
 all_goals (refine AtT.qM (d := 279) rfl ((show (!true) = false from rfl)) ?_)
 all_goals (refine AtT.zB ?_)
 all_goals (refine AtT.zf ?_)
 all_goals (first | refine AtT.kL 281 ?_ | refine AtT.zA (d := 281) rfl (fun hg281 => ?_) (fun hg281 => ?_) | refine AtT.zz (d := 281) rfl (fun hg281 => ?_) (fun hg281 => ?_))
 all_goals first|refine AtT.zi ?_|refine AtT.zg ?_|(refine AtT.zf ?_)
 all_goals first|refine AtT.zi ?_|refine AtT.zg ?_|(refine AtT.qH ?_)
 all_goals (refine AtT.zU (d := 283) rfl ((fun h => h rfl)) ?_)
 all_goals (refine AtT.zB ?_)
 all_goals (refine AtT.zf ?_)
 all_goals (first | refine AtT.kL 285 ?_ | refine AtT.zA (d := 285) rfl (fun hg285 => ?_) (fun hg285 => ?_) | refine AtT.zz (d := 285) rfl (fun hg285 => ?_) (fun hg285 => ?_))
 all_goals first|refine AtT.zi ?_|refine AtT.zg ?_|(refine AtT.zf ?_)
 all_goals first|refine AtT.zi ?_|refine AtT.zg ?_|(refine AtT.qH ?_)
 all_goals (refine AtT.zU (d := 287) rfl ((fun h => h rfl)) ?_)
 all_goals (refine AtT.zB ?_)
 all_goals (refine AtT.zf ?_)
 all_goals (first | refine AtT.kL 289 ?_ | refine AtT.zA (d := 289) rfl (fun hg289 => ?_) (fun hg289 => ?_) | refine AtT.zz (d := 289) rfl (fun hg289 => ?_) (fun hg289 => ?_))
 all_goals first|refine AtT.zi ?_|refine AtT.zg ?_|(refine AtT.zf ?_)
 all_goals first|refine AtT.zi ?_|refine AtT.zg ?_|(refine AtT.neT rfl ⟨_, _, rfl, rfl, rfl⟩ rfl rfl (by decide) ?_)
 all_goals (refine AtT.zU (d := 291) rfl ((fun h => h rfl)) ?_)
 all_goals (refine AtT.zB ?_)
 all_goals (refine AtT.zf ?_)
 all_goals (first | refine AtT.kL 293 ?_ | refine AtT.zA (d := 293) rfl (fun hg293 => ?_) (fun hg293 => ?_) | refine AtT.zz (d := 293) rfl (fun hg293 => ?_) (fun hg293 => ?_))
 all_goals first|refine AtT.zi ?_|refine AtT.zg ?_|(refine AtT.zf ?_)
 all_goals first|refine AtT.zi ?_|refine AtT.zg ?_|(refine AtT.neT rfl ⟨_, _, rfl, rfl, rfl⟩ rfl rfl (by decide) ?_)
 all_goals (refine AtT.zU (d := 295) rfl ((fun h => h rfl)) ?_)
 all_goals (refine AtT.zB ?_)
 all_goals refine AtT.done ?_
 all_goals (refine At.nrm ?_)
 refine At.qf rfl rfl ?_
 refine At.nrm ?_
 refine At.zh (.q 0 (.n false 1 (.q 2 (.q 3 (.q 4 (.n false 5 (.n true 6 (.q 7 .done)))))))) ?_
 refine AtT.zf ?_
 refine AtT.qa rfl rfl ok39 (load_f (kJ bo6) (by have := c_fl; omega) _ hg) ?_
 rintro _ V299 hV299 ⟨u299, rfl, hu299⟩; rw [c_load] at hu299; rw [c_load]; obtain ⟨w299, a299, c299, rfl, ⟨q299, z299, y299, e299, rfl, i299, j299⟩, hs299⟩ := id hu299; clear e299 i299 j299 hs299
 refine AtT.zf ?_
 refine AtT.zt ?_
 refine AtT.zt ?_
 refine AtT.zT z26 ?_
 intro b43
 refine AtT.zF zK ?_
 refine AtT.ze ?_
 refine AtT.done ?_
 refine At.nrm ?_
 replace hg := hg.le hV299
 replace hr := hr.le hV299
 replace hb := hb.le hV299
 replace h50 := h50.le hV299
 replace h55 := h55.le hV299
 replace h65 := h65.le hV299
 replace h70 := h70.le hV299
 replace h80 := h80.le hV299
 replace h85 := h85.le hV299
 replace h90 := h90.le hV299
 replace hu96 := hu96.le hV299
 clear hV299
 refine At.zh (.q 0 (.q 1 (.q 2 (.q 3 (.q 4 (.n false 5 (.q 6 (.q 7 (.q 8 (.q 9 (.n false 10 (.q 11 (.q 12 .done))))))))))))) ?_
 refine AtT.zf ?_
 refine AtT.qH ?_
 refine AtT.zU (d := 303) rfl ((fun h => h rfl)) ?_
 refine AtT.zf ?_
 all_goals (first | refine AtT.kL 304 ?_ | refine AtT.zA (d := 304) rfl (fun hg304 => ?_) (fun hg304 => ?_) | refine AtT.zz (d := 304) rfl (fun hg304 => ?_) (fun hg304 => ?_))
 all_goals first|refine AtT.zi ?_|refine AtT.zg ?_|(first | refine AtT.zD zK ?_ | refine AtT.zI zK ?_ | refine AtT.zC zK ?_)
 all_goals first|refine AtT.zi ?_|refine AtT.zg ?_|(first | refine AtT.zD zK ?_ | refine AtT.zI zK ?_ | refine AtT.zC zK ?_)
 all_goals first|refine AtT.qg ?_|refine AtT.zW ?_|((refine AtT.zG rfl rfl ok30 (same_f bo6 bo6 _ _ _ hu299 hb) ?_) ; (rintro _ rfl))
 all_goals (refine AtT.qm (d := 307) rfl (rfl) ?_)
 all_goals first|refine AtT.zi ?_|refine AtT.zg ?_|(refine AtT.qF ?_)
 all_goals (refine AtT.qM (d := 308) rfl ((show (!true) = false from rfl)) ?_)
 all_goals (refine AtT.zB ?_)
 all_goals (refine AtT.zf ?_)
 all_goals (first | refine AtT.kL 310 ?_ | refine AtT.zA (d := 310) rfl (fun hg310 => ?_) (fun hg310 => ?_) | refine AtT.zz (d := 310) rfl (fun hg310 => ?_) (fun hg310 => ?_))
 all_goals first|refine AtT.zi ?_|refine AtT.zg ?_|(first | refine AtT.zD zK ?_ | refine AtT.zI zK ?_ | refine AtT.zC zK ?_)
 all_goals first|refine AtT.qg ?_|refine AtT.zW ?_|((refine AtT.zG rfl rfl ok28 (qU box _ _ hu96) ?_) ; (rintro _ rfl; rw [c_x]))
 all_goals first|refine AtT.zi ?_|refine AtT.zg ?_|(refine AtT.qH ?_)
 all_goals (refine AtT.zU (d := 313) rfl ((fun h => h rfl)) ?_)
 all_goals (refine AtT.zB ?_)
 all_goals refine AtT.done ?_
 all_goals (refine At.nrm ?_)
 refine At.qf rfl rfl ?_
 refine At.nrm ?_
 refine At.zh (.q 0 (.n false 1 (.q 2 (.q 3 (.q 4 (.q 5 (.q 6 .done))))))) ?_
 first | refine AtT.zD zK ?_ | refine AtT.zI zK ?_ | refine AtT.zC zK ?_
 refine AtT.qa rfl rfl ok31 (pstock_f box 7 9 _ _ hu96) ?_
 rintro _ V317 hV317 ⟨u317, rfl, h317⟩; rw [c_x1E]
 refine AtT.zf ?_
 refine AtT.zt ?_
 refine AtT.zt ?_
 refine AtT.ze ?_
 refine AtT.ze ?_
 refine AtT.done ?_
 refine At.nrm ?_
 replace hg := hg.le hV317
 replace hr := hr.le hV317
 replace hb := hb.le hV317
 replace h50 := h50.le hV317
 replace h55 := h55.le hV317
 replace h65 := h65.le hV317
 replace h70 := h70.le hV317
 replace h80 := h80.le hV317
 replace h85 := h85.le hV317
 replace h90 := h90.le hV317
 replace hu96 := hu96.le hV317
 replace hu299 := hu299.le hV317
 clear hV317
 rw [c_x1] at h317
 refine At.zh (.q 0 (.q 1 (.q 2 (.q 3 (.n false 4 (.n false 5 (.n false 6 (.q 7 (.q 8 .done))))))))) ?_
 refine AtT.zf ?_
 refine AtT.qK ?_
 refine AtT.qm (d := 321) rfl (rfl) ?_
 refine AtT.zf ?_
 all_goals (first | refine AtT.kL 322 ?_ | refine AtT.zA (d := 322) rfl (fun hg322 => ?_) (fun hg322 => ?_) | refine AtT.zz (d := 322) rfl (fun hg322 => ?_) (fun hg322 => ?_))
 all_goals first|refine AtT.zi ?_|refine AtT.zg ?_|(refine AtT.zf ?_)
 all_goals first|refine AtT.qg ?_|refine AtT.zW ?_|((refine AtT.zQ (bs28_4_0_1_2_3 _ _ _ _) ?_) ; (intro q324 V324 hV324 hq324))
 all_goals ((try replace hg:=hg.le hV324);(try replace h317:=h317.le hV324))
 all_goals first|refine AtT.qg ?_|refine AtT.zW ?_|((refine AtT.qa rfl rfl ok52 (longsZ_f [3, 2, 0, 1] (by decide) q324 _ (show Cells _ _ (flat ei [3, 2, 0, 1]) from hq324)) ?_) ; (rintro v325 V325 hV325 hs325))
 all_goals ((try replace hg:=hg.le hV325);(try replace h317:=h317.le hV325))
 all_goals first|refine AtT.qg ?_|refine AtT.zW ?_|((refine AtT.zG rfl rfl ok22 (longs_f _ _ _ _ _ h317 hs325) ?_) ; (rintro _ rfl))
 all_goals (refine AtT.qm (d := 326) rfl (rfl) ?_)
 all_goals (refine AtT.zB ?_)
 all_goals (refine AtT.ze ?_)
 all_goals refine AtT.done ?_
 all_goals (refine At.nrm ?_)
 all_goals (exact At.qi rfl (.tmp rfl) rfl)
end Go.Proofs.YtpoignmclfdgpaaGreatDoor
