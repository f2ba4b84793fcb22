/- How few patches mend a sheet, and how few cells they cover, are what the definitions say, or the error; the patches that are returned are as few, and cover as few: for all sheets. No condition. -/
import Derived.Test.YtghomjjffllkeaaGreatDoorB6
set_option linter.unusedVariables false
set_option linter.unusedSimpArgs false
set_option linter.unusedSectionVars false
set_option linter.unusedVariables false
namespace Go.Pm
open Go.Gl Go.Lw
theorem fw_bad {s : Sh} {n e : Int} (h0 : ¬ chE s = 0) (h : FwS s n e) : n = 0 ∧ e = chE s := by
 rcases h with ⟨_, h⟩ | ⟨h, _⟩
 ·exact h
 ·exact absurd h h0
theorem ce_bad {s : Sh} {n e : Int} (h0 : ¬ chE s = 0) (h : CeS s n e) : n = 0 ∧ e = chE s := by
 rcases h with ⟨_, h⟩ | ⟨h, _⟩
 ·exact h
 ·exact absurd h h0
end Go.Pm
namespace Go.Proofs.YtghomjjffllkeaaGreatDoor
open Go.Lw Go.Gl Go.Pm Go.RowKit Go.Shelf
theorem patchFewests_f (s : Sh) (V : View) (v : Value) (hv : ShV V v s) : Fnc Tryz.prog 4 [v] V fun r _ => r = .bool true := by
 obtain ⟨a, c, rfl, hs⟩ := id hv
 refine qc Tryz.func4 rfl Tryz.ntmps4 (Nat.le_of_ble_eq_true rfl) ?_
 intro w0 hw0
 refine At.nrm ?_
 refine At.zi (.n false 0 (.q 1 .done)) ?_
 refine AtT.qV ?_
 intro b1
 refine AtT.zh ?_
 refine AtT.done ?_
 refine At.nrm ?_
 refine At.zi (.q 0 (.n false 1 .done)) ?_
 first | refine AtT.zu zA ?_ | refine AtT.zD zA ?_ | refine AtT.zt zA ?_
 refine AtT.zq rfl rfl ok15 (great_f s _ _ hv) ?_
 rintro _ rfl
 refine AtT.done ?_
 refine At.nrm ?_
 by_cases g1 : grB s = true
 ·refine At.qA rfl g1 ?_
  refine At.nrm ?_
  refine At.zi (.n false 0 (.q 1 .done)) ?_
  refine AtT.zq rfl rfl ok16 (works_f _) ?_
  rintro _ rfl
  refine AtT.zh ?_
  refine AtT.done ?_
  refine At.nrm ?_
  exact At.qd rfl (.tmp rfl) rfl
 have g1' : grB s = false := by simpa using g1
 refine At.qE rfl g1' ?_
 refine At.nrm ?_
 by_cases h0 : chE s = 0
 rotate_left
 ·refine At.zi (.q 0 (.n false 1 (.q 2 (.q 3 (.q 4 (.q 5 (.q 6 .done))))))) ?_
  first | refine AtT.zu zA ?_ | refine AtT.zD zA ?_ | refine AtT.zt zA ?_
  refine AtT.zq rfl rfl ok23 (fewest_f s _ _ hv) ?_
  rintro _ ⟨n, e, rfl, hF⟩; obtain ⟨rfl, rfl⟩ := fw_bad h0 hF
  refine AtT.zf ?_
  refine AtT.zP ?_
  refine AtT.zP ?_
  refine AtT.zh ?_
  refine AtT.zh ?_
  refine AtT.done ?_
  refine At.nrm ?_
  refine At.zi (.q 0 (.n false 1 (.q 2 (.q 3 (.q 4 (.q 5 (.q 6 .done))))))) ?_
  first | refine AtT.zu zA ?_ | refine AtT.zD zA ?_ | refine AtT.zt zA ?_
  refine AtT.zq rfl rfl ok24 (rfewest_f s _ _ hv) ?_
  rintro _ ⟨n, e, rfl, hF⟩; obtain ⟨rfl, rfl⟩ := fw_bad h0 hF
  refine AtT.zf ?_
  refine AtT.zP ?_
  refine AtT.zP ?_
  refine AtT.zh ?_
  refine AtT.zh ?_
  refine AtT.done ?_
  refine At.nrm ?_
  refine At.zi (.q 0 (.n false 1 (.q 2 (.q 3 (.q 4 (.q 5 (.q 6 .done))))))) ?_
  first | refine AtT.zu zA ?_ | refine AtT.zD zA ?_ | refine AtT.zt zA ?_
  refine AtT.zq rfl rfl ok25 (cells_f s _ _ hv) ?_
  rintro _ ⟨n, e, rfl, hF⟩; obtain ⟨rfl, rfl⟩ := ce_bad h0 hF
  refine AtT.zf ?_
  refine AtT.zP ?_
  refine AtT.zP ?_
  refine AtT.zh ?_
  refine AtT.zh ?_
  refine AtT.done ?_
  refine At.nrm ?_
  refine At.zi (.q 0 (.n false 1 (.q 2 (.q 3 (.q 4 (.q 5 (.q 6 .done))))))) ?_
  first | refine AtT.zu zA ?_ | refine AtT.zD zA ?_ | refine AtT.zt zA ?_
  refine AtT.zq rfl rfl ok26 (rcells_f s _ _ hv) ?_
  rintro _ ⟨n, e, rfl, hF⟩; obtain ⟨rfl, rfl⟩ := ce_bad h0 hF
  refine AtT.zf ?_
  refine AtT.zP ?_
  refine AtT.zP ?_
  refine AtT.zh ?_
  refine AtT.zh ?_
  refine AtT.done ?_
  refine At.nrm ?_
  refine At.zi (.q 0 (.n false 1 (.q 2 (.q 3 (.q 4 (.q 5 (.q 6 .done))))))) ?_
  first | refine AtT.zu zA ?_ | refine AtT.zD zA ?_ | refine AtT.zt zA ?_
  refine AtT.qg rfl rfl ok27 (patches_f s _ _ hv) ?_
  rintro v39 V39 hV39 ⟨a39, c39, ps, e39, rfl, hs39, hr⟩
  refine AtT.zf ?_
  refine AtT.zP ?_
  refine AtT.zP ?_
  refine AtT.zh ?_
  refine AtT.zh ?_
  refine AtT.done ?_
  refine At.nrm ?_
  obtain ⟨rfl, rfl⟩ : e39 = chE s ∧ ps = [] := by
   rcases hr with ⟨_, h1, h2⟩ | ⟨h, _⟩
   ·exact ⟨h1, h2⟩
   ·exact absurd h h0
  refine At.zi (.q 0 (.q 1 (.q 2 (.q 3 (.q 4 (.q 5 (.q 6 (.q 7 (.q 8 (.q 9 (.q 10 (.q 11 (.q 12 (.q 13 (.q 14 (.q 15 (.q 16 (.q 17 (.q 18 (.q 19 (.q 20 (.q 21 (.q 22 (.q 23 (.q 24 (.q 25 (.q 26 (.q 27 .done)))))))))))))))))))))))))))) ?_
  refine AtT.zf ?_
  refine AtT.zf ?_
  refine AtT.qC ?_
  refine AtT.ql (d := 44) rfl ((fun h => h rfl)) ?_
  refine AtT.zf ?_
  all_goals (first | refine AtT.kL 45 ?_ | refine AtT.zz (d := 45) rfl (fun hg45 => ?_) (fun hg45 => ?_) | refine AtT.zy (d := 45) rfl (fun hg45 => ?_) (fun hg45 => ?_))
  all_goals first|refine AtT.zg ?_|refine AtT.ze ?_|(refine AtT.zf ?_)
  all_goals first|refine AtT.zg ?_|refine AtT.ze ?_|(refine AtT.zf ?_)
  all_goals first|refine AtT.zg ?_|refine AtT.ze ?_|(refine AtT.qC ?_)
  all_goals (refine AtT.ql (d := 48) rfl ((fun h => h rfl)) ?_)
  all_goals (refine AtT.zx ?_)
  all_goals (refine AtT.zf ?_)
  all_goals (first | refine AtT.kL 50 ?_ | refine AtT.zz (d := 50) rfl (fun hg50 => ?_) (fun hg50 => ?_) | refine AtT.zy (d := 50) rfl (fun hg50 => ?_) (fun hg50 => ?_))
  all_goals first|refine AtT.zg ?_|refine AtT.ze ?_|(refine AtT.zf ?_)
  all_goals first|refine AtT.zg ?_|refine AtT.ze ?_|(refine AtT.zf ?_)
  all_goals first|refine AtT.zg ?_|refine AtT.ze ?_|(refine AtT.qC ?_)
  all_goals (refine AtT.ql (d := 53) rfl ((fun h => h rfl)) ?_)
  all_goals (refine AtT.zx ?_)
  all_goals (refine AtT.zf ?_)
  all_goals (first | refine AtT.kL 55 ?_ | refine AtT.zz (d := 55) rfl (fun hg55 => ?_) (fun hg55 => ?_) | refine AtT.zy (d := 55) rfl (fun hg55 => ?_) (fun hg55 => ?_))
  all_goals first|refine AtT.zg ?_|refine AtT.ze ?_|(refine AtT.zf ?_)
  all_goals first|refine AtT.zg ?_|refine AtT.ze ?_|(refine AtT.zf ?_)
  all_goals first|refine AtT.zg ?_|refine AtT.ze ?_|(refine AtT.qC ?_)
  all_goals (refine AtT.ql (d := 58) rfl ((fun h => h rfl)) ?_)
  all_goals (refine AtT.zx ?_)
  all_goals (refine AtT.zf ?_)
  all_goals (first | refine AtT.kL 60 ?_ | refine AtT.zz (d := 60) rfl (fun hg60 => ?_) (fun hg60 => ?_) | refine AtT.zy (d := 60) rfl (fun hg60 => ?_) (fun hg60 => ?_))
  all_goals first|refine AtT.zg ?_|refine AtT.ze ?_|(refine AtT.zf ?_)
  all_goals first|refine AtT.zg ?_|refine AtT.ze ?_|(refine AtT.zf ?_)
  all_goals first|refine AtT.zg ?_|refine AtT.ze ?_|(refine AtT.qC ?_)
  all_goals (refine AtT.ql (d := 63) rfl ((fun h => h rfl)) ?_)
  all_goals (refine AtT.zx ?_)
  all_goals (refine AtT.zf ?_)
  all_goals (first | refine AtT.kL 65 ?_ | refine AtT.zz (d := 65) rfl (fun hg65 => ?_) (fun hg65 => ?_) | refine AtT.zy (d := 65) rfl (fun hg65 => ?_) (fun hg65 => ?_))
  all_goals first|refine AtT.zg ?_|refine AtT.ze ?_|(refine AtT.zf ?_)
  all_goals first|refine AtT.zg ?_|refine AtT.ze ?_|(first | refine AtT.zU Tryz.underlying27 ?_ | refine AtT.zV Tryz.underlying27 ?_)
  all_goals first|refine AtT.zg ?_|refine AtT.ze ?_|(refine AtT.qx ?_)
  all_goals (refine AtT.ql (d := 68) rfl ((by simp)) ?_)
  all_goals (refine AtT.zx ?_)
  all_goals refine AtT.done ?_
  all_goals (refine At.nrm ?_)
  refine At.qE rfl rfl ?_
  refine At.nrm ?_
  refine At.zi (.q 0 (.q 1 .done)) ?_
  refine AtT.zf ?_
  refine AtT.qC ?_
  refine AtT.done ?_
  refine At.nrm ?_
  refine At.qA rfl (decide_eq_true h0) ?_
  refine At.nrm ?_
  refine At.zi (.q 0 (.q 1 (.q 2 (.q 3 (.n false 4 (.q 5 (.q 6 .done))))))) ?_
  refine AtT.zf ?_
  first | refine AtT.zU Tryz.underlying27 ?_ | refine AtT.zV Tryz.underlying27 ?_
  refine AtT.qP ?_
  refine AtT.qw (d := 74) rfl (rfl) ?_
  refine AtT.zf ?_
  all_goals (first | refine AtT.kL 75 ?_ | refine AtT.zz (d := 75) rfl (fun hg75 => ?_) (fun hg75 => ?_) | refine AtT.zy (d := 75) rfl (fun hg75 => ?_) (fun hg75 => ?_))
  all_goals (first | refine AtT.zO ?_ | refine AtT.zJ ?_ | ((refine AtT.zq rfl rfl ok16 (works_f _) ?_) ; (rintro _ rfl)))
  all_goals (refine AtT.zx ?_)
  all_goals (refine AtT.zh ?_)
  all_goals refine AtT.done ?_
  all_goals (refine At.nrm ?_)
  exact At.qd rfl (.tmp rfl) rfl
 have hok := jk h0
 have hkn := hok.kn
 refine At.zi (.q 0 (.n false 1 (.q 2 (.q 3 (.q 4 (.q 5 (.q 6 .done))))))) ?_
 first | refine AtT.zu zA ?_ | refine AtT.zD zA ?_ | refine AtT.zt zA ?_
 refine AtT.zq rfl rfl ok23 (fewest_f s _ _ hv) ?_
 rintro _ ⟨n, e, rfl, hF⟩; obtain ⟨rfl, m, d, rfl, hB⟩ := fw_ok h0 hF
 refine AtT.zf ?_
 refine AtT.zP ?_
 refine AtT.zP ?_
 refine AtT.zh ?_
 refine AtT.zh ?_
 refine AtT.done ?_
 refine At.nrm ?_
 refine At.zi (.q 0 (.n false 1 (.q 2 (.q 3 (.q 4 (.q 5 (.q 6 .done))))))) ?_
 first | refine AtT.zu zA ?_ | refine AtT.zD zA ?_ | refine AtT.zt zA ?_
 refine AtT.zq rfl rfl ok24 (rfewest_f s _ _ hv) ?_
 rintro _ ⟨n, e, rfl, hF⟩; obtain ⟨rfl, m2, d2, rfl, hB2⟩ := fw_ok h0 hF; obtain ⟨rfl, rfl⟩ := best_uniq hB2 hB
 refine AtT.zf ?_
 refine AtT.zP ?_
 refine AtT.zP ?_
 refine AtT.zh ?_
 refine AtT.zh ?_
 refine AtT.done ?_
 refine At.nrm ?_
 refine At.zi (.q 0 (.n false 1 (.q 2 (.q 3 (.q 4 (.q 5 (.q 6 .done))))))) ?_
 first | refine AtT.zu zA ?_ | refine AtT.zD zA ?_ | refine AtT.zt zA ?_
 refine AtT.zq rfl rfl ok25 (cells_f s _ _ hv) ?_
 rintro _ ⟨n, e, rfl, hF⟩; obtain ⟨rfl, m3, hB3⟩ := ce_ok h0 hF; obtain ⟨rfl, rfl⟩ := best_uniq hB3 hB
 refine AtT.zf ?_
 refine AtT.zP ?_
 refine AtT.zP ?_
 refine AtT.zh ?_
 refine AtT.zh ?_
 refine AtT.done ?_
 refine At.nrm ?_
 refine At.zi (.q 0 (.n false 1 (.q 2 (.q 3 (.q 4 (.q 5 (.q 6 .done))))))) ?_
 first | refine AtT.zu zA ?_ | refine AtT.zD zA ?_ | refine AtT.zt zA ?_
 refine AtT.zq rfl rfl ok26 (rcells_f s _ _ hv) ?_
 rintro _ ⟨n, e, rfl, hF⟩; obtain ⟨rfl, m4, hB4⟩ := ce_ok h0 hF; obtain ⟨rfl, rfl⟩ := best_uniq hB4 hB
 refine AtT.zf ?_
 refine AtT.zP ?_
 refine AtT.zP ?_
 refine AtT.zh ?_
 refine AtT.zh ?_
 refine AtT.done ?_
 refine At.nrm ?_
 refine At.zi (.q 0 (.n false 1 (.q 2 (.q 3 (.q 4 (.q 5 (.q 6 .done))))))) ?_
 first | refine AtT.zu zA ?_ | refine AtT.zD zA ?_ | refine AtT.zt zA ?_
 refine AtT.qg rfl rfl ok27 (patches_f s _ _ hv) ?_
 rintro v39 V39 hV39 ⟨a39, c39, ps, e39, rfl, hs39, hr⟩; obtain ⟨rfl, hm⟩ := pt_ok h0 hr
 refine AtT.zf ?_
 refine AtT.zP ?_
 refine AtT.zP ?_
 refine AtT.zh ?_
 refine AtT.zh ?_
 refine AtT.done ?_
 refine At.nrm ?_
 have hbl := best_le_len (sh_gok hok) (kn_on hok) (kn_fig hok) hm.best
 have hcp := cpR_mends hok (by omega) hm.mends
 obtain ⟨e1, e2⟩ := best_uniq hB hm.best
 subst e1 e2
 refine At.zi (.q 0 (.q 1 (.q 2 (.q 3 (.q 4 (.q 5 (.q 6 (.q 7 (.q 8 (.q 9 (.q 10 (.q 11 (.q 12 (.q 13 (.q 14 (.q 15 (.q 16 (.q 17 (.q 18 (.q 19 (.q 20 (.q 21 (.q 22 (.q 23 (.q 24 (.q 25 (.q 26 (.q 27 .done)))))))))))))))))))))))))))) ?_
 refine AtT.zf ?_
 refine AtT.zf ?_
 refine AtT.qC ?_
 refine AtT.ql (d := 44) rfl ((fun h => h rfl)) ?_
 refine AtT.zf ?_
 all_goals (first | refine AtT.kL 45 ?_ | refine AtT.zz (d := 45) rfl (fun hg45 => ?_) (fun hg45 => ?_) | refine AtT.zy (d := 45) rfl (fun hg45 => ?_) (fun hg45 => ?_))
 all_goals first|refine AtT.zg ?_|refine AtT.ze ?_|(refine AtT.zf ?_)
 all_goals first|refine AtT.zg ?_|refine AtT.ze ?_|(refine AtT.zf ?_)
 all_goals first|refine AtT.zg ?_|refine AtT.ze ?_|(refine AtT.qC ?_)
 all_goals (refine AtT.ql (d := 48) rfl ((fun h => h rfl)) ?_)
 all_goals (refine AtT.zx ?_)
 all_goals (refine AtT.zf ?_)
 all_goals (first | refine AtT.kL 50 ?_ | refine AtT.zz (d := 50) rfl (fun hg50 => ?_) (fun hg50 => ?_) | refine AtT.zy (d := 50) rfl (fun hg50 => ?_) (fun hg50 => ?_))
 all_goals first|refine AtT.zg ?_|refine AtT.ze ?_|(refine AtT.zf ?_)
 all_goals first|refine AtT.zg ?_|refine AtT.ze ?_|(refine AtT.zf ?_)
 all_goals first|refine AtT.zg ?_|refine AtT.ze ?_|(refine AtT.qC ?_)
 all_goals (refine AtT.ql (d := 53) rfl ((fun h => h rfl)) ?_)
 all_goals (refine AtT.zx ?_)
 all_goals (refine AtT.zf ?_)
 all_goals (first | refine AtT.kL 55 ?_ | refine AtT.zz (d := 55) rfl (fun hg55 => ?_) (fun hg55 => ?_) | refine AtT.zy (d := 55) rfl (fun hg55 => ?_) (fun hg55 => ?_))
 all_goals first|refine AtT.zg ?_|refine AtT.ze ?_|(refine AtT.zf ?_)
 all_goals first|refine AtT.zg ?_|refine AtT.ze ?_|(refine AtT.zf ?_)
 all_goals first|refine AtT.zg ?_|refine AtT.ze ?_|(refine AtT.qC ?_)
 all_goals (refine AtT.ql (d := 58) rfl ((fun h => h rfl)) ?_)
 all_goals (refine AtT.zx ?_)
 all_goals (refine AtT.zf ?_)
 all_goals (first | refine AtT.kL 60 ?_ | refine AtT.zz (d := 60) rfl (fun hg60 => ?_) (fun hg60 => ?_) | refine AtT.zy (d := 60) rfl (fun hg60 => ?_) (fun hg60 => ?_))
 all_goals first|refine AtT.zg ?_|refine AtT.ze ?_|(refine AtT.zf ?_)
 all_goals first|refine AtT.zg ?_|refine AtT.ze ?_|(refine AtT.zf ?_)
 all_goals first|refine AtT.zg ?_|refine AtT.ze ?_|(refine AtT.qC ?_)
 all_goals (refine AtT.ql (d := 63) rfl ((fun h => h rfl)) ?_)
 all_goals (refine AtT.zx ?_)
 all_goals (refine AtT.zf ?_)
 all_goals (first | refine AtT.kL 65 ?_ | refine AtT.zz (d := 65) rfl (fun hg65 => ?_) (fun hg65 => ?_) | refine AtT.zy (d := 65) rfl (fun hg65 => ?_) (fun hg65 => ?_))
 all_goals first|refine AtT.zg ?_|refine AtT.ze ?_|(refine AtT.zf ?_)
 all_goals first|refine AtT.zg ?_|refine AtT.ze ?_|(first | refine AtT.zU Tryz.underlying27 ?_ | refine AtT.zV Tryz.underlying27 ?_)
 all_goals first|refine AtT.zg ?_|refine AtT.ze ?_|(refine AtT.qx ?_)
 all_goals (refine AtT.ql (d := 68) rfl ((by omega)) ?_)
 all_goals (refine AtT.zx ?_)
 all_goals refine AtT.done ?_
 all_goals (refine At.nrm ?_)
 refine At.qE rfl rfl ?_
 refine At.nrm ?_
 refine At.zi (.q 0 (.q 1 .done)) ?_
 refine AtT.zf ?_
 refine AtT.qC ?_
 refine AtT.done ?_
 refine At.nrm ?_
 refine At.qE rfl rfl ?_
 refine At.nrm ?_
 refine At.zi (.q 0 (.q 1 (.n false 2 (.q 3 (.q 4 (.q 5 (.q 6 (.q 7 .done)))))))) ?_
 first | refine AtT.zu zA ?_ | refine AtT.zD zA ?_ | refine AtT.zt zA ?_
 refine AtT.zf ?_
 refine AtT.zq rfl rfl ok18 (rcheckPatches_f s ps _ _ _ (hv.le hV39) hs39) ?_
 rintro _ rfl; rw [hcp]
 refine AtT.zf ?_
 refine AtT.zP ?_
 refine AtT.zP ?_
 refine AtT.zh ?_
 refine AtT.zh ?_
 refine AtT.done ?_
 refine At.nrm ?_
 refine At.zi (.q 0 (.q 1 (.q 2 (.q 3 (.q 4 (.q 5 (.q 6 (.q 7 (.q 8 (.q 9 (.q 10 (.q 11 (.q 12 (.q 13 (.n false 14 (.q 15 (.q 16 .done))))))))))))))))) ?_
 refine AtT.zf ?_
 refine AtT.qP ?_
 refine AtT.qw (d := 85) rfl (rfl) ?_
 refine AtT.zf ?_
 all_goals (first | refine AtT.kL 86 ?_ | refine AtT.zz (d := 86) rfl (fun hg86 => ?_) (fun hg86 => ?_) | refine AtT.zy (d := 86) rfl (fun hg86 => ?_) (fun hg86 => ?_))
 all_goals first|refine AtT.zg ?_|refine AtT.ze ?_|(refine AtT.zf ?_)
 all_goals first|refine AtT.zg ?_|refine AtT.ze ?_|(refine AtT.zf ?_)
 all_goals first|refine AtT.zg ?_|refine AtT.ze ?_|(refine AtT.qP ?_)
 all_goals (refine AtT.qw (d := 89) rfl (rfl) ?_)
 all_goals (refine AtT.zx ?_)
 all_goals (refine AtT.zf ?_)
 all_goals (first | refine AtT.kL 91 ?_ | refine AtT.zz (d := 91) rfl (fun hg91 => ?_) (fun hg91 => ?_) | refine AtT.zy (d := 91) rfl (fun hg91 => ?_) (fun hg91 => ?_))
 all_goals first|refine AtT.zg ?_|refine AtT.ze ?_|(refine AtT.zf ?_)
 all_goals first|refine AtT.zg ?_|refine AtT.ze ?_|(first | refine AtT.zU Tryz.underlying27 ?_ | refine AtT.zV Tryz.underlying27 ?_)
 all_goals first|refine AtT.zg ?_|refine AtT.ze ?_|(refine AtT.zf ?_)
 all_goals first|refine AtT.zg ?_|refine AtT.ze ?_|(refine AtT.qP ?_)
 all_goals (refine AtT.qw (d := 95) rfl (rfl) ?_)
 all_goals (refine AtT.zx ?_)
 all_goals (refine AtT.zf ?_)
 all_goals (first | refine AtT.kL 97 ?_ | refine AtT.zz (d := 97) rfl (fun hg97 => ?_) (fun hg97 => ?_) | refine AtT.zy (d := 97) rfl (fun hg97 => ?_) (fun hg97 => ?_))
 all_goals (first | refine AtT.zO ?_ | refine AtT.zJ ?_ | ((refine AtT.zq rfl rfl ok16 (works_f _) ?_) ; (rintro _ rfl)))
 all_goals (refine AtT.zx ?_)
 all_goals (refine AtT.zh ?_)
 all_goals refine AtT.done ?_
 all_goals (refine At.nrm ?_)
 exact At.qd rfl (.tmp rfl) rfl
end Go.Proofs.YtghomjjffllkeaaGreatDoor
set_option linter.unusedVariables false
namespace Go.Proofs.YtghomjjffllkeaaGreatDoor.c2
open Go.Lw Go.Gl Go.Pm Go.RowKit Go.ChangeShapes Go.WideShapes Go.ChangeAt
set_option maxRecDepth 100000 in
theorem lifted (os : Os) (started : os.Started) (H : Type) (enc : TypeId × Value → H) :
    ReturnsInHanded {} Tryz.checked os 4 .any (fun w args => (Rows.patchFewestsSpec.pre enc Tryz.prog Tryz.f4 [] false w args ∧ laidMetH Tryz.prog seatLaid w) ∧ sizedMet enc Tryz.prog Tryz.f4 (OpenSpec.ofChange Rows.patchFewestsSpec) false w args) (Rows.patchFewestsSpec.post enc Tryz.prog Tryz.f4 false true false false) := by
  refine law_liftL (tb := 4) (laid := seatLaid) (fun ds hd => by match ds, hd with | [d0], _ => rfl) rfl (by kernel_rfl) Tryz.underlying4 laidOut (by kernel_rfl) own started (by kernel_rfl) Tryz.func4
    (ChangeSpec.witness_shaped (enc := enc) (C := Tryz.checked) (os := os) (X := fun w _ => laidMetH Tryz.prog seatLaid w) false (World.laidAll Tryz.prog os seatLaid) #[.agg #[.slice none 0 0, .int .i64 0]] 8 (World.laidAll_os _ _ _)
      (World.shaped_of_ZipB (by kernel_rfl) (by kernel_rfl)) (by kernel_rfl) (by kernel_rfl) (by kernel_rfl) (seat_laid os _)) ?_
  intro W base args ds ps hval hA
  rw [Tryz.params4] at hA hval
  obtain ⟨v0, vs0, d0, ds0, p0, q0, hargs, rfl, rfl, h0, r0⟩ := trodAll_cons hA
  obtain ⟨rfl, rfl, rfl⟩ := trodAll_nil r0
  obtain rfl : args = #[v0] := by cases args; simp_all
  obtain ⟨s0, k0⟩ := open_sheet (hval 0 24 v0 rfl rfl) h0
  exact ⟨[v0], rfl, patchFewests_f s0 _ _ k0⟩

theorem over : Rows.patchFewestsRow.holds Tryz.pinned (OpenSpec.ofChange Rows.patchFewestsSpec) :=
  OpenClaim.holds_of_wide 4 Tryz.f4 rfl rfl rfl rfl rfl rfl rfl ⟨rfl, rfl, rfl, rfl, rfl⟩ rfl rfl rfl rfl rfl (by kernel_rfl) Tryz.func4 (by kernel_rfl)
    (of_decide_eq_true (by kernel_rfl)) (by unfold Func.isWrapper; first | (rw [if_pos (by decide +kernel)]; kernel_rfl) | (rw [if_neg (by decide +kernel)]; exact ⟨rfl, rfl⟩))
    (fun os started H enc _ => lifted os started H enc)

theorem proved : Rows.PatchFewestsCardSaid :=
  Claim7.holds_tied_plain_at .later [] [.data, .pinned] true (true, "0d2a6361d0117277170b6b99c938bda2455ed98009332320e2a28814b9346cbd") false over (fun _ h => by cases h) (by kernel_rfl) (fun _ h => by cases h) patchFewests_row_tie rfl ⟨rfl, rfl⟩ (by kernel_rfl) rfl
    (fun f fn hf hfn => by
      obtain rfl : f = 4 := Option.some.inj ((show Tryz.prog.funcNamed "crossband/crossbandlaw04.PatchFewests" = some 4 by kernel_rfl).symm.trans hf) |>.symm
      obtain rfl : fn = Tryz.f4 := (Option.some.inj (Tryz.func4.symm.trans hfn)).symm
      exact ⟨by kernel_rfl, fun j t ht => by
        rw [Tryz.params4] at ht
        have hm : t ∈ [24] := by simpa using Array.mem_of_getElem? ht
        have hall : ([24].all fun u => !Tryz.prog.wantsStandIn u) = true := by kernel_rfl
        exact (show Tryz.prog.wantsStandIn t = false by simpa using List.all_eq_true.1 hall t hm)⟩)
    (by kernel_rfl)
#print axioms proved
end Go.Proofs.YtghomjjffllkeaaGreatDoor.c2
