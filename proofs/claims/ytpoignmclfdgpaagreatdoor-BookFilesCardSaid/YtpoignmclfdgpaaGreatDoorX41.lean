/- Texts that the last one of this claim imports. -/
import Derived.Test.YtpoignmclfdgpaaGreatDoorB5
set_option linter.unusedVariables false
set_option linter.unusedSimpArgs false
set_option linter.unusedSectionVars false
set_option linter.unusedVariables false
namespace Go.Proofs.YtpoignmclfdgpaaGreatDoor
open Go.Lw Go.Gl Go.Bk Go.RowKit
theorem bookFiles_f (b : Bo) (s : List UInt8) (hsl : s.length ≤ 9223372036854775807) (V : View) (hg : GvV V) (v : Value) (hv : BoV V v b) : Fnc Tryz.prog 6 [v, sT s] V fun r _ => r = .bool true := by
 obtain ⟨w0, a0, c0, rfl, ⟨q0, z0, y0, e0, rfl, i0, j0⟩, s0⟩ := id hv
 clear e0 i0 j0 s0
 refine ql Tryz.func6 rfl Tryz.ntmps6 (Nat.le_of_ble_eq_true rfl) ?_
 intro w0 hw0
 refine At.nrm ?_
 refine At.zi (.n false 0 (.q 1 .done)) ?_
 refine AtT.jE ?_
 intro b2
 refine AtT.zg ?_
 refine AtT.done ?_
 refine At.nrm ?_
 by_cases g1 : grB b = true
 ·refine At.zi (.q 0 (.n false 1 (.q 2 (.q 3 (.q 4 (.q 5 (.q 6 .done))))))) ?_
  first | refine AtT.zF zH ?_ | refine AtT.zJ zH ?_ | refine AtT.zD zH ?_
  refine AtT.zG rfl rfl ok16 (great_f b _ _ hv) ?_
  rintro _ rfl
  refine AtT.qJ (d := 18) rfl (g1) ?_
  refine AtT.zf ?_
  all_goals (first | refine AtT.kL 19 ?_ | refine AtT.zw (d := 19) rfl (fun hg19 => ?_) (fun hg19 => ?_) | refine AtT.zu (d := 19) rfl (fun hg19 => ?_) (fun hg19 => ?_))
  all_goals first|refine AtT.zh ?_|refine AtT.ze ?_|(refine AtT.zf ?_)
  all_goals first|refine AtT.zh ?_|refine AtT.ze ?_|(refine AtT.qR rfl ⟨_, _, rfl, rfl, rfl⟩ Tryz.underlying9 rfl (by decide) ?_)
  all_goals first|refine AtT.zh ?_|refine AtT.ze ?_|(refine AtT.qI ?_)
  all_goals (refine AtT.zx ?_)
  all_goals refine AtT.done ?_
  all_goals (refine At.nrm ?_)
  all_goals refine At.zU rfl rfl ?_
  refine At.nrm ?_
  refine At.zi (.n false 0 (.q 1 .done)) ?_
  refine AtT.zG rfl rfl ok17 (works_f _ hg) ?_
  rintro _ rfl
  refine AtT.zg ?_
  refine AtT.done ?_
  refine At.nrm ?_
  exact At.qh rfl (.tmp rfl) rfl
 have g1' : grB b = false := by simpa using g1
 by_cases g2 : 5000 < (s.length : Int)
 ·refine At.zi (.q 0 (.n false 1 (.q 2 (.q 3 (.q 4 (.q 5 (.q 6 .done))))))) ?_
  first | refine AtT.zF zH ?_ | refine AtT.zJ zH ?_ | refine AtT.zD zH ?_
  refine AtT.zG rfl rfl ok16 (great_f b _ _ hv) ?_
  rintro _ rfl
  refine AtT.qJ (d := 18) rfl (g1') ?_
  refine AtT.zf ?_
  all_goals (first | refine AtT.kL 19 ?_ | refine AtT.zw (d := 19) rfl (fun hg19 => ?_) (fun hg19 => ?_) | refine AtT.zu (d := 19) rfl (fun hg19 => ?_) (fun hg19 => ?_))
  all_goals first|refine AtT.zh ?_|refine AtT.ze ?_|(refine AtT.zf ?_)
  all_goals first|refine AtT.zh ?_|refine AtT.ze ?_|(refine AtT.qR rfl ⟨_, _, rfl, rfl, rfl⟩ Tryz.underlying9 rfl (by decide) ?_)
  all_goals first|refine AtT.zh ?_|refine AtT.ze ?_|(refine AtT.qI ?_)
  all_goals (refine AtT.qa (d := 22) rfl (g2) ?_)
  all_goals (refine AtT.zx ?_)
  all_goals refine AtT.done ?_
  all_goals (refine At.nrm ?_)
  all_goals refine At.zU rfl rfl ?_
  refine At.nrm ?_
  refine At.zi (.n false 0 (.q 1 .done)) ?_
  refine AtT.zG rfl rfl ok17 (works_f _ hg) ?_
  rintro _ rfl
  refine AtT.zg ?_
  refine AtT.done ?_
  refine At.nrm ?_
  exact At.qh rfl (.tmp rfl) rfl
 refine At.zi (.q 0 (.n false 1 (.q 2 (.q 3 (.q 4 (.q 5 (.q 6 .done))))))) ?_
 first | refine AtT.zF zH ?_ | refine AtT.zJ zH ?_ | refine AtT.zD zH ?_
 refine AtT.zG rfl rfl ok16 (great_f b _ _ hv) ?_
 rintro _ rfl
 refine AtT.qJ (d := 18) rfl (g1') ?_
 refine AtT.zf ?_
 all_goals (first | refine AtT.kL 19 ?_ | refine AtT.zw (d := 19) rfl (fun hg19 => ?_) (fun hg19 => ?_) | refine AtT.zu (d := 19) rfl (fun hg19 => ?_) (fun hg19 => ?_))
 all_goals first|refine AtT.zh ?_|refine AtT.ze ?_|(refine AtT.zf ?_)
 all_goals first|refine AtT.zh ?_|refine AtT.ze ?_|(refine AtT.qR rfl ⟨_, _, rfl, rfl, rfl⟩ Tryz.underlying9 rfl (by decide) ?_)
 all_goals first|refine AtT.zh ?_|refine AtT.ze ?_|(refine AtT.qI ?_)
 all_goals (refine AtT.zS (d := 22) rfl (g2) ?_)
 all_goals (refine AtT.zx ?_)
 all_goals refine AtT.done ?_
 all_goals (refine At.nrm ?_)
 all_goals refine At.zX rfl rfl ?_
 refine At.nrm ?_
 have hs6 : s.length ≤ 1000000 := by omega
 refine At.zi (.q 0 (.n false 1 (.q 2 (.q 3 (.q 4 (.q 5 (.q 6 .done))))))) ?_
 refine AtT.zf ?_
 refine AtT.zG rfl rfl ok35 (pcheck_f s hs6 _ hg) ?_
 rintro _ rfl
 refine AtT.zf ?_
 refine AtT.zt ?_
 refine AtT.zt ?_
 refine AtT.zg ?_
 refine AtT.zg ?_
 refine AtT.done ?_
 refine At.nrm ?_
 refine At.zi (.q 0 (.n false 1 (.q 2 (.q 3 (.q 4 (.q 5 (.q 6 .done))))))) ?_
 refine AtT.zf ?_
 refine AtT.zG rfl rfl ok36 (rcheck_f s hs6 _) ?_
 rintro _ rfl
 refine AtT.zf ?_
 refine AtT.zt ?_
 refine AtT.zt ?_
 refine AtT.zg ?_
 refine AtT.zg ?_
 refine AtT.done ?_
 refine At.nrm ?_
 refine At.zi (.q 0 (.n false 1 (.q 2 (.q 3 (.q 4 (.q 5 (.q 6 .done))))))) ?_
 first | refine AtT.zF zH ?_ | refine AtT.zJ zH ?_ | refine AtT.zD zH ?_
 refine AtT.zG rfl rfl ok37 (file_f b _ hg _ hv) ?_
 rintro _ rfl
 refine AtT.zf ?_
 refine AtT.zt ?_
 refine AtT.zt ?_
 refine AtT.zg ?_
 refine AtT.zg ?_
 refine AtT.done ?_
 refine At.nrm ?_
 refine At.zi (.q 0 (.n false 1 (.q 2 (.q 3 (.q 4 (.q 5 (.q 6 .done))))))) ?_
 first | refine AtT.zF zH ?_ | refine AtT.zJ zH ?_ | refine AtT.zD zH ?_
 refine AtT.zG rfl rfl ok38 (rfile_f b _ hg _ hv) ?_
 rintro _ rfl
 refine AtT.zf ?_
 refine AtT.zt ?_
 refine AtT.zt ?_
 refine AtT.zg ?_
 refine AtT.zg ?_
 refine AtT.done ?_
 refine At.nrm ?_
 refine At.zi (.q 0 (.n false 1 (.q 2 (.q 3 (.q 4 (.n false 5 (.n true 6 (.q 7 .done)))))))) ?_
 refine AtT.zf ?_
 refine AtT.qg rfl rfl ok39 (load_f s hs6 _ hg) ?_
 rintro _ V47 hV47 ⟨u47, rfl, h47⟩; obtain ⟨w47, a47, c47, rfl, ⟨q47, z47, y47, e47, rfl, i47, j47⟩, s47⟩ := id h47; clear e47 i47 j47 s47
 refine AtT.zf ?_
 refine AtT.zt ?_
 refine AtT.zt ?_
 refine AtT.zT z26 ?_
 intro b13
 refine AtT.zy zH ?_
 refine AtT.zg ?_
 refine AtT.done ?_
 refine At.nrm ?_
 replace hg := hg.le hV47
 refine At.zi (.q 0 (.n false 1 (.q 2 (.q 3 (.q 4 (.n false 5 (.n true 6 (.q 7 .done)))))))) ?_
 refine AtT.zf ?_
 refine AtT.qg rfl rfl ok40 (rload_f s hs6 _) ?_
 rintro _ V52 hV52 ⟨u52, rfl, h52⟩; obtain ⟨w52, a52, c52, rfl, ⟨q52, z52, y52, e52, rfl, i52, j52⟩, s52⟩ := id h52; clear e52 i52 j52 s52
 refine AtT.zf ?_
 refine AtT.zt ?_
 refine AtT.zt ?_
 refine AtT.zT z26 ?_
 intro b15
 refine AtT.zy zH ?_
 refine AtT.zg ?_
 refine AtT.done ?_
 refine At.nrm ?_
 replace hg := hg.le hV52
 replace h47 := h47.le hV52
 refine At.zi (.q 0 (.q 1 (.q 2 (.q 3 (.q 4 (.q 5 (.q 6 (.q 7 (.q 8 (.q 9 (.q 10 (.q 11 (.q 12 (.q 13 (.q 14 (.q 15 (.q 16 (.q 17 (.q 18 (.q 19 (.q 20 (.n false 21 (.q 22 (.q 23 (.q 24 (.q 25 (.q 26 (.q 27 (.q 28 (.n false 29 (.q 30 (.q 31 .done)))))))))))))))))))))))))))))))) ?_
 refine AtT.zf ?_
 refine AtT.zf ?_
 refine AtT.eqT rfl trivial rfl rfl (by decide) ?_
 refine AtT.qa (d := 57) rfl (rfl) ?_
 refine AtT.zf ?_
 all_goals (first | refine AtT.kL 58 ?_ | refine AtT.zw (d := 58) rfl (fun hg58 => ?_) (fun hg58 => ?_) | refine AtT.zu (d := 58) rfl (fun hg58 => ?_) (fun hg58 => ?_))
 all_goals first|refine AtT.zh ?_|refine AtT.ze ?_|(refine AtT.zf ?_)
 all_goals first|refine AtT.zh ?_|refine AtT.ze ?_|(refine AtT.zf ?_)
 all_goals first|refine AtT.zh ?_|refine AtT.ze ?_|(refine AtT.qF ?_)
 all_goals (refine AtT.qa (d := 61) rfl (rfl) ?_)
 all_goals (refine AtT.zx ?_)
 all_goals (refine AtT.zf ?_)
 all_goals (first | refine AtT.kL 63 ?_ | refine AtT.zw (d := 63) rfl (fun hg63 => ?_) (fun hg63 => ?_) | refine AtT.zu (d := 63) rfl (fun hg63 => ?_) (fun hg63 => ?_))
 all_goals first|refine AtT.zh ?_|refine AtT.ze ?_|(refine AtT.zf ?_)
 all_goals first|refine AtT.zh ?_|refine AtT.ze ?_|(refine AtT.zf ?_)
 all_goals first|refine AtT.zh ?_|refine AtT.ze ?_|(refine AtT.eqT rfl ⟨_, _, rfl, rfl, rfl⟩ rfl rfl (by decide) ?_)
 all_goals (refine AtT.qa (d := 66) rfl (rfl) ?_)
 all_goals (refine AtT.zx ?_)
 all_goals (refine AtT.zf ?_)
 all_goals (first | refine AtT.kL 68 ?_ | refine AtT.zw (d := 68) rfl (fun hg68 => ?_) (fun hg68 => ?_) | refine AtT.zu (d := 68) rfl (fun hg68 => ?_) (fun hg68 => ?_))
 all_goals first|refine AtT.zh ?_|refine AtT.ze ?_|(refine AtT.zf ?_)
 all_goals first|refine AtT.zh ?_|refine AtT.ze ?_|(refine AtT.zf ?_)
 all_goals first|refine AtT.zh ?_|refine AtT.ze ?_|(refine AtT.qF ?_)
 all_goals (refine AtT.qa (d := 71) rfl (rfl) ?_)
 all_goals (refine AtT.zx ?_)
 all_goals (refine AtT.zf ?_)
 all_goals (first | refine AtT.kL 73 ?_ | refine AtT.zw (d := 73) rfl (fun hg73 => ?_) (fun hg73 => ?_) | refine AtT.zu (d := 73) rfl (fun hg73 => ?_) (fun hg73 => ?_))
 all_goals first|refine AtT.zh ?_|refine AtT.ze ?_|(first | refine AtT.zF zH ?_ | refine AtT.zJ zH ?_ | refine AtT.zD zH ?_)
 all_goals first|refine AtT.zh ?_|refine AtT.ze ?_|(first | refine AtT.zF zH ?_ | refine AtT.zJ zH ?_ | refine AtT.zD zH ?_)
 all_goals first|refine AtT.qf ?_|refine AtT.zW ?_|((refine AtT.zG rfl rfl ok30 (same_f _ _ _ _ _ h47 h52) ?_) ; (rintro _ rfl))
 all_goals (refine AtT.qa (d := 76) rfl (rfl) ?_)
 all_goals (refine AtT.zx ?_)
 all_goals (refine AtT.zf ?_)
 all_goals (first | refine AtT.kL 78 ?_ | refine AtT.zw (d := 78) rfl (fun hg78 => ?_) (fun hg78 => ?_) | refine AtT.zu (d := 78) rfl (fun hg78 => ?_) (fun hg78 => ?_))
 all_goals first|refine AtT.zh ?_|refine AtT.ze ?_|(refine AtT.zf ?_)
 all_goals first|refine AtT.zh ?_|refine AtT.ze ?_|(refine AtT.zf ?_)
 all_goals first|refine AtT.zh ?_|refine AtT.ze ?_|(refine AtT.qF ?_)
 all_goals (refine AtT.qa (d := 81) rfl (rfl) ?_)
 all_goals (refine AtT.zx ?_)
 all_goals (refine AtT.zf ?_)
 all_goals (first | refine AtT.kL 83 ?_ | refine AtT.zw (d := 83) rfl (fun hg83 => ?_) (fun hg83 => ?_) | refine AtT.zu (d := 83) rfl (fun hg83 => ?_) (fun hg83 => ?_))
 all_goals first|refine AtT.qf ?_|refine AtT.zW ?_|((refine AtT.zG rfl rfl ok17 (works_f _ hg) ?_) ; (rintro _ rfl))
 all_goals (refine AtT.zx ?_)
 all_goals (refine AtT.zg ?_)
 all_goals refine AtT.done ?_
 all_goals (refine At.nrm ?_)
 all_goals (exact At.qh rfl (.tmp rfl) rfl)
end Go.Proofs.YtpoignmclfdgpaaGreatDoor
