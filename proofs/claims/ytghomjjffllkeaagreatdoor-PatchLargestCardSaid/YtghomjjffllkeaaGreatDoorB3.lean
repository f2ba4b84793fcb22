/- Texts that the last one of this claim imports. -/
import Derived.ChangeKeysEq
import Derived.Lib.SlTrimSet
import Derived.Lib.Bytealg
import Derived.Lib.Join
import Derived.Test.YtghomjjffllkeaaGreatDoorB2
set_option linter.unusedVariables false
set_option linter.unusedSimpArgs false
set_option linter.unusedSectionVars false
set_option linter.unusedVariables false
namespace Go.Proofs.YtghomjjffllkeaaGreatDoor
open Go.Lw Go.Gl Go.Pm Go.RowKit
theorem sh_row0 {s : Sh} (h : ShOk s) : ∃ r0, s.rows[0]? = some r0 ∧ r0.size = wdS s := by
 have := h.n
 obtain ⟨r0, hr0⟩ : ∃ r, s.rows[0]? = some r := ⟨_, List.getElem?_eq_getElem (by omega)⟩
 exact ⟨r0, hr0, h.sz r0 (List.mem_of_getElem? hr0)⟩
theorem rpe_f (s : Sh) (hok : ShOk s) (p : Pc) (V : View) (v : Value) (hv : ShV V v s) : Fnc Tryz.prog 51 [v, pcv p] V fun r _ => r = iv (peE (gdS s) p) := by
 obtain ⟨a, c, rfl, hs⟩ := hv
 obtain ⟨r0, hr0, hr0s⟩ := sh_row0 hok
 have hn := hok.n
 have hw := hok.w
 have hR : (gdS s).R = (s.rows.length : Int) := rfl
 have hC : (gdS s).C = (wdS s : Int) := rfl
 have hM : (gdS s).most = s.most := rfl
 refine qf Tryz.func51 rfl Tryz.ntmps51 (Nat.le_of_ble_eq_true rfl) ?_
 intro w0 hw0
 refine At.nrm ?_
 refine At.zl (.n false 0 (.n false 1 (.q 2 .done))) ?_
 refine AtT.jb ?_
 intro b2
 refine AtT.jb ?_
 intro b3
 refine AtT.zf ?_
 refine AtT.done ?_
 refine At.nrm ?_
 refine At.jr (ι := Unit) (fun _ => [(2, .pointer (some ⟨b2, 0, none⟩)), (3, .pointer (some ⟨b3, 0, none⟩)), (5, iv s.rows.length), (6, iv (wdS s))]) (fun _ => [.blk b2 (LC [.slice a s.rows.length c, iv s.most] 24), .blk b3 (LC (pce p) 26)]) (fun _ V'' => V'' = V) ?_ ?_
 ·refine At.draw (.q 0 (.q 1 (.q 2 (.q 3 (.q 4 (.q 5 (.q 6 (.q 7 (.q 8 (.q 9 .done)))))))))) ffm (by kernel_rfl) ?_
  first | refine AtT.zi zt ?_ | with_reducible refine AtT.zk zt ?_ | refine AtT.zn zt ?_
  first | refine AtT.zm zV ?_ | refine AtT.zo zV ?_
  first | refine AtT.zY Tryz.underlying22 ?_ | refine AtT.zZ Tryz.underlying22 ?_
  first | refine AtT.zi zt ?_ | with_reducible refine AtT.zk zt ?_ | refine AtT.zn zt ?_
  first | refine AtT.zm zV ?_ | refine AtT.zo zV ?_
  refine AtT.qp Tryz.underlying22 tk9 ?_
  intro p14 e14 he14 hc14
  obtain rfl : r0 = e14 := by have : s.rows[0]? = some e14 := (by simpa using he14); rw [hr0] at this; simpa using this
  first | refine AtT.zm tk9 ?_ | refine AtT.zo tk9 ?_
  refine AtT.qM rfl trivial Tryz.underlying9 rfl (by decide) ?_
  refine AtT.zf ?_
  refine AtT.zf ?_
  refine AtT.done ?_
  refine At.nrm ?_
  all_goals (rw [hr0s]; exact At.qC () rfl ⟨rfl, rfl, rfl, rfl, trivial⟩ Pt.zO)
 rintro _ V1 ks' O' rfl hk hO hl1
 subst hk hO
 refine At.nrm ?_
 by_cases m1 : p.h < 1
 ·refine At.zl (.q 0 (.q 1 (.q 2 (.q 3 (.q 4 (.q 5 (.q 6 (.q 7 (.q 8 (.q 9 (.q 10 (.q 11 (.q 12 (.q 13 (.q 14 (.q 15 (.q 16 (.q 17 (.q 18 (.q 19 (.q 20 (.q 21 (.q 22 (.q 23 (.q 24 (.q 25 (.q 26 (.q 27 (.q 28 (.q 29 (.q 30 (.q 31 (.q 32 (.q 33 (.q 34 (.q 35 (.q 36 (.q 37 (.q 38 (.q 39 (.q 40 (.q 41 (.q 42 (.q 43 (.q 44 (.q 45 (.q 46 (.q 47 .done)))))))))))))))))))))))))))))))))))))))))))))))) ?_
  first | refine AtT.zi zy ?_ | with_reducible refine AtT.zk zy ?_ | refine AtT.zn zy ?_
  first | refine AtT.zm tk3 ?_ | refine AtT.zo tk3 ?_
  refine AtT.qa ?_
  refine AtT.qJ (d := 19) rfl ((m1)) ?_
  refine AtT.zh ?_
  all_goals (first | refine AtT.kL 20 ?_ | refine AtT.zB (d := 20) rfl (fun hg20 => ?_) (fun hg20 => ?_) | refine AtT.zA (d := 20) rfl (fun hg20 => ?_) (fun hg20 => ?_))
  all_goals first|refine AtT.zg ?_|refine AtT.ze ?_|(first | refine AtT.zi zy ?_ | with_reducible refine AtT.zk zy ?_ | refine AtT.zn zy ?_)
  all_goals first|refine AtT.zg ?_|refine AtT.ze ?_|(first | refine AtT.zm tk3 ?_ | refine AtT.zo tk3 ?_)
  all_goals first|refine AtT.zg ?_|refine AtT.ze ?_|(refine AtT.zh ?_)
  all_goals first|refine AtT.zg ?_|refine AtT.ze ?_|(refine AtT.qw ?_)
  all_goals (refine AtT.zz ?_)
  all_goals (refine AtT.zh ?_)
  all_goals (first | refine AtT.kL 26 ?_ | refine AtT.zB (d := 26) rfl (fun hg26 => ?_) (fun hg26 => ?_) | refine AtT.zA (d := 26) rfl (fun hg26 => ?_) (fun hg26 => ?_))
  all_goals first|refine AtT.zg ?_|refine AtT.ze ?_|(first | refine AtT.zi zx ?_ | with_reducible refine AtT.zk zx ?_ | refine AtT.zn zx ?_)
  all_goals first|refine AtT.zg ?_|refine AtT.ze ?_|(first | refine AtT.zm tk3 ?_ | refine AtT.zo tk3 ?_)
  all_goals first|refine AtT.zg ?_|refine AtT.ze ?_|(refine AtT.qa ?_)
  all_goals (refine AtT.zz ?_)
  all_goals (refine AtT.zh ?_)
  all_goals (first | refine AtT.kL 31 ?_ | refine AtT.zB (d := 31) rfl (fun hg31 => ?_) (fun hg31 => ?_) | refine AtT.zA (d := 31) rfl (fun hg31 => ?_) (fun hg31 => ?_))
  all_goals first|refine AtT.zg ?_|refine AtT.ze ?_|(first | refine AtT.zi zx ?_ | with_reducible refine AtT.zk zx ?_ | refine AtT.zn zx ?_)
  all_goals first|refine AtT.zg ?_|refine AtT.ze ?_|(first | refine AtT.zm tk3 ?_ | refine AtT.zo tk3 ?_)
  all_goals first|refine AtT.zg ?_|refine AtT.ze ?_|(refine AtT.zh ?_)
  all_goals first|refine AtT.zg ?_|refine AtT.ze ?_|(refine AtT.qw ?_)
  all_goals (refine AtT.zz ?_)
  all_goals (refine AtT.zh ?_)
  all_goals (first | refine AtT.kL 37 ?_ | refine AtT.zB (d := 37) rfl (fun hg37 => ?_) (fun hg37 => ?_) | refine AtT.zA (d := 37) rfl (fun hg37 => ?_) (fun hg37 => ?_))
  all_goals first|refine AtT.zg ?_|refine AtT.ze ?_|(first | refine AtT.zi zH ?_ | with_reducible refine AtT.zk zH ?_ | refine AtT.zn zH ?_)
  all_goals first|refine AtT.zg ?_|refine AtT.ze ?_|(first | refine AtT.zm tk3 ?_ | refine AtT.zo tk3 ?_)
  all_goals first|refine AtT.zg ?_|refine AtT.ze ?_|(refine AtT.qa ?_)
  all_goals (refine AtT.zz ?_)
  all_goals (refine AtT.zh ?_)
  all_goals (first | refine AtT.kL 42 ?_ | refine AtT.zB (d := 42) rfl (fun hg42 => ?_) (fun hg42 => ?_) | refine AtT.zA (d := 42) rfl (fun hg42 => ?_) (fun hg42 => ?_))
  all_goals first|refine AtT.zg ?_|refine AtT.ze ?_|(first | refine AtT.zi zG ?_ | with_reducible refine AtT.zk zG ?_ | refine AtT.zn zG ?_)
  all_goals first|refine AtT.zg ?_|refine AtT.ze ?_|(first | refine AtT.zm tk3 ?_ | refine AtT.zo tk3 ?_)
  all_goals first|refine AtT.zg ?_|refine AtT.ze ?_|(refine AtT.qa ?_)
  all_goals (refine AtT.zz ?_)
  all_goals (refine AtT.zh ?_)
  all_goals (first | refine AtT.kL 47 ?_ | refine AtT.zB (d := 47) rfl (fun hg47 => ?_) (fun hg47 => ?_) | refine AtT.zA (d := 47) rfl (fun hg47 => ?_) (fun hg47 => ?_))
  all_goals first|refine AtT.zg ?_|refine AtT.ze ?_|(first | refine AtT.zi zH ?_ | with_reducible refine AtT.zk zH ?_ | refine AtT.zn zH ?_)
  all_goals first|refine AtT.zg ?_|refine AtT.ze ?_|(first | refine AtT.zm tk3 ?_ | refine AtT.zo tk3 ?_)
  all_goals first|refine AtT.zg ?_|refine AtT.ze ?_|(refine AtT.zh ?_)
  all_goals first|refine AtT.zg ?_|refine AtT.ze ?_|(first | refine AtT.zi zy ?_ | with_reducible refine AtT.zk zy ?_ | refine AtT.zn zy ?_)
  all_goals first|refine AtT.zg ?_|refine AtT.ze ?_|(first | refine AtT.zm tk3 ?_ | refine AtT.zo tk3 ?_)
  all_goals first|refine AtT.zg ?_|refine AtT.ze ?_|(first | refine AtT.qD ?_ | refine AtT.qE ?_)
  all_goals first|refine AtT.zg ?_|refine AtT.ze ?_|(refine AtT.qw ?_)
  all_goals (refine AtT.zz ?_)
  all_goals (refine AtT.zh ?_)
  all_goals (first | refine AtT.kL 56 ?_ | refine AtT.zB (d := 56) rfl (fun hg56 => ?_) (fun hg56 => ?_) | refine AtT.zA (d := 56) rfl (fun hg56 => ?_) (fun hg56 => ?_))
  all_goals first|refine AtT.zg ?_|refine AtT.ze ?_|(first | refine AtT.zi zG ?_ | with_reducible refine AtT.zk zG ?_ | refine AtT.zn zG ?_)
  all_goals first|refine AtT.zg ?_|refine AtT.ze ?_|(first | refine AtT.zm tk3 ?_ | refine AtT.zo tk3 ?_)
  all_goals first|refine AtT.zg ?_|refine AtT.ze ?_|(refine AtT.zh ?_)
  all_goals first|refine AtT.zg ?_|refine AtT.ze ?_|(first | refine AtT.zi zx ?_ | with_reducible refine AtT.zk zx ?_ | refine AtT.zn zx ?_)
  all_goals first|refine AtT.zg ?_|refine AtT.ze ?_|(first | refine AtT.zm tk3 ?_ | refine AtT.zo tk3 ?_)
  all_goals first|refine AtT.zg ?_|refine AtT.ze ?_|(first | refine AtT.qD ?_ | refine AtT.qE ?_)
  all_goals first|refine AtT.zg ?_|refine AtT.ze ?_|(refine AtT.qw ?_)
  all_goals (refine AtT.zz ?_)
  all_goals refine AtT.done ?_
  all_goals (refine At.nrm ?_)
  refine At.qB rfl rfl ?_
  refine At.nrm ?_
  refine At.zl (.q 0 .done) ?_
  refine AtT.zf ?_
  refine AtT.done ?_
  refine At.nrm ?_
  exact At.qb rfl (.tmp rfl) (by unfold peE; rw [if_pos (by omega)])
 by_cases m2 : (s.rows.length : Int) < p.h
 ·refine At.zl (.q 0 (.q 1 (.q 2 (.q 3 (.q 4 (.q 5 (.q 6 (.q 7 (.q 8 (.q 9 (.q 10 (.q 11 (.q 12 (.q 13 (.q 14 (.q 15 (.q 16 (.q 17 (.q 18 (.q 19 (.q 20 (.q 21 (.q 22 (.q 23 (.q 24 (.q 25 (.q 26 (.q 27 (.q 28 (.q 29 (.q 30 (.q 31 (.q 32 (.q 33 (.q 34 (.q 35 (.q 36 (.q 37 (.q 38 (.q 39 (.q 40 (.q 41 (.q 42 (.q 43 (.q 44 (.q 45 (.q 46 (.q 47 .done)))))))))))))))))))))))))))))))))))))))))))))))) ?_
  first | refine AtT.zi zy ?_ | with_reducible refine AtT.zk zy ?_ | refine AtT.zn zy ?_
  first | refine AtT.zm tk3 ?_ | refine AtT.zo tk3 ?_
  refine AtT.qa ?_
  refine AtT.qm (d := 19) rfl ((m1)) ?_
  refine AtT.zh ?_
  all_goals (first | refine AtT.kL 20 ?_ | refine AtT.zB (d := 20) rfl (fun hg20 => ?_) (fun hg20 => ?_) | refine AtT.zA (d := 20) rfl (fun hg20 => ?_) (fun hg20 => ?_))
  all_goals first|refine AtT.zg ?_|refine AtT.ze ?_|(first | refine AtT.zi zy ?_ | with_reducible refine AtT.zk zy ?_ | refine AtT.zn zy ?_)
  all_goals first|refine AtT.zg ?_|refine AtT.ze ?_|(first | refine AtT.zm tk3 ?_ | refine AtT.zo tk3 ?_)
  all_goals first|refine AtT.zg ?_|refine AtT.ze ?_|(refine AtT.zh ?_)
  all_goals first|refine AtT.zg ?_|refine AtT.ze ?_|(refine AtT.qw ?_)
  all_goals (refine AtT.qJ (d := 24) rfl ((m2)) ?_)
  all_goals (refine AtT.zz ?_)
  all_goals (refine AtT.zh ?_)
  all_goals (first | refine AtT.kL 26 ?_ | refine AtT.zB (d := 26) rfl (fun hg26 => ?_) (fun hg26 => ?_) | refine AtT.zA (d := 26) rfl (fun hg26 => ?_) (fun hg26 => ?_))
  all_goals first|refine AtT.zg ?_|refine AtT.ze ?_|(first | refine AtT.zi zx ?_ | with_reducible refine AtT.zk zx ?_ | refine AtT.zn zx ?_)
  all_goals first|refine AtT.zg ?_|refine AtT.ze ?_|(first | refine AtT.zm tk3 ?_ | refine AtT.zo tk3 ?_)
  all_goals first|refine AtT.zg ?_|refine AtT.ze ?_|(refine AtT.qa ?_)
  all_goals (refine AtT.zz ?_)
  all_goals (refine AtT.zh ?_)
  all_goals (first | refine AtT.kL 31 ?_ | refine AtT.zB (d := 31) rfl (fun hg31 => ?_) (fun hg31 => ?_) | refine AtT.zA (d := 31) rfl (fun hg31 => ?_) (fun hg31 => ?_))
  all_goals first|refine AtT.zg ?_|refine AtT.ze ?_|(first | refine AtT.zi zx ?_ | with_reducible refine AtT.zk zx ?_ | refine AtT.zn zx ?_)
  all_goals first|refine AtT.zg ?_|refine AtT.ze ?_|(first | refine AtT.zm tk3 ?_ | refine AtT.zo tk3 ?_)
  all_goals first|refine AtT.zg ?_|refine AtT.ze ?_|(refine AtT.zh ?_)
  all_goals first|refine AtT.zg ?_|refine AtT.ze ?_|(refine AtT.qw ?_)
  all_goals (refine AtT.zz ?_)
  all_goals (refine AtT.zh ?_)
  all_goals (first | refine AtT.kL 37 ?_ | refine AtT.zB (d := 37) rfl (fun hg37 => ?_) (fun hg37 => ?_) | refine AtT.zA (d := 37) rfl (fun hg37 => ?_) (fun hg37 => ?_))
  all_goals first|refine AtT.zg ?_|refine AtT.ze ?_|(first | refine AtT.zi zH ?_ | with_reducible refine AtT.zk zH ?_ | refine AtT.zn zH ?_)
  all_goals first|refine AtT.zg ?_|refine AtT.ze ?_|(first | refine AtT.zm tk3 ?_ | refine AtT.zo tk3 ?_)
  all_goals first|refine AtT.zg ?_|refine AtT.ze ?_|(refine AtT.qa ?_)
  all_goals (refine AtT.zz ?_)
  all_goals (refine AtT.zh ?_)
  all_goals (first | refine AtT.kL 42 ?_ | refine AtT.zB (d := 42) rfl (fun hg42 => ?_) (fun hg42 => ?_) | refine AtT.zA (d := 42) rfl (fun hg42 => ?_) (fun hg42 => ?_))
  all_goals first|refine AtT.zg ?_|refine AtT.ze ?_|(first | refine AtT.zi zG ?_ | with_reducible refine AtT.zk zG ?_ | refine AtT.zn zG ?_)
  all_goals first|refine AtT.zg ?_|refine AtT.ze ?_|(first | refine AtT.zm tk3 ?_ | refine AtT.zo tk3 ?_)
  all_goals first|refine AtT.zg ?_|refine AtT.ze ?_|(refine AtT.qa ?_)
  all_goals (refine AtT.zz ?_)
  all_goals (refine AtT.zh ?_)
  all_goals (first | refine AtT.kL 47 ?_ | refine AtT.zB (d := 47) rfl (fun hg47 => ?_) (fun hg47 => ?_) | refine AtT.zA (d := 47) rfl (fun hg47 => ?_) (fun hg47 => ?_))
  all_goals first|refine AtT.zg ?_|refine AtT.ze ?_|(first | refine AtT.zi zH ?_ | with_reducible refine AtT.zk zH ?_ | refine AtT.zn zH ?_)
  all_goals first|refine AtT.zg ?_|refine AtT.ze ?_|(first | refine AtT.zm tk3 ?_ | refine AtT.zo tk3 ?_)
  all_goals first|refine AtT.zg ?_|refine AtT.ze ?_|(refine AtT.zh ?_)
  all_goals first|refine AtT.zg ?_|refine AtT.ze ?_|(first | refine AtT.zi zy ?_ | with_reducible refine AtT.zk zy ?_ | refine AtT.zn zy ?_)
  all_goals first|refine AtT.zg ?_|refine AtT.ze ?_|(first | refine AtT.zm tk3 ?_ | refine AtT.zo tk3 ?_)
  all_goals first|refine AtT.zg ?_|refine AtT.ze ?_|(first | refine AtT.qD ?_ | refine AtT.qE ?_)
  all_goals first|refine AtT.zg ?_|refine AtT.ze ?_|(refine AtT.qw ?_)
  all_goals (refine AtT.zz ?_)
  all_goals (refine AtT.zh ?_)
  all_goals (first | refine AtT.kL 56 ?_ | refine AtT.zB (d := 56) rfl (fun hg56 => ?_) (fun hg56 => ?_) | refine AtT.zA (d := 56) rfl (fun hg56 => ?_) (fun hg56 => ?_))
  all_goals first|refine AtT.zg ?_|refine AtT.ze ?_|(first | refine AtT.zi zG ?_ | with_reducible refine AtT.zk zG ?_ | refine AtT.zn zG ?_)
  all_goals first|refine AtT.zg ?_|refine AtT.ze ?_|(first | refine AtT.zm tk3 ?_ | refine AtT.zo tk3 ?_)
  all_goals first|refine AtT.zg ?_|refine AtT.ze ?_|(refine AtT.zh ?_)
  all_goals first|refine AtT.zg ?_|refine AtT.ze ?_|(first | refine AtT.zi zx ?_ | with_reducible refine AtT.zk zx ?_ | refine AtT.zn zx ?_)
  all_goals first|refine AtT.zg ?_|refine AtT.ze ?_|(first | refine AtT.zm tk3 ?_ | refine AtT.zo tk3 ?_)
  all_goals first|refine AtT.zg ?_|refine AtT.ze ?_|(first | refine AtT.qD ?_ | refine AtT.qE ?_)
  all_goals first|refine AtT.zg ?_|refine AtT.ze ?_|(refine AtT.qw ?_)
  all_goals (refine AtT.zz ?_)
  all_goals refine AtT.done ?_
  all_goals (refine At.nrm ?_)
  refine At.qB rfl rfl ?_
  refine At.nrm ?_
  refine At.zl (.q 0 .done) ?_
  refine AtT.zf ?_
  refine AtT.done ?_
  refine At.nrm ?_
  exact At.qb rfl (.tmp rfl) (by unfold peE; rw [if_pos (by omega)])
 by_cases m3 : p.w < 1
 ·refine At.zl (.q 0 (.q 1 (.q 2 (.q 3 (.q 4 (.q 5 (.q 6 (.q 7 (.q 8 (.q 9 (.q 10 (.q 11 (.q 12 (.q 13 (.q 14 (.q 15 (.q 16 (.q 17 (.q 18 (.q 19 (.q 20 (.q 21 (.q 22 (.q 23 (.q 24 (.q 25 (.q 26 (.q 27 (.q 28 (.q 29 (.q 30 (.q 31 (.q 32 (.q 33 (.q 34 (.q 35 (.q 36 (.q 37 (.q 38 (.q 39 (.q 40 (.q 41 (.q 42 (.q 43 (.q 44 (.q 45 (.q 46 (.q 47 .done)))))))))))))))))))))))))))))))))))))))))))))))) ?_
  first | refine AtT.zi zy ?_ | with_reducible refine AtT.zk zy ?_ | refine AtT.zn zy ?_
  first | refine AtT.zm tk3 ?_ | refine AtT.zo tk3 ?_
  refine AtT.qa ?_
  refine AtT.qm (d := 19) rfl ((m1)) ?_
  refine AtT.zh ?_
  all_goals (first | refine AtT.kL 20 ?_ | refine AtT.zB (d := 20) rfl (fun hg20 => ?_) (fun hg20 => ?_) | refine AtT.zA (d := 20) rfl (fun hg20 => ?_) (fun hg20 => ?_))
  all_goals first|refine AtT.zg ?_|refine AtT.ze ?_|(first | refine AtT.zi zy ?_ | with_reducible refine AtT.zk zy ?_ | refine AtT.zn zy ?_)
  all_goals first|refine AtT.zg ?_|refine AtT.ze ?_|(first | refine AtT.zm tk3 ?_ | refine AtT.zo tk3 ?_)
  all_goals first|refine AtT.zg ?_|refine AtT.ze ?_|(refine AtT.zh ?_)
  all_goals first|refine AtT.zg ?_|refine AtT.ze ?_|(refine AtT.qw ?_)
  all_goals (refine AtT.qm (d := 24) rfl ((m2)) ?_)
  all_goals (refine AtT.zz ?_)
  all_goals (refine AtT.zh ?_)
  all_goals (first | refine AtT.kL 26 ?_ | refine AtT.zB (d := 26) rfl (fun hg26 => ?_) (fun hg26 => ?_) | refine AtT.zA (d := 26) rfl (fun hg26 => ?_) (fun hg26 => ?_))
  all_goals first|refine AtT.zg ?_|refine AtT.ze ?_|(first | refine AtT.zi zx ?_ | with_reducible refine AtT.zk zx ?_ | refine AtT.zn zx ?_)
  all_goals first|refine AtT.zg ?_|refine AtT.ze ?_|(first | refine AtT.zm tk3 ?_ | refine AtT.zo tk3 ?_)
  all_goals first|refine AtT.zg ?_|refine AtT.ze ?_|(refine AtT.qa ?_)
  all_goals (refine AtT.qJ (d := 29) rfl ((m3)) ?_)
  all_goals (refine AtT.zz ?_)
  all_goals (refine AtT.zh ?_)
  all_goals (first | refine AtT.kL 31 ?_ | refine AtT.zB (d := 31) rfl (fun hg31 => ?_) (fun hg31 => ?_) | refine AtT.zA (d := 31) rfl (fun hg31 => ?_) (fun hg31 => ?_))
  all_goals first|refine AtT.zg ?_|refine AtT.ze ?_|(first | refine AtT.zi zx ?_ | with_reducible refine AtT.zk zx ?_ | refine AtT.zn zx ?_)
  all_goals first|refine AtT.zg ?_|refine AtT.ze ?_|(first | refine AtT.zm tk3 ?_ | refine AtT.zo tk3 ?_)
  all_goals first|refine AtT.zg ?_|refine AtT.ze ?_|(refine AtT.zh ?_)
  all_goals first|refine AtT.zg ?_|refine AtT.ze ?_|(refine AtT.qw ?_)
  all_goals (refine AtT.zz ?_)
  all_goals (refine AtT.zh ?_)
  all_goals (first | refine AtT.kL 37 ?_ | refine AtT.zB (d := 37) rfl (fun hg37 => ?_) (fun hg37 => ?_) | refine AtT.zA (d := 37) rfl (fun hg37 => ?_) (fun hg37 => ?_))
  all_goals first|refine AtT.zg ?_|refine AtT.ze ?_|(first | refine AtT.zi zH ?_ | with_reducible refine AtT.zk zH ?_ | refine AtT.zn zH ?_)
  all_goals first|refine AtT.zg ?_|refine AtT.ze ?_|(first | refine AtT.zm tk3 ?_ | refine AtT.zo tk3 ?_)
  all_goals first|refine AtT.zg ?_|refine AtT.ze ?_|(refine AtT.qa ?_)
  all_goals (refine AtT.zz ?_)
  all_goals (refine AtT.zh ?_)
  all_goals (first | refine AtT.kL 42 ?_ | refine AtT.zB (d := 42) rfl (fun hg42 => ?_) (fun hg42 => ?_) | refine AtT.zA (d := 42) rfl (fun hg42 => ?_) (fun hg42 => ?_))
  all_goals first|refine AtT.zg ?_|refine AtT.ze ?_|(first | refine AtT.zi zG ?_ | with_reducible refine AtT.zk zG ?_ | refine AtT.zn zG ?_)
  all_goals first|refine AtT.zg ?_|refine AtT.ze ?_|(first | refine AtT.zm tk3 ?_ | refine AtT.zo tk3 ?_)
  all_goals first|refine AtT.zg ?_|refine AtT.ze ?_|(refine AtT.qa ?_)
  all_goals (refine AtT.zz ?_)
  all_goals (refine AtT.zh ?_)
  all_goals (first | refine AtT.kL 47 ?_ | refine AtT.zB (d := 47) rfl (fun hg47 => ?_) (fun hg47 => ?_) | refine AtT.zA (d := 47) rfl (fun hg47 => ?_) (fun hg47 => ?_))
  all_goals first|refine AtT.zg ?_|refine AtT.ze ?_|(first | refine AtT.zi zH ?_ | with_reducible refine AtT.zk zH ?_ | refine AtT.zn zH ?_)
  all_goals first|refine AtT.zg ?_|refine AtT.ze ?_|(first | refine AtT.zm tk3 ?_ | refine AtT.zo tk3 ?_)
  all_goals first|refine AtT.zg ?_|refine AtT.ze ?_|(refine AtT.zh ?_)
  all_goals first|refine AtT.zg ?_|refine AtT.ze ?_|(first | refine AtT.zi zy ?_ | with_reducible refine AtT.zk zy ?_ | refine AtT.zn zy ?_)
  all_goals first|refine AtT.zg ?_|refine AtT.ze ?_|(first | refine AtT.zm tk3 ?_ | refine AtT.zo tk3 ?_)
  all_goals first|refine AtT.zg ?_|refine AtT.ze ?_|(first | refine AtT.qD ?_ | refine AtT.qE ?_)
  all_goals first|refine AtT.zg ?_|refine AtT.ze ?_|(refine AtT.qw ?_)
  all_goals (refine AtT.zz ?_)
  all_goals (refine AtT.zh ?_)
  all_goals (first | refine AtT.kL 56 ?_ | refine AtT.zB (d := 56) rfl (fun hg56 => ?_) (fun hg56 => ?_) | refine AtT.zA (d := 56) rfl (fun hg56 => ?_) (fun hg56 => ?_))
  all_goals first|refine AtT.zg ?_|refine AtT.ze ?_|(first | refine AtT.zi zG ?_ | with_reducible refine AtT.zk zG ?_ | refine AtT.zn zG ?_)
  all_goals first|refine AtT.zg ?_|refine AtT.ze ?_|(first | refine AtT.zm tk3 ?_ | refine AtT.zo tk3 ?_)
  all_goals first|refine AtT.zg ?_|refine AtT.ze ?_|(refine AtT.zh ?_)
  all_goals first|refine AtT.zg ?_|refine AtT.ze ?_|(first | refine AtT.zi zx ?_ | with_reducible refine AtT.zk zx ?_ | refine AtT.zn zx ?_)
  all_goals first|refine AtT.zg ?_|refine AtT.ze ?_|(first | refine AtT.zm tk3 ?_ | refine AtT.zo tk3 ?_)
  all_goals first|refine AtT.zg ?_|refine AtT.ze ?_|(first | refine AtT.qD ?_ | refine AtT.qE ?_)
  all_goals first|refine AtT.zg ?_|refine AtT.ze ?_|(refine AtT.qw ?_)
  all_goals (refine AtT.zz ?_)
  all_goals refine AtT.done ?_
  all_goals (refine At.nrm ?_)
  refine At.qB rfl rfl ?_
  refine At.nrm ?_
  refine At.zl (.q 0 .done) ?_
  refine AtT.zf ?_
  refine AtT.done ?_
  refine At.nrm ?_
  exact At.qb rfl (.tmp rfl) (by unfold peE; rw [if_pos (by omega)])
 by_cases m4 : (wdS s : Int) < p.w
 ·refine At.zl (.q 0 (.q 1 (.q 2 (.q 3 (.q 4 (.q 5 (.q 6 (.q 7 (.q 8 (.q 9 (.q 10 (.q 11 (.q 12 (.q 13 (.q 14 (.q 15 (.q 16 (.q 17 (.q 18 (.q 19 (.q 20 (.q 21 (.q 22 (.q 23 (.q 24 (.q 25 (.q 26 (.q 27 (.q 28 (.q 29 (.q 30 (.q 31 (.q 32 (.q 33 (.q 34 (.q 35 (.q 36 (.q 37 (.q 38 (.q 39 (.q 40 (.q 41 (.q 42 (.q 43 (.q 44 (.q 45 (.q 46 (.q 47 .done)))))))))))))))))))))))))))))))))))))))))))))))) ?_
  first | refine AtT.zi zy ?_ | with_reducible refine AtT.zk zy ?_ | refine AtT.zn zy ?_
  first | refine AtT.zm tk3 ?_ | refine AtT.zo tk3 ?_
  refine AtT.qa ?_
  refine AtT.qm (d := 19) rfl ((m1)) ?_
  refine AtT.zh ?_
  all_goals (first | refine AtT.kL 20 ?_ | refine AtT.zB (d := 20) rfl (fun hg20 => ?_) (fun hg20 => ?_) | refine AtT.zA (d := 20) rfl (fun hg20 => ?_) (fun hg20 => ?_))
  all_goals first|refine AtT.zg ?_|refine AtT.ze ?_|(first | refine AtT.zi zy ?_ | with_reducible refine AtT.zk zy ?_ | refine AtT.zn zy ?_)
  all_goals first|refine AtT.zg ?_|refine AtT.ze ?_|(first | refine AtT.zm tk3 ?_ | refine AtT.zo tk3 ?_)
  all_goals first|refine AtT.zg ?_|refine AtT.ze ?_|(refine AtT.zh ?_)
  all_goals first|refine AtT.zg ?_|refine AtT.ze ?_|(refine AtT.qw ?_)
  all_goals (refine AtT.qm (d := 24) rfl ((m2)) ?_)
  all_goals (refine AtT.zz ?_)
  all_goals (refine AtT.zh ?_)
  all_goals (first | refine AtT.kL 26 ?_ | refine AtT.zB (d := 26) rfl (fun hg26 => ?_) (fun hg26 => ?_) | refine AtT.zA (d := 26) rfl (fun hg26 => ?_) (fun hg26 => ?_))
  all_goals first|refine AtT.zg ?_|refine AtT.ze ?_|(first | refine AtT.zi zx ?_ | with_reducible refine AtT.zk zx ?_ | refine AtT.zn zx ?_)
  all_goals first|refine AtT.zg ?_|refine AtT.ze ?_|(first | refine AtT.zm tk3 ?_ | refine AtT.zo tk3 ?_)
  all_goals first|refine AtT.zg ?_|refine AtT.ze ?_|(refine AtT.qa ?_)
  all_goals (refine AtT.qm (d := 29) rfl ((m3)) ?_)
  all_goals (refine AtT.zz ?_)
  all_goals (refine AtT.zh ?_)
  all_goals (first | refine AtT.kL 31 ?_ | refine AtT.zB (d := 31) rfl (fun hg31 => ?_) (fun hg31 => ?_) | refine AtT.zA (d := 31) rfl (fun hg31 => ?_) (fun hg31 => ?_))
  all_goals first|refine AtT.zg ?_|refine AtT.ze ?_|(first | refine AtT.zi zx ?_ | with_reducible refine AtT.zk zx ?_ | refine AtT.zn zx ?_)
  all_goals first|refine AtT.zg ?_|refine AtT.ze ?_|(first | refine AtT.zm tk3 ?_ | refine AtT.zo tk3 ?_)
  all_goals first|refine AtT.zg ?_|refine AtT.ze ?_|(refine AtT.zh ?_)
  all_goals first|refine AtT.zg ?_|refine AtT.ze ?_|(refine AtT.qw ?_)
  all_goals (refine AtT.qJ (d := 35) rfl ((m4)) ?_)
  all_goals (refine AtT.zz ?_)
  all_goals (refine AtT.zh ?_)
  all_goals (first | refine AtT.kL 37 ?_ | refine AtT.zB (d := 37) rfl (fun hg37 => ?_) (fun hg37 => ?_) | refine AtT.zA (d := 37) rfl (fun hg37 => ?_) (fun hg37 => ?_))
  all_goals first|refine AtT.zg ?_|refine AtT.ze ?_|(first | refine AtT.zi zH ?_ | with_reducible refine AtT.zk zH ?_ | refine AtT.zn zH ?_)
  all_goals first|refine AtT.zg ?_|refine AtT.ze ?_|(first | refine AtT.zm tk3 ?_ | refine AtT.zo tk3 ?_)
  all_goals first|refine AtT.zg ?_|refine AtT.ze ?_|(refine AtT.qa ?_)
  all_goals (refine AtT.zz ?_)
  all_goals (refine AtT.zh ?_)
  all_goals (first | refine AtT.kL 42 ?_ | refine AtT.zB (d := 42) rfl (fun hg42 => ?_) (fun hg42 => ?_) | refine AtT.zA (d := 42) rfl (fun hg42 => ?_) (fun hg42 => ?_))
  all_goals first|refine AtT.zg ?_|refine AtT.ze ?_|(first | refine AtT.zi zG ?_ | with_reducible refine AtT.zk zG ?_ | refine AtT.zn zG ?_)
  all_goals first|refine AtT.zg ?_|refine AtT.ze ?_|(first | refine AtT.zm tk3 ?_ | refine AtT.zo tk3 ?_)
  all_goals first|refine AtT.zg ?_|refine AtT.ze ?_|(refine AtT.qa ?_)
  all_goals (refine AtT.zz ?_)
  all_goals (refine AtT.zh ?_)
  all_goals (first | refine AtT.kL 47 ?_ | refine AtT.zB (d := 47) rfl (fun hg47 => ?_) (fun hg47 => ?_) | refine AtT.zA (d := 47) rfl (fun hg47 => ?_) (fun hg47 => ?_))
  all_goals first|refine AtT.zg ?_|refine AtT.ze ?_|(first | refine AtT.zi zH ?_ | with_reducible refine AtT.zk zH ?_ | refine AtT.zn zH ?_)
  all_goals first|refine AtT.zg ?_|refine AtT.ze ?_|(first | refine AtT.zm tk3 ?_ | refine AtT.zo tk3 ?_)
  all_goals first|refine AtT.zg ?_|refine AtT.ze ?_|(refine AtT.zh ?_)
  all_goals first|refine AtT.zg ?_|refine AtT.ze ?_|(first | refine AtT.zi zy ?_ | with_reducible refine AtT.zk zy ?_ | refine AtT.zn zy ?_)
  all_goals first|refine AtT.zg ?_|refine AtT.ze ?_|(first | refine AtT.zm tk3 ?_ | refine AtT.zo tk3 ?_)
  all_goals first|refine AtT.zg ?_|refine AtT.ze ?_|(first | refine AtT.qD ?_ | refine AtT.qE ?_)
  all_goals first|refine AtT.zg ?_|refine AtT.ze ?_|(refine AtT.qw ?_)
  all_goals (refine AtT.zz ?_)
  all_goals (refine AtT.zh ?_)
  all_goals (first | refine AtT.kL 56 ?_ | refine AtT.zB (d := 56) rfl (fun hg56 => ?_) (fun hg56 => ?_) | refine AtT.zA (d := 56) rfl (fun hg56 => ?_) (fun hg56 => ?_))
  all_goals first|refine AtT.zg ?_|refine AtT.ze ?_|(first | refine AtT.zi zG ?_ | with_reducible refine AtT.zk zG ?_ | refine AtT.zn zG ?_)
  all_goals first|refine AtT.zg ?_|refine AtT.ze ?_|(first | refine AtT.zm tk3 ?_ | refine AtT.zo tk3 ?_)
  all_goals first|refine AtT.zg ?_|refine AtT.ze ?_|(refine AtT.zh ?_)
  all_goals first|refine AtT.zg ?_|refine AtT.ze ?_|(first | refine AtT.zi zx ?_ | with_reducible refine AtT.zk zx ?_ | refine AtT.zn zx ?_)
  all_goals first|refine AtT.zg ?_|refine AtT.ze ?_|(first | refine AtT.zm tk3 ?_ | refine AtT.zo tk3 ?_)
  all_goals first|refine AtT.zg ?_|refine AtT.ze ?_|(first | refine AtT.qD ?_ | refine AtT.qE ?_)
  all_goals first|refine AtT.zg ?_|refine AtT.ze ?_|(refine AtT.qw ?_)
  all_goals (refine AtT.zz ?_)
  all_goals refine AtT.done ?_
  all_goals (refine At.nrm ?_)
  refine At.qB rfl rfl ?_
  refine At.nrm ?_
  refine At.zl (.q 0 .done) ?_
  refine AtT.zf ?_
  refine AtT.done ?_
  refine At.nrm ?_
  exact At.qb rfl (.tmp rfl) (by unfold peE; rw [if_pos (by omega)])
 by_cases m5 : p.t < 0
 ·refine At.zl (.q 0 (.q 1 (.q 2 (.q 3 (.q 4 (.q 5 (.q 6 (.q 7 (.q 8 (.q 9 (.q 10 (.q 11 (.q 12 (.q 13 (.q 14 (.q 15 (.q 16 (.q 17 (.q 18 (.q 19 (.q 20 (.q 21 (.q 22 (.q 23 (.q 24 (.q 25 (.q 26 (.q 27 (.q 28 (.q 29 (.q 30 (.q 31 (.q 32 (.q 33 (.q 34 (.q 35 (.q 36 (.q 37 (.q 38 (.q 39 (.q 40 (.q 41 (.q 42 (.q 43 (.q 44 (.q 45 (.q 46 (.q 47 .done)))))))))))))))))))))))))))))))))))))))))))))))) ?_
  first | refine AtT.zi zy ?_ | with_reducible refine AtT.zk zy ?_ | refine AtT.zn zy ?_
  first | refine AtT.zm tk3 ?_ | refine AtT.zo tk3 ?_
  refine AtT.qa ?_
  refine AtT.qm (d := 19) rfl ((m1)) ?_
  refine AtT.zh ?_
  all_goals (first | refine AtT.kL 20 ?_ | refine AtT.zB (d := 20) rfl (fun hg20 => ?_) (fun hg20 => ?_) | refine AtT.zA (d := 20) rfl (fun hg20 => ?_) (fun hg20 => ?_))
  all_goals first|refine AtT.zg ?_|refine AtT.ze ?_|(first | refine AtT.zi zy ?_ | with_reducible refine AtT.zk zy ?_ | refine AtT.zn zy ?_)
  all_goals first|refine AtT.zg ?_|refine AtT.ze ?_|(first | refine AtT.zm tk3 ?_ | refine AtT.zo tk3 ?_)
  all_goals first|refine AtT.zg ?_|refine AtT.ze ?_|(refine AtT.zh ?_)
  all_goals first|refine AtT.zg ?_|refine AtT.ze ?_|(refine AtT.qw ?_)
  all_goals (refine AtT.qm (d := 24) rfl ((m2)) ?_)
  all_goals (refine AtT.zz ?_)
  all_goals (refine AtT.zh ?_)
  all_goals (first | refine AtT.kL 26 ?_ | refine AtT.zB (d := 26) rfl (fun hg26 => ?_) (fun hg26 => ?_) | refine AtT.zA (d := 26) rfl (fun hg26 => ?_) (fun hg26 => ?_))
  all_goals first|refine AtT.zg ?_|refine AtT.ze ?_|(first | refine AtT.zi zx ?_ | with_reducible refine AtT.zk zx ?_ | refine AtT.zn zx ?_)
  all_goals first|refine AtT.zg ?_|refine AtT.ze ?_|(first | refine AtT.zm tk3 ?_ | refine AtT.zo tk3 ?_)
  all_goals first|refine AtT.zg ?_|refine AtT.ze ?_|(refine AtT.qa ?_)
  all_goals (refine AtT.qm (d := 29) rfl ((m3)) ?_)
  all_goals (refine AtT.zz ?_)
  all_goals (refine AtT.zh ?_)
  all_goals (first | refine AtT.kL 31 ?_ | refine AtT.zB (d := 31) rfl (fun hg31 => ?_) (fun hg31 => ?_) | refine AtT.zA (d := 31) rfl (fun hg31 => ?_) (fun hg31 => ?_))
  all_goals first|refine AtT.zg ?_|refine AtT.ze ?_|(first | refine AtT.zi zx ?_ | with_reducible refine AtT.zk zx ?_ | refine AtT.zn zx ?_)
  all_goals first|refine AtT.zg ?_|refine AtT.ze ?_|(first | refine AtT.zm tk3 ?_ | refine AtT.zo tk3 ?_)
  all_goals first|refine AtT.zg ?_|refine AtT.ze ?_|(refine AtT.zh ?_)
  all_goals first|refine AtT.zg ?_|refine AtT.ze ?_|(refine AtT.qw ?_)
  all_goals (refine AtT.qm (d := 35) rfl ((m4)) ?_)
  all_goals (refine AtT.zz ?_)
  all_goals (refine AtT.zh ?_)
  all_goals (first | refine AtT.kL 37 ?_ | refine AtT.zB (d := 37) rfl (fun hg37 => ?_) (fun hg37 => ?_) | refine AtT.zA (d := 37) rfl (fun hg37 => ?_) (fun hg37 => ?_))
  all_goals first|refine AtT.zg ?_|refine AtT.ze ?_|(first | refine AtT.zi zH ?_ | with_reducible refine AtT.zk zH ?_ | refine AtT.zn zH ?_)
  all_goals first|refine AtT.zg ?_|refine AtT.ze ?_|(first | refine AtT.zm tk3 ?_ | refine AtT.zo tk3 ?_)
  all_goals first|refine AtT.zg ?_|refine AtT.ze ?_|(refine AtT.qa ?_)
  all_goals (refine AtT.qJ (d := 40) rfl ((m5)) ?_)
  all_goals (refine AtT.zz ?_)
  all_goals (refine AtT.zh ?_)
  all_goals (first | refine AtT.kL 42 ?_ | refine AtT.zB (d := 42) rfl (fun hg42 => ?_) (fun hg42 => ?_) | refine AtT.zA (d := 42) rfl (fun hg42 => ?_) (fun hg42 => ?_))
  all_goals first|refine AtT.zg ?_|refine AtT.ze ?_|(first | refine AtT.zi zG ?_ | with_reducible refine AtT.zk zG ?_ | refine AtT.zn zG ?_)
  all_goals first|refine AtT.zg ?_|refine AtT.ze ?_|(first | refine AtT.zm tk3 ?_ | refine AtT.zo tk3 ?_)
  all_goals first|refine AtT.zg ?_|refine AtT.ze ?_|(refine AtT.qa ?_)
  all_goals (refine AtT.zz ?_)
  all_goals (refine AtT.zh ?_)
  all_goals (first | refine AtT.kL 47 ?_ | refine AtT.zB (d := 47) rfl (fun hg47 => ?_) (fun hg47 => ?_) | refine AtT.zA (d := 47) rfl (fun hg47 => ?_) (fun hg47 => ?_))
  all_goals first|refine AtT.zg ?_|refine AtT.ze ?_|(first | refine AtT.zi zH ?_ | with_reducible refine AtT.zk zH ?_ | refine AtT.zn zH ?_)
  all_goals first|refine AtT.zg ?_|refine AtT.ze ?_|(first | refine AtT.zm tk3 ?_ | refine AtT.zo tk3 ?_)
  all_goals first|refine AtT.zg ?_|refine AtT.ze ?_|(refine AtT.zh ?_)
  all_goals first|refine AtT.zg ?_|refine AtT.ze ?_|(first | refine AtT.zi zy ?_ | with_reducible refine AtT.zk zy ?_ | refine AtT.zn zy ?_)
  all_goals first|refine AtT.zg ?_|refine AtT.ze ?_|(first | refine AtT.zm tk3 ?_ | refine AtT.zo tk3 ?_)
  all_goals first|refine AtT.zg ?_|refine AtT.ze ?_|(first | refine AtT.qD ?_ | refine AtT.qE ?_)
  all_goals first|refine AtT.zg ?_|refine AtT.ze ?_|(refine AtT.qw ?_)
  all_goals (refine AtT.zz ?_)
  all_goals (refine AtT.zh ?_)
  all_goals (first | refine AtT.kL 56 ?_ | refine AtT.zB (d := 56) rfl (fun hg56 => ?_) (fun hg56 => ?_) | refine AtT.zA (d := 56) rfl (fun hg56 => ?_) (fun hg56 => ?_))
  all_goals first|refine AtT.zg ?_|refine AtT.ze ?_|(first | refine AtT.zi zG ?_ | with_reducible refine AtT.zk zG ?_ | refine AtT.zn zG ?_)
  all_goals first|refine AtT.zg ?_|refine AtT.ze ?_|(first | refine AtT.zm tk3 ?_ | refine AtT.zo tk3 ?_)
  all_goals first|refine AtT.zg ?_|refine AtT.ze ?_|(refine AtT.zh ?_)
  all_goals first|refine AtT.zg ?_|refine AtT.ze ?_|(first | refine AtT.zi zx ?_ | with_reducible refine AtT.zk zx ?_ | refine AtT.zn zx ?_)
  all_goals first|refine AtT.zg ?_|refine AtT.ze ?_|(first | refine AtT.zm tk3 ?_ | refine AtT.zo tk3 ?_)
  all_goals first|refine AtT.zg ?_|refine AtT.ze ?_|(first | refine AtT.qD ?_ | refine AtT.qE ?_)
  all_goals first|refine AtT.zg ?_|refine AtT.ze ?_|(refine AtT.qw ?_)
  all_goals (refine AtT.zz ?_)
  all_goals refine AtT.done ?_
  all_goals (refine At.nrm ?_)
  refine At.qB rfl rfl ?_
  refine At.nrm ?_
  refine At.zl (.q 0 .done) ?_
  refine AtT.zf ?_
  refine AtT.done ?_
  refine At.nrm ?_
  exact At.qb rfl (.tmp rfl) (by unfold peE; rw [if_pos (by omega)])
 by_cases m6 : p.l < 0
 ·refine At.zl (.q 0 (.q 1 (.q 2 (.q 3 (.q 4 (.q 5 (.q 6 (.q 7 (.q 8 (.q 9 (.q 10 (.q 11 (.q 12 (.q 13 (.q 14 (.q 15 (.q 16 (.q 17 (.q 18 (.q 19 (.q 20 (.q 21 (.q 22 (.q 23 (.q 24 (.q 25 (.q 26 (.q 27 (.q 28 (.q 29 (.q 30 (.q 31 (.q 32 (.q 33 (.q 34 (.q 35 (.q 36 (.q 37 (.q 38 (.q 39 (.q 40 (.q 41 (.q 42 (.q 43 (.q 44 (.q 45 (.q 46 (.q 47 .done)))))))))))))))))))))))))))))))))))))))))))))))) ?_
  first | refine AtT.zi zy ?_ | with_reducible refine AtT.zk zy ?_ | refine AtT.zn zy ?_
  first | refine AtT.zm tk3 ?_ | refine AtT.zo tk3 ?_
  refine AtT.qa ?_
  refine AtT.qm (d := 19) rfl ((m1)) ?_
  refine AtT.zh ?_
  all_goals (first | refine AtT.kL 20 ?_ | refine AtT.zB (d := 20) rfl (fun hg20 => ?_) (fun hg20 => ?_) | refine AtT.zA (d := 20) rfl (fun hg20 => ?_) (fun hg20 => ?_))
  all_goals first|refine AtT.zg ?_|refine AtT.ze ?_|(first | refine AtT.zi zy ?_ | with_reducible refine AtT.zk zy ?_ | refine AtT.zn zy ?_)
  all_goals first|refine AtT.zg ?_|refine AtT.ze ?_|(first | refine AtT.zm tk3 ?_ | refine AtT.zo tk3 ?_)
  all_goals first|refine AtT.zg ?_|refine AtT.ze ?_|(refine AtT.zh ?_)
  all_goals first|refine AtT.zg ?_|refine AtT.ze ?_|(refine AtT.qw ?_)
  all_goals (refine AtT.qm (d := 24) rfl ((m2)) ?_)
  all_goals (refine AtT.zz ?_)
  all_goals (refine AtT.zh ?_)
  all_goals (first | refine AtT.kL 26 ?_ | refine AtT.zB (d := 26) rfl (fun hg26 => ?_) (fun hg26 => ?_) | refine AtT.zA (d := 26) rfl (fun hg26 => ?_) (fun hg26 => ?_))
  all_goals first|refine AtT.zg ?_|refine AtT.ze ?_|(first | refine AtT.zi zx ?_ | with_reducible refine AtT.zk zx ?_ | refine AtT.zn zx ?_)
  all_goals first|refine AtT.zg ?_|refine AtT.ze ?_|(first | refine AtT.zm tk3 ?_ | refine AtT.zo tk3 ?_)
  all_goals first|refine AtT.zg ?_|refine AtT.ze ?_|(refine AtT.qa ?_)
  all_goals (refine AtT.qm (d := 29) rfl ((m3)) ?_)
  all_goals (refine AtT.zz ?_)
  all_goals (refine AtT.zh ?_)
  all_goals (first | refine AtT.kL 31 ?_ | refine AtT.zB (d := 31) rfl (fun hg31 => ?_) (fun hg31 => ?_) | refine AtT.zA (d := 31) rfl (fun hg31 => ?_) (fun hg31 => ?_))
  all_goals first|refine AtT.zg ?_|refine AtT.ze ?_|(first | refine AtT.zi zx ?_ | with_reducible refine AtT.zk zx ?_ | refine AtT.zn zx ?_)
  all_goals first|refine AtT.zg ?_|refine AtT.ze ?_|(first | refine AtT.zm tk3 ?_ | refine AtT.zo tk3 ?_)
  all_goals first|refine AtT.zg ?_|refine AtT.ze ?_|(refine AtT.zh ?_)
  all_goals first|refine AtT.zg ?_|refine AtT.ze ?_|(refine AtT.qw ?_)
  all_goals (refine AtT.qm (d := 35) rfl ((m4)) ?_)
  all_goals (refine AtT.zz ?_)
  all_goals (refine AtT.zh ?_)
  all_goals (first | refine AtT.kL 37 ?_ | refine AtT.zB (d := 37) rfl (fun hg37 => ?_) (fun hg37 => ?_) | refine AtT.zA (d := 37) rfl (fun hg37 => ?_) (fun hg37 => ?_))
  all_goals first|refine AtT.zg ?_|refine AtT.ze ?_|(first | refine AtT.zi zH ?_ | with_reducible refine AtT.zk zH ?_ | refine AtT.zn zH ?_)
  all_goals first|refine AtT.zg ?_|refine AtT.ze ?_|(first | refine AtT.zm tk3 ?_ | refine AtT.zo tk3 ?_)
  all_goals first|refine AtT.zg ?_|refine AtT.ze ?_|(refine AtT.qa ?_)
  all_goals (refine AtT.qm (d := 40) rfl ((m5)) ?_)
  all_goals (refine AtT.zz ?_)
  all_goals (refine AtT.zh ?_)
  all_goals (first | refine AtT.kL 42 ?_ | refine AtT.zB (d := 42) rfl (fun hg42 => ?_) (fun hg42 => ?_) | refine AtT.zA (d := 42) rfl (fun hg42 => ?_) (fun hg42 => ?_))
  all_goals first|refine AtT.zg ?_|refine AtT.ze ?_|(first | refine AtT.zi zG ?_ | with_reducible refine AtT.zk zG ?_ | refine AtT.zn zG ?_)
  all_goals first|refine AtT.zg ?_|refine AtT.ze ?_|(first | refine AtT.zm tk3 ?_ | refine AtT.zo tk3 ?_)
  all_goals first|refine AtT.zg ?_|refine AtT.ze ?_|(refine AtT.qa ?_)
  all_goals (refine AtT.qJ (d := 45) rfl ((m6)) ?_)
  all_goals (refine AtT.zz ?_)
  all_goals (refine AtT.zh ?_)
  all_goals (first | refine AtT.kL 47 ?_ | refine AtT.zB (d := 47) rfl (fun hg47 => ?_) (fun hg47 => ?_) | refine AtT.zA (d := 47) rfl (fun hg47 => ?_) (fun hg47 => ?_))
  all_goals first|refine AtT.zg ?_|refine AtT.ze ?_|(first | refine AtT.zi zH ?_ | with_reducible refine AtT.zk zH ?_ | refine AtT.zn zH ?_)
  all_goals first|refine AtT.zg ?_|refine AtT.ze ?_|(first | refine AtT.zm tk3 ?_ | refine AtT.zo tk3 ?_)
  all_goals first|refine AtT.zg ?_|refine AtT.ze ?_|(refine AtT.zh ?_)
  all_goals first|refine AtT.zg ?_|refine AtT.ze ?_|(first | refine AtT.zi zy ?_ | with_reducible refine AtT.zk zy ?_ | refine AtT.zn zy ?_)
  all_goals first|refine AtT.zg ?_|refine AtT.ze ?_|(first | refine AtT.zm tk3 ?_ | refine AtT.zo tk3 ?_)
  all_goals first|refine AtT.zg ?_|refine AtT.ze ?_|(first | refine AtT.qD ?_ | refine AtT.qE ?_)
  all_goals first|refine AtT.zg ?_|refine AtT.ze ?_|(refine AtT.qw ?_)
  all_goals (refine AtT.zz ?_)
  all_goals (refine AtT.zh ?_)
  all_goals (first | refine AtT.kL 56 ?_ | refine AtT.zB (d := 56) rfl (fun hg56 => ?_) (fun hg56 => ?_) | refine AtT.zA (d := 56) rfl (fun hg56 => ?_) (fun hg56 => ?_))
  all_goals first|refine AtT.zg ?_|refine AtT.ze ?_|(first | refine AtT.zi zG ?_ | with_reducible refine AtT.zk zG ?_ | refine AtT.zn zG ?_)
  all_goals first|refine AtT.zg ?_|refine AtT.ze ?_|(first | refine AtT.zm tk3 ?_ | refine AtT.zo tk3 ?_)
  all_goals first|refine AtT.zg ?_|refine AtT.ze ?_|(refine AtT.zh ?_)
  all_goals first|refine AtT.zg ?_|refine AtT.ze ?_|(first | refine AtT.zi zx ?_ | with_reducible refine AtT.zk zx ?_ | refine AtT.zn zx ?_)
  all_goals first|refine AtT.zg ?_|refine AtT.ze ?_|(first | refine AtT.zm tk3 ?_ | refine AtT.zo tk3 ?_)
  all_goals first|refine AtT.zg ?_|refine AtT.ze ?_|(first | refine AtT.qD ?_ | refine AtT.qE ?_)
  all_goals first|refine AtT.zg ?_|refine AtT.ze ?_|(refine AtT.qw ?_)
  all_goals (refine AtT.zz ?_)
  all_goals refine AtT.done ?_
  all_goals (refine At.nrm ?_)
  refine At.qB rfl rfl ?_
  refine At.nrm ?_
  refine At.zl (.q 0 .done) ?_
  refine AtT.zf ?_
  refine AtT.done ?_
  refine At.nrm ?_
  exact At.qb rfl (.tmp rfl) (by unfold peE; rw [if_pos (by omega)])
 by_cases m7 : (s.rows.length : Int) - p.h < p.t
 ·refine At.zl (.q 0 (.q 1 (.q 2 (.q 3 (.q 4 (.q 5 (.q 6 (.q 7 (.q 8 (.q 9 (.q 10 (.q 11 (.q 12 (.q 13 (.q 14 (.q 15 (.q 16 (.q 17 (.q 18 (.q 19 (.q 20 (.q 21 (.q 22 (.q 23 (.q 24 (.q 25 (.q 26 (.q 27 (.q 28 (.q 29 (.q 30 (.q 31 (.q 32 (.q 33 (.q 34 (.q 35 (.q 36 (.q 37 (.q 38 (.q 39 (.q 40 (.q 41 (.q 42 (.q 43 (.q 44 (.q 45 (.q 46 (.q 47 .done)))))))))))))))))))))))))))))))))))))))))))))))) ?_
  first | refine AtT.zi zy ?_ | with_reducible refine AtT.zk zy ?_ | refine AtT.zn zy ?_
  first | refine AtT.zm tk3 ?_ | refine AtT.zo tk3 ?_
  refine AtT.qa ?_
  refine AtT.qm (d := 19) rfl ((m1)) ?_
  refine AtT.zh ?_
  all_goals (first | refine AtT.kL 20 ?_ | refine AtT.zB (d := 20) rfl (fun hg20 => ?_) (fun hg20 => ?_) | refine AtT.zA (d := 20) rfl (fun hg20 => ?_) (fun hg20 => ?_))
  all_goals first|refine AtT.zg ?_|refine AtT.ze ?_|(first | refine AtT.zi zy ?_ | with_reducible refine AtT.zk zy ?_ | refine AtT.zn zy ?_)
  all_goals first|refine AtT.zg ?_|refine AtT.ze ?_|(first | refine AtT.zm tk3 ?_ | refine AtT.zo tk3 ?_)
  all_goals first|refine AtT.zg ?_|refine AtT.ze ?_|(refine AtT.zh ?_)
  all_goals first|refine AtT.zg ?_|refine AtT.ze ?_|(refine AtT.qw ?_)
  all_goals (refine AtT.qm (d := 24) rfl ((m2)) ?_)
  all_goals (refine AtT.zz ?_)
  all_goals (refine AtT.zh ?_)
  all_goals (first | refine AtT.kL 26 ?_ | refine AtT.zB (d := 26) rfl (fun hg26 => ?_) (fun hg26 => ?_) | refine AtT.zA (d := 26) rfl (fun hg26 => ?_) (fun hg26 => ?_))
  all_goals first|refine AtT.zg ?_|refine AtT.ze ?_|(first | refine AtT.zi zx ?_ | with_reducible refine AtT.zk zx ?_ | refine AtT.zn zx ?_)
  all_goals first|refine AtT.zg ?_|refine AtT.ze ?_|(first | refine AtT.zm tk3 ?_ | refine AtT.zo tk3 ?_)
  all_goals first|refine AtT.zg ?_|refine AtT.ze ?_|(refine AtT.qa ?_)
  all_goals (refine AtT.qm (d := 29) rfl ((m3)) ?_)
  all_goals (refine AtT.zz ?_)
  all_goals (refine AtT.zh ?_)
  all_goals (first | refine AtT.kL 31 ?_ | refine AtT.zB (d := 31) rfl (fun hg31 => ?_) (fun hg31 => ?_) | refine AtT.zA (d := 31) rfl (fun hg31 => ?_) (fun hg31 => ?_))
  all_goals first|refine AtT.zg ?_|refine AtT.ze ?_|(first | refine AtT.zi zx ?_ | with_reducible refine AtT.zk zx ?_ | refine AtT.zn zx ?_)
  all_goals first|refine AtT.zg ?_|refine AtT.ze ?_|(first | refine AtT.zm tk3 ?_ | refine AtT.zo tk3 ?_)
  all_goals first|refine AtT.zg ?_|refine AtT.ze ?_|(refine AtT.zh ?_)
  all_goals first|refine AtT.zg ?_|refine AtT.ze ?_|(refine AtT.qw ?_)
  all_goals (refine AtT.qm (d := 35) rfl ((m4)) ?_)
  all_goals (refine AtT.zz ?_)
  all_goals (refine AtT.zh ?_)
  all_goals (first | refine AtT.kL 37 ?_ | refine AtT.zB (d := 37) rfl (fun hg37 => ?_) (fun hg37 => ?_) | refine AtT.zA (d := 37) rfl (fun hg37 => ?_) (fun hg37 => ?_))
  all_goals first|refine AtT.zg ?_|refine AtT.ze ?_|(first | refine AtT.zi zH ?_ | with_reducible refine AtT.zk zH ?_ | refine AtT.zn zH ?_)
  all_goals first|refine AtT.zg ?_|refine AtT.ze ?_|(first | refine AtT.zm tk3 ?_ | refine AtT.zo tk3 ?_)
  all_goals first|refine AtT.zg ?_|refine AtT.ze ?_|(refine AtT.qa ?_)
  all_goals (refine AtT.qm (d := 40) rfl ((m5)) ?_)
  all_goals (refine AtT.zz ?_)
  all_goals (refine AtT.zh ?_)
  all_goals (first | refine AtT.kL 42 ?_ | refine AtT.zB (d := 42) rfl (fun hg42 => ?_) (fun hg42 => ?_) | refine AtT.zA (d := 42) rfl (fun hg42 => ?_) (fun hg42 => ?_))
  all_goals first|refine AtT.zg ?_|refine AtT.ze ?_|(first | refine AtT.zi zG ?_ | with_reducible refine AtT.zk zG ?_ | refine AtT.zn zG ?_)
  all_goals first|refine AtT.zg ?_|refine AtT.ze ?_|(first | refine AtT.zm tk3 ?_ | refine AtT.zo tk3 ?_)
  all_goals first|refine AtT.zg ?_|refine AtT.ze ?_|(refine AtT.qa ?_)
  all_goals (refine AtT.qm (d := 45) rfl ((m6)) ?_)
  all_goals (refine AtT.zz ?_)
  all_goals (refine AtT.zh ?_)
  all_goals (first | refine AtT.kL 47 ?_ | refine AtT.zB (d := 47) rfl (fun hg47 => ?_) (fun hg47 => ?_) | refine AtT.zA (d := 47) rfl (fun hg47 => ?_) (fun hg47 => ?_))
  all_goals first|refine AtT.zg ?_|refine AtT.ze ?_|(first | refine AtT.zi zH ?_ | with_reducible refine AtT.zk zH ?_ | refine AtT.zn zH ?_)
  all_goals first|refine AtT.zg ?_|refine AtT.ze ?_|(first | refine AtT.zm tk3 ?_ | refine AtT.zo tk3 ?_)
  all_goals first|refine AtT.zg ?_|refine AtT.ze ?_|(refine AtT.zh ?_)
  all_goals first|refine AtT.zg ?_|refine AtT.ze ?_|(first | refine AtT.zi zy ?_ | with_reducible refine AtT.zk zy ?_ | refine AtT.zn zy ?_)
  all_goals first|refine AtT.zg ?_|refine AtT.ze ?_|(first | refine AtT.zm tk3 ?_ | refine AtT.zo tk3 ?_)
  all_goals first|refine AtT.zg ?_|refine AtT.ze ?_|(first | refine AtT.qD ?_ | refine AtT.qE ?_)
  all_goals first|refine AtT.zg ?_|refine AtT.ze ?_|(refine AtT.qw ?_)
  all_goals (refine AtT.qJ (d := 54) rfl ((m7)) ?_)
  all_goals (refine AtT.zz ?_)
  all_goals (refine AtT.zh ?_)
  all_goals (first | refine AtT.kL 56 ?_ | refine AtT.zB (d := 56) rfl (fun hg56 => ?_) (fun hg56 => ?_) | refine AtT.zA (d := 56) rfl (fun hg56 => ?_) (fun hg56 => ?_))
  all_goals first|refine AtT.zg ?_|refine AtT.ze ?_|(first | refine AtT.zi zG ?_ | with_reducible refine AtT.zk zG ?_ | refine AtT.zn zG ?_)
  all_goals first|refine AtT.zg ?_|refine AtT.ze ?_|(first | refine AtT.zm tk3 ?_ | refine AtT.zo tk3 ?_)
  all_goals first|refine AtT.zg ?_|refine AtT.ze ?_|(refine AtT.zh ?_)
  all_goals first|refine AtT.zg ?_|refine AtT.ze ?_|(first | refine AtT.zi zx ?_ | with_reducible refine AtT.zk zx ?_ | refine AtT.zn zx ?_)
  all_goals first|refine AtT.zg ?_|refine AtT.ze ?_|(first | refine AtT.zm tk3 ?_ | refine AtT.zo tk3 ?_)
  all_goals first|refine AtT.zg ?_|refine AtT.ze ?_|(first | refine AtT.qD ?_ | refine AtT.qE ?_)
  all_goals first|refine AtT.zg ?_|refine AtT.ze ?_|(refine AtT.qw ?_)
  all_goals (refine AtT.zz ?_)
  all_goals refine AtT.done ?_
  all_goals (refine At.nrm ?_)
  refine At.qB rfl rfl ?_
  refine At.nrm ?_
  refine At.zl (.q 0 .done) ?_
  refine AtT.zf ?_
  refine AtT.done ?_
  refine At.nrm ?_
  exact At.qb rfl (.tmp rfl) (by unfold peE; rw [if_pos (by omega)])
 by_cases m8 : (wdS s : Int) - p.w < p.l
 ·refine At.zl (.q 0 (.q 1 (.q 2 (.q 3 (.q 4 (.q 5 (.q 6 (.q 7 (.q 8 (.q 9 (.q 10 (.q 11 (.q 12 (.q 13 (.q 14 (.q 15 (.q 16 (.q 17 (.q 18 (.q 19 (.q 20 (.q 21 (.q 22 (.q 23 (.q 24 (.q 25 (.q 26 (.q 27 (.q 28 (.q 29 (.q 30 (.q 31 (.q 32 (.q 33 (.q 34 (.q 35 (.q 36 (.q 37 (.q 38 (.q 39 (.q 40 (.q 41 (.q 42 (.q 43 (.q 44 (.q 45 (.q 46 (.q 47 .done)))))))))))))))))))))))))))))))))))))))))))))))) ?_
  first | refine AtT.zi zy ?_ | with_reducible refine AtT.zk zy ?_ | refine AtT.zn zy ?_
  first | refine AtT.zm tk3 ?_ | refine AtT.zo tk3 ?_
  refine AtT.qa ?_
  refine AtT.qm (d := 19) rfl ((m1)) ?_
  refine AtT.zh ?_
  all_goals (first | refine AtT.kL 20 ?_ | refine AtT.zB (d := 20) rfl (fun hg20 => ?_) (fun hg20 => ?_) | refine AtT.zA (d := 20) rfl (fun hg20 => ?_) (fun hg20 => ?_))
  all_goals first|refine AtT.zg ?_|refine AtT.ze ?_|(first | refine AtT.zi zy ?_ | with_reducible refine AtT.zk zy ?_ | refine AtT.zn zy ?_)
  all_goals first|refine AtT.zg ?_|refine AtT.ze ?_|(first | refine AtT.zm tk3 ?_ | refine AtT.zo tk3 ?_)
  all_goals first|refine AtT.zg ?_|refine AtT.ze ?_|(refine AtT.zh ?_)
  all_goals first|refine AtT.zg ?_|refine AtT.ze ?_|(refine AtT.qw ?_)
  all_goals (refine AtT.qm (d := 24) rfl ((m2)) ?_)
  all_goals (refine AtT.zz ?_)
  all_goals (refine AtT.zh ?_)
  all_goals (first | refine AtT.kL 26 ?_ | refine AtT.zB (d := 26) rfl (fun hg26 => ?_) (fun hg26 => ?_) | refine AtT.zA (d := 26) rfl (fun hg26 => ?_) (fun hg26 => ?_))
  all_goals first|refine AtT.zg ?_|refine AtT.ze ?_|(first | refine AtT.zi zx ?_ | with_reducible refine AtT.zk zx ?_ | refine AtT.zn zx ?_)
  all_goals first|refine AtT.zg ?_|refine AtT.ze ?_|(first | refine AtT.zm tk3 ?_ | refine AtT.zo tk3 ?_)
  all_goals first|refine AtT.zg ?_|refine AtT.ze ?_|(refine AtT.qa ?_)
  all_goals (refine AtT.qm (d := 29) rfl ((m3)) ?_)
  all_goals (refine AtT.zz ?_)
  all_goals (refine AtT.zh ?_)
  all_goals (first | refine AtT.kL 31 ?_ | refine AtT.zB (d := 31) rfl (fun hg31 => ?_) (fun hg31 => ?_) | refine AtT.zA (d := 31) rfl (fun hg31 => ?_) (fun hg31 => ?_))
  all_goals first|refine AtT.zg ?_|refine AtT.ze ?_|(first | refine AtT.zi zx ?_ | with_reducible refine AtT.zk zx ?_ | refine AtT.zn zx ?_)
  all_goals first|refine AtT.zg ?_|refine AtT.ze ?_|(first | refine AtT.zm tk3 ?_ | refine AtT.zo tk3 ?_)
  all_goals first|refine AtT.zg ?_|refine AtT.ze ?_|(refine AtT.zh ?_)
  all_goals first|refine AtT.zg ?_|refine AtT.ze ?_|(refine AtT.qw ?_)
  all_goals (refine AtT.qm (d := 35) rfl ((m4)) ?_)
  all_goals (refine AtT.zz ?_)
  all_goals (refine AtT.zh ?_)
  all_goals (first | refine AtT.kL 37 ?_ | refine AtT.zB (d := 37) rfl (fun hg37 => ?_) (fun hg37 => ?_) | refine AtT.zA (d := 37) rfl (fun hg37 => ?_) (fun hg37 => ?_))
  all_goals first|refine AtT.zg ?_|refine AtT.ze ?_|(first | refine AtT.zi zH ?_ | with_reducible refine AtT.zk zH ?_ | refine AtT.zn zH ?_)
  all_goals first|refine AtT.zg ?_|refine AtT.ze ?_|(first | refine AtT.zm tk3 ?_ | refine AtT.zo tk3 ?_)
  all_goals first|refine AtT.zg ?_|refine AtT.ze ?_|(refine AtT.qa ?_)
  all_goals (refine AtT.qm (d := 40) rfl ((m5)) ?_)
  all_goals (refine AtT.zz ?_)
  all_goals (refine AtT.zh ?_)
  all_goals (first | refine AtT.kL 42 ?_ | refine AtT.zB (d := 42) rfl (fun hg42 => ?_) (fun hg42 => ?_) | refine AtT.zA (d := 42) rfl (fun hg42 => ?_) (fun hg42 => ?_))
  all_goals first|refine AtT.zg ?_|refine AtT.ze ?_|(first | refine AtT.zi zG ?_ | with_reducible refine AtT.zk zG ?_ | refine AtT.zn zG ?_)
  all_goals first|refine AtT.zg ?_|refine AtT.ze ?_|(first | refine AtT.zm tk3 ?_ | refine AtT.zo tk3 ?_)
  all_goals first|refine AtT.zg ?_|refine AtT.ze ?_|(refine AtT.qa ?_)
  all_goals (refine AtT.qm (d := 45) rfl ((m6)) ?_)
  all_goals (refine AtT.zz ?_)
  all_goals (refine AtT.zh ?_)
  all_goals (first | refine AtT.kL 47 ?_ | refine AtT.zB (d := 47) rfl (fun hg47 => ?_) (fun hg47 => ?_) | refine AtT.zA (d := 47) rfl (fun hg47 => ?_) (fun hg47 => ?_))
  all_goals first|refine AtT.zg ?_|refine AtT.ze ?_|(first | refine AtT.zi zH ?_ | with_reducible refine AtT.zk zH ?_ | refine AtT.zn zH ?_)
  all_goals first|refine AtT.zg ?_|refine AtT.ze ?_|(first | refine AtT.zm tk3 ?_ | refine AtT.zo tk3 ?_)
  all_goals first|refine AtT.zg ?_|refine AtT.ze ?_|(refine AtT.zh ?_)
  all_goals first|refine AtT.zg ?_|refine AtT.ze ?_|(first | refine AtT.zi zy ?_ | with_reducible refine AtT.zk zy ?_ | refine AtT.zn zy ?_)
  all_goals first|refine AtT.zg ?_|refine AtT.ze ?_|(first | refine AtT.zm tk3 ?_ | refine AtT.zo tk3 ?_)
  all_goals first|refine AtT.zg ?_|refine AtT.ze ?_|(first | refine AtT.qD ?_ | refine AtT.qE ?_)
  all_goals first|refine AtT.zg ?_|refine AtT.ze ?_|(refine AtT.qw ?_)
  all_goals (refine AtT.qm (d := 54) rfl ((m7)) ?_)
  all_goals (refine AtT.zz ?_)
  all_goals (refine AtT.zh ?_)
  all_goals (first | refine AtT.kL 56 ?_ | refine AtT.zB (d := 56) rfl (fun hg56 => ?_) (fun hg56 => ?_) | refine AtT.zA (d := 56) rfl (fun hg56 => ?_) (fun hg56 => ?_))
  all_goals first|refine AtT.zg ?_|refine AtT.ze ?_|(first | refine AtT.zi zG ?_ | with_reducible refine AtT.zk zG ?_ | refine AtT.zn zG ?_)
  all_goals first|refine AtT.zg ?_|refine AtT.ze ?_|(first | refine AtT.zm tk3 ?_ | refine AtT.zo tk3 ?_)
  all_goals first|refine AtT.zg ?_|refine AtT.ze ?_|(refine AtT.zh ?_)
  all_goals first|refine AtT.zg ?_|refine AtT.ze ?_|(first | refine AtT.zi zx ?_ | with_reducible refine AtT.zk zx ?_ | refine AtT.zn zx ?_)
  all_goals first|refine AtT.zg ?_|refine AtT.ze ?_|(first | refine AtT.zm tk3 ?_ | refine AtT.zo tk3 ?_)
  all_goals first|refine AtT.zg ?_|refine AtT.ze ?_|(first | refine AtT.qD ?_ | refine AtT.qE ?_)
  all_goals first|refine AtT.zg ?_|refine AtT.ze ?_|(refine AtT.qw ?_)
  all_goals (refine AtT.qJ (d := 63) rfl ((m8)) ?_)
  all_goals (refine AtT.zz ?_)
  all_goals refine AtT.done ?_
  all_goals (refine At.nrm ?_)
  refine At.qB rfl rfl ?_
  refine At.nrm ?_
  refine At.zl (.q 0 .done) ?_
  refine AtT.zf ?_
  refine AtT.done ?_
  refine At.nrm ?_
  exact At.qb rfl (.tmp rfl) (by unfold peE; rw [if_pos (by omega)])
 refine At.zl (.q 0 (.q 1 (.q 2 (.q 3 (.q 4 (.q 5 (.q 6 (.q 7 (.q 8 (.q 9 (.q 10 (.q 11 (.q 12 (.q 13 (.q 14 (.q 15 (.q 16 (.q 17 (.q 18 (.q 19 (.q 20 (.q 21 (.q 22 (.q 23 (.q 24 (.q 25 (.q 26 (.q 27 (.q 28 (.q 29 (.q 30 (.q 31 (.q 32 (.q 33 (.q 34 (.q 35 (.q 36 (.q 37 (.q 38 (.q 39 (.q 40 (.q 41 (.q 42 (.q 43 (.q 44 (.q 45 (.q 46 (.q 47 .done)))))))))))))))))))))))))))))))))))))))))))))))) ?_
 first | refine AtT.zi zy ?_ | with_reducible refine AtT.zk zy ?_ | refine AtT.zn zy ?_
 first | refine AtT.zm tk3 ?_ | refine AtT.zo tk3 ?_
 refine AtT.qa ?_
 refine AtT.qm (d := 19) rfl ((m1)) ?_
 refine AtT.zh ?_
 all_goals (first | refine AtT.kL 20 ?_ | refine AtT.zB (d := 20) rfl (fun hg20 => ?_) (fun hg20 => ?_) | refine AtT.zA (d := 20) rfl (fun hg20 => ?_) (fun hg20 => ?_))
 all_goals first|refine AtT.zg ?_|refine AtT.ze ?_|(first | refine AtT.zi zy ?_ | with_reducible refine AtT.zk zy ?_ | refine AtT.zn zy ?_)
 all_goals first|refine AtT.zg ?_|refine AtT.ze ?_|(first | refine AtT.zm tk3 ?_ | refine AtT.zo tk3 ?_)
 all_goals first|refine AtT.zg ?_|refine AtT.ze ?_|(refine AtT.zh ?_)
 all_goals first|refine AtT.zg ?_|refine AtT.ze ?_|(refine AtT.qw ?_)
 all_goals (refine AtT.qm (d := 24) rfl ((m2)) ?_)
 all_goals (refine AtT.zz ?_)
 all_goals (refine AtT.zh ?_)
 all_goals (first | refine AtT.kL 26 ?_ | refine AtT.zB (d := 26) rfl (fun hg26 => ?_) (fun hg26 => ?_) | refine AtT.zA (d := 26) rfl (fun hg26 => ?_) (fun hg26 => ?_))
 all_goals first|refine AtT.zg ?_|refine AtT.ze ?_|(first | refine AtT.zi zx ?_ | with_reducible refine AtT.zk zx ?_ | refine AtT.zn zx ?_)
 all_goals first|refine AtT.zg ?_|refine AtT.ze ?_|(first | refine AtT.zm tk3 ?_ | refine AtT.zo tk3 ?_)
 all_goals first|refine AtT.zg ?_|refine AtT.ze ?_|(refine AtT.qa ?_)
 all_goals (refine AtT.qm (d := 29) rfl ((m3)) ?_)
 all_goals (refine AtT.zz ?_)
 all_goals (refine AtT.zh ?_)
 all_goals (first | refine AtT.kL 31 ?_ | refine AtT.zB (d := 31) rfl (fun hg31 => ?_) (fun hg31 => ?_) | refine AtT.zA (d := 31) rfl (fun hg31 => ?_) (fun hg31 => ?_))
 all_goals first|refine AtT.zg ?_|refine AtT.ze ?_|(first | refine AtT.zi zx ?_ | with_reducible refine AtT.zk zx ?_ | refine AtT.zn zx ?_)
 all_goals first|refine AtT.zg ?_|refine AtT.ze ?_|(first | refine AtT.zm tk3 ?_ | refine AtT.zo tk3 ?_)
 all_goals first|refine AtT.zg ?_|refine AtT.ze ?_|(refine AtT.zh ?_)
 all_goals first|refine AtT.zg ?_|refine AtT.ze ?_|(refine AtT.qw ?_)
 all_goals (refine AtT.qm (d := 35) rfl ((m4)) ?_)
 all_goals (refine AtT.zz ?_)
 all_goals (refine AtT.zh ?_)
 all_goals (first | refine AtT.kL 37 ?_ | refine AtT.zB (d := 37) rfl (fun hg37 => ?_) (fun hg37 => ?_) | refine AtT.zA (d := 37) rfl (fun hg37 => ?_) (fun hg37 => ?_))
 all_goals first|refine AtT.zg ?_|refine AtT.ze ?_|(first | refine AtT.zi zH ?_ | with_reducible refine AtT.zk zH ?_ | refine AtT.zn zH ?_)
 all_goals first|refine AtT.zg ?_|refine AtT.ze ?_|(first | refine AtT.zm tk3 ?_ | refine AtT.zo tk3 ?_)
 all_goals first|refine AtT.zg ?_|refine AtT.ze ?_|(refine AtT.qa ?_)
 all_goals (refine AtT.qm (d := 40) rfl ((m5)) ?_)
 all_goals (refine AtT.zz ?_)
 all_goals (refine AtT.zh ?_)
 all_goals (first | refine AtT.kL 42 ?_ | refine AtT.zB (d := 42) rfl (fun hg42 => ?_) (fun hg42 => ?_) | refine AtT.zA (d := 42) rfl (fun hg42 => ?_) (fun hg42 => ?_))
 all_goals first|refine AtT.zg ?_|refine AtT.ze ?_|(first | refine AtT.zi zG ?_ | with_reducible refine AtT.zk zG ?_ | refine AtT.zn zG ?_)
 all_goals first|refine AtT.zg ?_|refine AtT.ze ?_|(first | refine AtT.zm tk3 ?_ | refine AtT.zo tk3 ?_)
 all_goals first|refine AtT.zg ?_|refine AtT.ze ?_|(refine AtT.qa ?_)
 all_goals (refine AtT.qm (d := 45) rfl ((m6)) ?_)
 all_goals (refine AtT.zz ?_)
 all_goals (refine AtT.zh ?_)
 all_goals (first | refine AtT.kL 47 ?_ | refine AtT.zB (d := 47) rfl (fun hg47 => ?_) (fun hg47 => ?_) | refine AtT.zA (d := 47) rfl (fun hg47 => ?_) (fun hg47 => ?_))
 all_goals first|refine AtT.zg ?_|refine AtT.ze ?_|(first | refine AtT.zi zH ?_ | with_reducible refine AtT.zk zH ?_ | refine AtT.zn zH ?_)
 all_goals first|refine AtT.zg ?_|refine AtT.ze ?_|(first | refine AtT.zm tk3 ?_ | refine AtT.zo tk3 ?_)
 all_goals first|refine AtT.zg ?_|refine AtT.ze ?_|(refine AtT.zh ?_)
 all_goals first|refine AtT.zg ?_|refine AtT.ze ?_|(first | refine AtT.zi zy ?_ | with_reducible refine AtT.zk zy ?_ | refine AtT.zn zy ?_)
 all_goals first|refine AtT.zg ?_|refine AtT.ze ?_|(first | refine AtT.zm tk3 ?_ | refine AtT.zo tk3 ?_)
 all_goals first|refine AtT.zg ?_|refine AtT.ze ?_|(first | refine AtT.qD ?_ | refine AtT.qE ?_)
 all_goals first|refine AtT.zg ?_|refine AtT.ze ?_|(refine AtT.qw ?_)
 all_goals (refine AtT.qm (d := 54) rfl ((m7)) ?_)
 all_goals (refine AtT.zz ?_)
 all_goals (refine AtT.zh ?_)
 all_goals (first | refine AtT.kL 56 ?_ | refine AtT.zB (d := 56) rfl (fun hg56 => ?_) (fun hg56 => ?_) | refine AtT.zA (d := 56) rfl (fun hg56 => ?_) (fun hg56 => ?_))
 all_goals first|refine AtT.zg ?_|refine AtT.ze ?_|(first | refine AtT.zi zG ?_ | with_reducible refine AtT.zk zG ?_ | refine AtT.zn zG ?_)
 all_goals first|refine AtT.zg ?_|refine AtT.ze ?_|(first | refine AtT.zm tk3 ?_ | refine AtT.zo tk3 ?_)
 all_goals first|refine AtT.zg ?_|refine AtT.ze ?_|(refine AtT.zh ?_)
 all_goals first|refine AtT.zg ?_|refine AtT.ze ?_|(first | refine AtT.zi zx ?_ | with_reducible refine AtT.zk zx ?_ | refine AtT.zn zx ?_)
 all_goals first|refine AtT.zg ?_|refine AtT.ze ?_|(first | refine AtT.zm tk3 ?_ | refine AtT.zo tk3 ?_)
 all_goals first|refine AtT.zg ?_|refine AtT.ze ?_|(first | refine AtT.qD ?_ | refine AtT.qE ?_)
 all_goals first|refine AtT.zg ?_|refine AtT.ze ?_|(refine AtT.qw ?_)
 all_goals (refine AtT.qm (d := 63) rfl ((m8)) ?_)
 all_goals (refine AtT.zz ?_)
 all_goals refine AtT.done ?_
 all_goals (refine At.nrm ?_)
 refine At.qW rfl rfl ?_
 have hin : 1 ≤ p.h ∧ p.h ≤ (gdS s).R ∧ 1 ≤ p.w ∧ p.w ≤ (gdS s).C ∧ 0 ≤ p.t ∧ 0 ≤ p.l ∧ p.t ≤ (gdS s).R - p.h ∧ p.l ≤ (gdS s).C - p.w := by omega
 obtain ⟨T, hT⟩ : ∃ T : Nat, p.t = (T : Int) := ⟨p.t.toNat, by omega⟩
 obtain ⟨L, hL⟩ : ∃ L : Nat, p.l = (L : Int) := ⟨p.l.toNat, by omega⟩
 refine At.nrm ?_
 refine At.zl (.q 0 (.q 1 (.q 2 .done))) ?_
 first | refine AtT.zi zH ?_ | with_reducible refine AtT.zk zH ?_ | refine AtT.zn zH ?_
 first | refine AtT.zm tk3 ?_ | refine AtT.zo tk3 ?_
 refine AtT.zf ?_
 refine AtT.done ?_
 refine At.nrm ?_
 refine At.lp (ι := Nat) (KS := fun i => [(2, .pointer (some ⟨b2, 0, none⟩)), (3, .pointer (some ⟨b3, 0, none⟩)), (7, iv i)]) (OS := fun _ => [.blk b2 (LC [.slice a s.rows.length c, iv s.most] 24), .blk b3 (LC (pce p) 26)])
  (VS := fun i V' => V' = V1 ∧ T ≤ i ∧ (i : Int) ≤ p.t + p.h ∧ ∀ i' k' : Int, p.t ≤ i' → i' < i → p.l ≤ k' → k' < p.l + p.w → (gdS s).fig i' k' = false) (μ := fun i => (p.t + p.h - (i : Int)).toNat) T ?_ ?_ ?_ ?_
 ·exact ⟨rfl, rfl, ivs hT, trivial⟩
 ·exact Pt.zO
 ·exact ⟨rfl, Nat.le_refl _, by omega, fun i' k' h1 h2 => by omega⟩
 rintro i V' ks' O' ⟨rfl, hTi, hil, hfi⟩ hk hO hl2
 subst hk hO
 refine At.nrm ?_
 refine At.zl (.q 0 (.q 1 (.q 2 (.q 3 (.q 4 (.q 5 (.q 6 .done))))))) ?_
 refine AtT.zh ?_
 first | refine AtT.zi zH ?_ | with_reducible refine AtT.zk zH ?_ | refine AtT.zn zH ?_
 first | refine AtT.zm tk3 ?_ | refine AtT.zo tk3 ?_
 first | refine AtT.zi zy ?_ | with_reducible refine AtT.zk zy ?_ | refine AtT.zn zy ?_
 first | refine AtT.zm tk3 ?_ | refine AtT.zo tk3 ?_
 first | refine AtT.qi ?_ | refine AtT.zT ?_
 refine AtT.qa ?_
 refine AtT.done ?_
 refine At.nrm ?_
 refine At.qc rfl (fun hp => ?_) (fun hp => ?_)
 ·obtain ⟨r, hr⟩ : ∃ r, s.rows[i]? = some r := ⟨_, List.getElem?_eq_getElem (by omega)⟩
  have hrs := hok.sz r (List.mem_of_getElem? hr)
  refine At.nrm ?_
  refine At.zl (.q 0 (.q 1 (.q 2 .done))) ?_
  first | refine AtT.zi zG ?_ | with_reducible refine AtT.zk zG ?_ | refine AtT.zn zG ?_
  first | refine AtT.zm tk3 ?_ | refine AtT.zo tk3 ?_
  refine AtT.zf ?_
  refine AtT.done ?_
  refine At.nrm ?_
  refine At.lp (ι := Nat) (KS := fun k => [(2, .pointer (some ⟨b2, 0, none⟩)), (3, .pointer (some ⟨b3, 0, none⟩)), (7, iv i), (8, iv k)]) (OS := fun _ => [.blk b2 (LC [.slice a s.rows.length c, iv s.most] 24), .blk b3 (LC (pce p) 26)])
   (VS := fun k V2 => V2 = V' ∧ L ≤ k ∧ (k : Int) ≤ p.l + p.w ∧ ∀ k' : Int, p.l ≤ k' → k' < k → (gdS s).fig i k' = false) (μ := fun k => (p.l + p.w - (k : Int)).toNat) L ?_ ?_ ?_ ?_
  ·exact ⟨rfl, rfl, rfl, ivs hL, trivial⟩
  ·exact Pt.zO
  ·exact ⟨rfl, Nat.le_refl _, by omega, fun k' h1 h2 => by omega⟩
  rintro k V2 ks' O' ⟨rfl, hLk, hkl, hfk⟩ hk hO hl3
  subst hk hO
  refine At.nrm ?_
  refine At.zl (.q 0 (.q 1 (.q 2 (.q 3 (.q 4 (.q 5 (.q 6 .done))))))) ?_
  refine AtT.zh ?_
  first | refine AtT.zi zG ?_ | with_reducible refine AtT.zk zG ?_ | refine AtT.zn zG ?_
  first | refine AtT.zm tk3 ?_ | refine AtT.zo tk3 ?_
  first | refine AtT.zi zx ?_ | with_reducible refine AtT.zk zx ?_ | refine AtT.zn zx ?_
  first | refine AtT.zm tk3 ?_ | refine AtT.zo tk3 ?_
  first | refine AtT.qi ?_ | refine AtT.zT ?_
  refine AtT.qa ?_
  refine AtT.done ?_
  refine At.nrm ?_
  refine At.qc rfl (fun hp2 => ?_) (fun hp2 => ?_)
  ·have hfe : (gdS s).fig i k = decide (bv r k = 35) := by
    unfold gdS chS
    dsimp only
    rw [Int.toNat_natCast, Int.toNat_natCast, row_at hr]
   refine At.nrm ?_
   refine At.zl (.q 0 (.q 1 (.q 2 (.q 3 (.q 4 (.q 5 (.q 6 (.q 7 .done)))))))) ?_
   first | refine AtT.zi zt ?_ | with_reducible refine AtT.zk zt ?_ | refine AtT.zn zt ?_
   first | refine AtT.zm zV ?_ | refine AtT.zo zV ?_
   refine AtT.zh ?_
   refine AtT.qp Tryz.underlying22 tk9 ?_
   intro p90 e90 he90 hc90
   obtain rfl : r = e90 := by have : s.rows[i]? = some e90 := (by simpa using he90); rw [hr] at this; simpa using this
   first | refine AtT.zm tk9 ?_ | refine AtT.zo tk9 ?_
   refine AtT.zh ?_
   refine AtT.ixS rfl trivial Tryz.underlying9 rfl rfl (by omega) (by omega) (by decide) ?_
   rw [Int.toNat_natCast]
   refine AtT.jg ?_
   refine AtT.done ?_
   refine At.nrm ?_
   refine At.qc rfl (fun hb => ?_) (fun hb => ?_)
   ·have hF : hasF (gdS s) p = true := hasF_iff.2 ⟨i, k, by omega, by omega, by omega, by omega, by rw [hfe]; exact decide_eq_true hb⟩
    refine At.nrm ?_
    refine At.zl (.q 0 .done) ?_
    refine AtT.zf ?_
    refine AtT.done ?_
    refine At.nrm ?_
    exact At.qb rfl (.tmp rfl) (by unfold peE; rw [if_neg (by omega), if_pos hF])
   ·refine At.nrm ?_
    refine At.zl (.q 0 (.q 1 (.q 2 .done))) ?_
    refine AtT.zh ?_
    first | refine AtT.qi ?_ | refine AtT.zT ?_
    refine AtT.zf ?_
    refine AtT.done ?_
    refine At.nrm ?_
    refine At.round (k + 1) ?_ ?_ ?_ ?_
    ·show (p.l + p.w - ((k + 1 : Nat) : Int)).toNat < (p.l + p.w - (k : Int)).toNat; omega
    ·refine ⟨rfl, by omega, by omega, fun k' h1 h2 => ?_⟩
     by_cases e : k' = k
     ·subst e; rw [hfe]; exact decide_eq_false hb
     ·exact hfk k' h1 (by omega)
    ·exact ⟨rfl, rfl, rfl, ivs (by omega), trivial⟩
    ·exact Pt.zO
  ·refine At.nrm ?_
   refine At.zl (.q 0 (.q 1 (.q 2 .done))) ?_
   refine AtT.zh ?_
   first | refine AtT.qi ?_ | refine AtT.zT ?_
   refine AtT.zf ?_
   refine AtT.done ?_
   refine At.nrm ?_
   refine At.round (i + 1) ?_ ?_ ?_ ?_
   ·show (p.t + p.h - ((i + 1 : Nat) : Int)).toNat < (p.t + p.h - (i : Int)).toNat; omega
   ·refine ⟨rfl, by omega, by omega, fun i' k' h1 h2 h3 h4 => ?_⟩
    by_cases e : i' = i
    ·subst e; exact hfk k' h3 (by omega)
    ·exact hfi i' k' h1 (by omega) h3 h4
   ·exact ⟨rfl, rfl, ivs (by omega), trivial⟩
   ·exact Pt.zO
 have hF : ¬ hasF (gdS s) p = true := fun hc => by
  obtain ⟨i', k', h1, h2, h3, h4, h5⟩ := hasF_iff.1 hc
  rw [hfi i' k' h1 (by omega) h3 h4] at h5; cases h5
 have hab := ar_bd (h := p.h) (w := p.w) (by omega) (by omega)
 have hfit : Fit (p.h * p.w) := Fit.of (by omega) (by omega)
 refine At.nrm ?_
 refine At.zl (.q 0 (.q 1 (.q 2 (.q 3 (.q 4 (.q 5 (.q 6 (.q 7 .done)))))))) ?_
 first | refine AtT.zi zy ?_ | with_reducible refine AtT.zk zy ?_ | refine AtT.zn zy ?_
 first | refine AtT.zm tk3 ?_ | refine AtT.zo tk3 ?_
 first | refine AtT.zi zx ?_ | with_reducible refine AtT.zk zx ?_ | refine AtT.zn zx ?_
 first | refine AtT.zm tk3 ?_ | refine AtT.zo tk3 ?_
 first | refine AtT.kmul ?_ | refine AtT.kmulW ?_
 first | refine AtT.zi zR ?_ | with_reducible refine AtT.zk zR ?_ | refine AtT.zn zR ?_
 first | refine AtT.zm tk3 ?_ | refine AtT.zo tk3 ?_
 refine AtT.qw ?_
 refine AtT.done ?_
 refine At.nrm ?_
 refine At.qc rfl (fun hb => ?_) (fun hb => ?_)
 ·refine At.nrm ?_
  refine At.zl (.q 0 .done) ?_
  refine AtT.zf ?_
  refine AtT.done ?_
  refine At.nrm ?_
  exact At.qb rfl (.tmp rfl) (by unfold peE arP; rw [if_neg (by omega), if_neg hF, if_pos (by rw [hM]; exact hb)])
 ·refine At.nrm ?_
  refine At.zl (.q 0 .done) ?_
  refine AtT.zf ?_
  refine AtT.done ?_
  refine At.nrm ?_
  exact At.qb rfl (.tmp rfl) (by unfold peE arP; rw [if_neg (by omega), if_neg hF, if_neg (by rw [hM]; exact hb)])
theorem rhas_f (p : Pc) (k : Cl) (hb : -1000 ≤ p.t ∧ p.t ≤ 1000 ∧ -1000 ≤ p.l ∧ p.l ≤ 1000 ∧ -1000 ≤ p.h ∧ p.h ≤ 1000 ∧ -1000 ≤ p.w ∧ p.w ≤ 1000) (V : View) : Fnc Tryz.prog 48 [pcv p, clv k] V fun r _ => r = .bool (decide (inP p k)) := by
 refine qf Tryz.func48 rfl Tryz.ntmps48 (Nat.le_of_ble_eq_true rfl) ?_
 intro w0 hw0
 refine At.nrm ?_
 refine At.zl (.n false 0 (.n false 1 (.q 2 .done))) ?_
 refine AtT.jb ?_
 intro b2
 refine AtT.jb ?_
 intro b3
 refine AtT.zf ?_
 refine AtT.done ?_
 refine At.nrm ?_
 by_cases c1 : p.t ≤ k.r
 rotate_left
 ·refine At.zl (.q 0 (.q 1 (.q 2 (.q 3 (.q 4 (.q 5 (.q 6 (.q 7 (.q 8 (.q 9 (.q 10 (.q 11 (.q 12 (.q 13 (.q 14 (.q 15 (.q 16 (.q 17 (.q 18 (.q 19 (.q 20 (.q 21 (.q 22 (.q 23 (.q 24 (.q 25 (.q 26 (.q 27 (.q 28 (.q 29 (.q 30 (.q 31 (.q 32 .done))))))))))))))))))))))))))))))))) ?_
  first | refine AtT.zi qA ?_ | with_reducible refine AtT.zk qA ?_ | refine AtT.zn qA ?_
  first | refine AtT.zm tk3 ?_ | refine AtT.zo tk3 ?_
  first | refine AtT.zi zH ?_ | with_reducible refine AtT.zk zH ?_ | refine AtT.zn zH ?_
  first | refine AtT.zm tk3 ?_ | refine AtT.zo tk3 ?_
  refine AtT.kgeq ?_
  refine AtT.qm (d := 9) rfl (c1) ?_
  refine AtT.zh ?_
  all_goals (first | refine AtT.kL 10 ?_ | refine AtT.zB (d := 10) rfl (fun hg10 => ?_) (fun hg10 => ?_) | refine AtT.zA (d := 10) rfl (fun hg10 => ?_) (fun hg10 => ?_))
  all_goals first|refine AtT.zg ?_|refine AtT.ze ?_|(first | refine AtT.zi qA ?_ | with_reducible refine AtT.zk qA ?_ | refine AtT.zn qA ?_)
  all_goals first|refine AtT.zg ?_|refine AtT.ze ?_|(first | refine AtT.zm tk3 ?_ | refine AtT.zo tk3 ?_)
  all_goals first|refine AtT.zg ?_|refine AtT.ze ?_|(first | refine AtT.zi zH ?_ | with_reducible refine AtT.zk zH ?_ | refine AtT.zn zH ?_)
  all_goals first|refine AtT.zg ?_|refine AtT.ze ?_|(first | refine AtT.zm tk3 ?_ | refine AtT.zo tk3 ?_)
  all_goals first|refine AtT.zg ?_|refine AtT.ze ?_|(first | refine AtT.zi zy ?_ | with_reducible refine AtT.zk zy ?_ | refine AtT.zn zy ?_)
  all_goals first|refine AtT.zg ?_|refine AtT.ze ?_|(first | refine AtT.zm tk3 ?_ | refine AtT.zo tk3 ?_)
  all_goals first|refine AtT.zg ?_|refine AtT.ze ?_|(first | refine AtT.qi ?_ | refine AtT.zT ?_)
  all_goals first|refine AtT.zg ?_|refine AtT.ze ?_|(refine AtT.qa ?_)
  all_goals (refine AtT.zz ?_)
  all_goals (refine AtT.zh ?_)
  all_goals (first | refine AtT.kL 20 ?_ | refine AtT.zB (d := 20) rfl (fun hg20 => ?_) (fun hg20 => ?_) | refine AtT.zA (d := 20) rfl (fun hg20 => ?_) (fun hg20 => ?_))
  all_goals first|refine AtT.zg ?_|refine AtT.ze ?_|(first | refine AtT.zi qz ?_ | with_reducible refine AtT.zk qz ?_ | refine AtT.zn qz ?_)
  all_goals first|refine AtT.zg ?_|refine AtT.ze ?_|(first | refine AtT.zm tk3 ?_ | refine AtT.zo tk3 ?_)
  all_goals first|refine AtT.zg ?_|refine AtT.ze ?_|(first | refine AtT.zi zG ?_ | with_reducible refine AtT.zk zG ?_ | refine AtT.zn zG ?_)
  all_goals first|refine AtT.zg ?_|refine AtT.ze ?_|(first | refine AtT.zm tk3 ?_ | refine AtT.zo tk3 ?_)
  all_goals first|refine AtT.zg ?_|refine AtT.ze ?_|(refine AtT.kgeq ?_)
  all_goals (refine AtT.zz ?_)
  all_goals (refine AtT.zh ?_)
  all_goals (first | refine AtT.kL 27 ?_ | refine AtT.zB (d := 27) rfl (fun hg27 => ?_) (fun hg27 => ?_) | refine AtT.zA (d := 27) rfl (fun hg27 => ?_) (fun hg27 => ?_))
  all_goals first|refine AtT.zg ?_|refine AtT.ze ?_|(first | refine AtT.zi qz ?_ | with_reducible refine AtT.zk qz ?_ | refine AtT.zn qz ?_)
  all_goals first|refine AtT.zg ?_|refine AtT.ze ?_|(first | refine AtT.zm tk3 ?_ | refine AtT.zo tk3 ?_)
  all_goals first|refine AtT.zg ?_|refine AtT.ze ?_|(first | refine AtT.zi zG ?_ | with_reducible refine AtT.zk zG ?_ | refine AtT.zn zG ?_)
  all_goals first|refine AtT.zg ?_|refine AtT.ze ?_|(first | refine AtT.zm tk3 ?_ | refine AtT.zo tk3 ?_)
  all_goals first|refine AtT.zg ?_|refine AtT.ze ?_|(first | refine AtT.zi zx ?_ | with_reducible refine AtT.zk zx ?_ | refine AtT.zn zx ?_)
  all_goals first|refine AtT.zg ?_|refine AtT.ze ?_|(first | refine AtT.zm tk3 ?_ | refine AtT.zo tk3 ?_)
  all_goals first|refine AtT.zg ?_|refine AtT.ze ?_|(first | refine AtT.qi ?_ | refine AtT.zT ?_)
  all_goals first|refine AtT.zg ?_|refine AtT.ze ?_|(refine AtT.qa ?_)
  all_goals (refine AtT.zz ?_)
  all_goals (refine AtT.zf ?_)
  all_goals refine AtT.done ?_
  all_goals (refine At.nrm ?_)
  exact At.qb rfl (.tmp rfl) (by rw [decide_eq_false (fun h => c1 h.1)]; rfl)
 by_cases c2 : k.r < p.t + p.h
 rotate_left
 ·refine At.zl (.q 0 (.q 1 (.q 2 (.q 3 (.q 4 (.q 5 (.q 6 (.q 7 (.q 8 (.q 9 (.q 10 (.q 11 (.q 12 (.q 13 (.q 14 (.q 15 (.q 16 (.q 17 (.q 18 (.q 19 (.q 20 (.q 21 (.q 22 (.q 23 (.q 24 (.q 25 (.q 26 (.q 27 (.q 28 (.q 29 (.q 30 (.q 31 (.q 32 .done))))))))))))))))))))))))))))))))) ?_
  first | refine AtT.zi qA ?_ | with_reducible refine AtT.zk qA ?_ | refine AtT.zn qA ?_
  first | refine AtT.zm tk3 ?_ | refine AtT.zo tk3 ?_
  first | refine AtT.zi zH ?_ | with_reducible refine AtT.zk zH ?_ | refine AtT.zn zH ?_
  first | refine AtT.zm tk3 ?_ | refine AtT.zo tk3 ?_
  refine AtT.kgeq ?_
  refine AtT.qJ (d := 9) rfl (c1) ?_
  refine AtT.zh ?_
  all_goals (first | refine AtT.kL 10 ?_ | refine AtT.zB (d := 10) rfl (fun hg10 => ?_) (fun hg10 => ?_) | refine AtT.zA (d := 10) rfl (fun hg10 => ?_) (fun hg10 => ?_))
  all_goals first|refine AtT.zg ?_|refine AtT.ze ?_|(first | refine AtT.zi qA ?_ | with_reducible refine AtT.zk qA ?_ | refine AtT.zn qA ?_)
  all_goals first|refine AtT.zg ?_|refine AtT.ze ?_|(first | refine AtT.zm tk3 ?_ | refine AtT.zo tk3 ?_)
  all_goals first|refine AtT.zg ?_|refine AtT.ze ?_|(first | refine AtT.zi zH ?_ | with_reducible refine AtT.zk zH ?_ | refine AtT.zn zH ?_)
  all_goals first|refine AtT.zg ?_|refine AtT.ze ?_|(first | refine AtT.zm tk3 ?_ | refine AtT.zo tk3 ?_)
  all_goals first|refine AtT.zg ?_|refine AtT.ze ?_|(first | refine AtT.zi zy ?_ | with_reducible refine AtT.zk zy ?_ | refine AtT.zn zy ?_)
  all_goals first|refine AtT.zg ?_|refine AtT.ze ?_|(first | refine AtT.zm tk3 ?_ | refine AtT.zo tk3 ?_)
  all_goals first|refine AtT.zg ?_|refine AtT.ze ?_|(first | refine AtT.qi ?_ | refine AtT.zT ?_)
  all_goals first|refine AtT.zg ?_|refine AtT.ze ?_|(refine AtT.qa ?_)
  all_goals (refine AtT.qm (d := 18) rfl (c2) ?_)
  all_goals (refine AtT.zz ?_)
  all_goals (refine AtT.zh ?_)
  all_goals (first | refine AtT.kL 20 ?_ | refine AtT.zB (d := 20) rfl (fun hg20 => ?_) (fun hg20 => ?_) | refine AtT.zA (d := 20) rfl (fun hg20 => ?_) (fun hg20 => ?_))
  all_goals first|refine AtT.zg ?_|refine AtT.ze ?_|(first | refine AtT.zi qz ?_ | with_reducible refine AtT.zk qz ?_ | refine AtT.zn qz ?_)
  all_goals first|refine AtT.zg ?_|refine AtT.ze ?_|(first | refine AtT.zm tk3 ?_ | refine AtT.zo tk3 ?_)
  all_goals first|refine AtT.zg ?_|refine AtT.ze ?_|(first | refine AtT.zi zG ?_ | with_reducible refine AtT.zk zG ?_ | refine AtT.zn zG ?_)
  all_goals first|refine AtT.zg ?_|refine AtT.ze ?_|(first | refine AtT.zm tk3 ?_ | refine AtT.zo tk3 ?_)
  all_goals first|refine AtT.zg ?_|refine AtT.ze ?_|(refine AtT.kgeq ?_)
  all_goals (refine AtT.zz ?_)
  all_goals (refine AtT.zh ?_)
  all_goals (first | refine AtT.kL 27 ?_ | refine AtT.zB (d := 27) rfl (fun hg27 => ?_) (fun hg27 => ?_) | refine AtT.zA (d := 27) rfl (fun hg27 => ?_) (fun hg27 => ?_))
  all_goals first|refine AtT.zg ?_|refine AtT.ze ?_|(first | refine AtT.zi qz ?_ | with_reducible refine AtT.zk qz ?_ | refine AtT.zn qz ?_)
  all_goals first|refine AtT.zg ?_|refine AtT.ze ?_|(first | refine AtT.zm tk3 ?_ | refine AtT.zo tk3 ?_)
  all_goals first|refine AtT.zg ?_|refine AtT.ze ?_|(first | refine AtT.zi zG ?_ | with_reducible refine AtT.zk zG ?_ | refine AtT.zn zG ?_)
  all_goals first|refine AtT.zg ?_|refine AtT.ze ?_|(first | refine AtT.zm tk3 ?_ | refine AtT.zo tk3 ?_)
  all_goals first|refine AtT.zg ?_|refine AtT.ze ?_|(first | refine AtT.zi zx ?_ | with_reducible refine AtT.zk zx ?_ | refine AtT.zn zx ?_)
  all_goals first|refine AtT.zg ?_|refine AtT.ze ?_|(first | refine AtT.zm tk3 ?_ | refine AtT.zo tk3 ?_)
  all_goals first|refine AtT.zg ?_|refine AtT.ze ?_|(first | refine AtT.qi ?_ | refine AtT.zT ?_)
  all_goals first|refine AtT.zg ?_|refine AtT.ze ?_|(refine AtT.qa ?_)
  all_goals (refine AtT.zz ?_)
  all_goals (refine AtT.zf ?_)
  all_goals refine AtT.done ?_
  all_goals (refine At.nrm ?_)
  exact At.qb rfl (.tmp rfl) (by rw [decide_eq_false (fun h => c2 h.2.1)]; rfl)
 by_cases c3 : p.l ≤ k.c
 rotate_left
 ·refine At.zl (.q 0 (.q 1 (.q 2 (.q 3 (.q 4 (.q 5 (.q 6 (.q 7 (.q 8 (.q 9 (.q 10 (.q 11 (.q 12 (.q 13 (.q 14 (.q 15 (.q 16 (.q 17 (.q 18 (.q 19 (.q 20 (.q 21 (.q 22 (.q 23 (.q 24 (.q 25 (.q 26 (.q 27 (.q 28 (.q 29 (.q 30 (.q 31 (.q 32 .done))))))))))))))))))))))))))))))))) ?_
  first | refine AtT.zi qA ?_ | with_reducible refine AtT.zk qA ?_ | refine AtT.zn qA ?_
  first | refine AtT.zm tk3 ?_ | refine AtT.zo tk3 ?_
  first | refine AtT.zi zH ?_ | with_reducible refine AtT.zk zH ?_ | refine AtT.zn zH ?_
  first | refine AtT.zm tk3 ?_ | refine AtT.zo tk3 ?_
  refine AtT.kgeq ?_
  refine AtT.qJ (d := 9) rfl (c1) ?_
  refine AtT.zh ?_
  all_goals (first | refine AtT.kL 10 ?_ | refine AtT.zB (d := 10) rfl (fun hg10 => ?_) (fun hg10 => ?_) | refine AtT.zA (d := 10) rfl (fun hg10 => ?_) (fun hg10 => ?_))
  all_goals first|refine AtT.zg ?_|refine AtT.ze ?_|(first | refine AtT.zi qA ?_ | with_reducible refine AtT.zk qA ?_ | refine AtT.zn qA ?_)
  all_goals first|refine AtT.zg ?_|refine AtT.ze ?_|(first | refine AtT.zm tk3 ?_ | refine AtT.zo tk3 ?_)
  all_goals first|refine AtT.zg ?_|refine AtT.ze ?_|(first | refine AtT.zi zH ?_ | with_reducible refine AtT.zk zH ?_ | refine AtT.zn zH ?_)
  all_goals first|refine AtT.zg ?_|refine AtT.ze ?_|(first | refine AtT.zm tk3 ?_ | refine AtT.zo tk3 ?_)
  all_goals first|refine AtT.zg ?_|refine AtT.ze ?_|(first | refine AtT.zi zy ?_ | with_reducible refine AtT.zk zy ?_ | refine AtT.zn zy ?_)
  all_goals first|refine AtT.zg ?_|refine AtT.ze ?_|(first | refine AtT.zm tk3 ?_ | refine AtT.zo tk3 ?_)
  all_goals first|refine AtT.zg ?_|refine AtT.ze ?_|(first | refine AtT.qi ?_ | refine AtT.zT ?_)
  all_goals first|refine AtT.zg ?_|refine AtT.ze ?_|(refine AtT.qa ?_)
  all_goals (refine AtT.qJ (d := 18) rfl (c2) ?_)
  all_goals (refine AtT.zz ?_)
  all_goals (refine AtT.zh ?_)
  all_goals (first | refine AtT.kL 20 ?_ | refine AtT.zB (d := 20) rfl (fun hg20 => ?_) (fun hg20 => ?_) | refine AtT.zA (d := 20) rfl (fun hg20 => ?_) (fun hg20 => ?_))
  all_goals first|refine AtT.zg ?_|refine AtT.ze ?_|(first | refine AtT.zi qz ?_ | with_reducible refine AtT.zk qz ?_ | refine AtT.zn qz ?_)
  all_goals first|refine AtT.zg ?_|refine AtT.ze ?_|(first | refine AtT.zm tk3 ?_ | refine AtT.zo tk3 ?_)
  all_goals first|refine AtT.zg ?_|refine AtT.ze ?_|(first | refine AtT.zi zG ?_ | with_reducible refine AtT.zk zG ?_ | refine AtT.zn zG ?_)
  all_goals first|refine AtT.zg ?_|refine AtT.ze ?_|(first | refine AtT.zm tk3 ?_ | refine AtT.zo tk3 ?_)
  all_goals first|refine AtT.zg ?_|refine AtT.ze ?_|(refine AtT.kgeq ?_)
  all_goals (refine AtT.qm (d := 25) rfl (c3) ?_)
  all_goals (refine AtT.zz ?_)
  all_goals (refine AtT.zh ?_)
  all_goals (first | refine AtT.kL 27 ?_ | refine AtT.zB (d := 27) rfl (fun hg27 => ?_) (fun hg27 => ?_) | refine AtT.zA (d := 27) rfl (fun hg27 => ?_) (fun hg27 => ?_))
  all_goals first|refine AtT.zg ?_|refine AtT.ze ?_|(first | refine AtT.zi qz ?_ | with_reducible refine AtT.zk qz ?_ | refine AtT.zn qz ?_)
  all_goals first|refine AtT.zg ?_|refine AtT.ze ?_|(first | refine AtT.zm tk3 ?_ | refine AtT.zo tk3 ?_)
  all_goals first|refine AtT.zg ?_|refine AtT.ze ?_|(first | refine AtT.zi zG ?_ | with_reducible refine AtT.zk zG ?_ | refine AtT.zn zG ?_)
  all_goals first|refine AtT.zg ?_|refine AtT.ze ?_|(first | refine AtT.zm tk3 ?_ | refine AtT.zo tk3 ?_)
  all_goals first|refine AtT.zg ?_|refine AtT.ze ?_|(first | refine AtT.zi zx ?_ | with_reducible refine AtT.zk zx ?_ | refine AtT.zn zx ?_)
  all_goals first|refine AtT.zg ?_|refine AtT.ze ?_|(first | refine AtT.zm tk3 ?_ | refine AtT.zo tk3 ?_)
  all_goals first|refine AtT.zg ?_|refine AtT.ze ?_|(first | refine AtT.qi ?_ | refine AtT.zT ?_)
  all_goals first|refine AtT.zg ?_|refine AtT.ze ?_|(refine AtT.qa ?_)
  all_goals (refine AtT.zz ?_)
  all_goals (refine AtT.zf ?_)
  all_goals refine AtT.done ?_
  all_goals (refine At.nrm ?_)
  exact At.qb rfl (.tmp rfl) (by rw [decide_eq_false (fun h => c3 h.2.2.1)]; rfl)
 by_cases c4 : k.c < p.l + p.w
 rotate_left
 ·refine At.zl (.q 0 (.q 1 (.q 2 (.q 3 (.q 4 (.q 5 (.q 6 (.q 7 (.q 8 (.q 9 (.q 10 (.q 11 (.q 12 (.q 13 (.q 14 (.q 15 (.q 16 (.q 17 (.q 18 (.q 19 (.q 20 (.q 21 (.q 22 (.q 23 (.q 24 (.q 25 (.q 26 (.q 27 (.q 28 (.q 29 (.q 30 (.q 31 (.q 32 .done))))))))))))))))))))))))))))))))) ?_
  first | refine AtT.zi qA ?_ | with_reducible refine AtT.zk qA ?_ | refine AtT.zn qA ?_
  first | refine AtT.zm tk3 ?_ | refine AtT.zo tk3 ?_
  first | refine AtT.zi zH ?_ | with_reducible refine AtT.zk zH ?_ | refine AtT.zn zH ?_
  first | refine AtT.zm tk3 ?_ | refine AtT.zo tk3 ?_
  refine AtT.kgeq ?_
  refine AtT.qJ (d := 9) rfl (c1) ?_
  refine AtT.zh ?_
  all_goals (first | refine AtT.kL 10 ?_ | refine AtT.zB (d := 10) rfl (fun hg10 => ?_) (fun hg10 => ?_) | refine AtT.zA (d := 10) rfl (fun hg10 => ?_) (fun hg10 => ?_))
  all_goals first|refine AtT.zg ?_|refine AtT.ze ?_|(first | refine AtT.zi qA ?_ | with_reducible refine AtT.zk qA ?_ | refine AtT.zn qA ?_)
  all_goals first|refine AtT.zg ?_|refine AtT.ze ?_|(first | refine AtT.zm tk3 ?_ | refine AtT.zo tk3 ?_)
  all_goals first|refine AtT.zg ?_|refine AtT.ze ?_|(first | refine AtT.zi zH ?_ | with_reducible refine AtT.zk zH ?_ | refine AtT.zn zH ?_)
  all_goals first|refine AtT.zg ?_|refine AtT.ze ?_|(first | refine AtT.zm tk3 ?_ | refine AtT.zo tk3 ?_)
  all_goals first|refine AtT.zg ?_|refine AtT.ze ?_|(first | refine AtT.zi zy ?_ | with_reducible refine AtT.zk zy ?_ | refine AtT.zn zy ?_)
  all_goals first|refine AtT.zg ?_|refine AtT.ze ?_|(first | refine AtT.zm tk3 ?_ | refine AtT.zo tk3 ?_)
  all_goals first|refine AtT.zg ?_|refine AtT.ze ?_|(first | refine AtT.qi ?_ | refine AtT.zT ?_)
  all_goals first|refine AtT.zg ?_|refine AtT.ze ?_|(refine AtT.qa ?_)
  all_goals (refine AtT.qJ (d := 18) rfl (c2) ?_)
  all_goals (refine AtT.zz ?_)
  all_goals (refine AtT.zh ?_)
  all_goals (first | refine AtT.kL 20 ?_ | refine AtT.zB (d := 20) rfl (fun hg20 => ?_) (fun hg20 => ?_) | refine AtT.zA (d := 20) rfl (fun hg20 => ?_) (fun hg20 => ?_))
  all_goals first|refine AtT.zg ?_|refine AtT.ze ?_|(first | refine AtT.zi qz ?_ | with_reducible refine AtT.zk qz ?_ | refine AtT.zn qz ?_)
  all_goals first|refine AtT.zg ?_|refine AtT.ze ?_|(first | refine AtT.zm tk3 ?_ | refine AtT.zo tk3 ?_)
  all_goals first|refine AtT.zg ?_|refine AtT.ze ?_|(first | refine AtT.zi zG ?_ | with_reducible refine AtT.zk zG ?_ | refine AtT.zn zG ?_)
  all_goals first|refine AtT.zg ?_|refine AtT.ze ?_|(first | refine AtT.zm tk3 ?_ | refine AtT.zo tk3 ?_)
  all_goals first|refine AtT.zg ?_|refine AtT.ze ?_|(refine AtT.kgeq ?_)
  all_goals (refine AtT.qJ (d := 25) rfl (c3) ?_)
  all_goals (refine AtT.zz ?_)
  all_goals (refine AtT.zh ?_)
  all_goals (first | refine AtT.kL 27 ?_ | refine AtT.zB (d := 27) rfl (fun hg27 => ?_) (fun hg27 => ?_) | refine AtT.zA (d := 27) rfl (fun hg27 => ?_) (fun hg27 => ?_))
  all_goals first|refine AtT.zg ?_|refine AtT.ze ?_|(first | refine AtT.zi qz ?_ | with_reducible refine AtT.zk qz ?_ | refine AtT.zn qz ?_)
  all_goals first|refine AtT.zg ?_|refine AtT.ze ?_|(first | refine AtT.zm tk3 ?_ | refine AtT.zo tk3 ?_)
  all_goals first|refine AtT.zg ?_|refine AtT.ze ?_|(first | refine AtT.zi zG ?_ | with_reducible refine AtT.zk zG ?_ | refine AtT.zn zG ?_)
  all_goals first|refine AtT.zg ?_|refine AtT.ze ?_|(first | refine AtT.zm tk3 ?_ | refine AtT.zo tk3 ?_)
  all_goals first|refine AtT.zg ?_|refine AtT.ze ?_|(first | refine AtT.zi zx ?_ | with_reducible refine AtT.zk zx ?_ | refine AtT.zn zx ?_)
  all_goals first|refine AtT.zg ?_|refine AtT.ze ?_|(first | refine AtT.zm tk3 ?_ | refine AtT.zo tk3 ?_)
  all_goals first|refine AtT.zg ?_|refine AtT.ze ?_|(first | refine AtT.qi ?_ | refine AtT.zT ?_)
  all_goals first|refine AtT.zg ?_|refine AtT.ze ?_|(refine AtT.qa ?_)
  all_goals (refine AtT.qm (d := 35) rfl (c4) ?_)
  all_goals (refine AtT.zz ?_)
  all_goals (refine AtT.zf ?_)
  all_goals refine AtT.done ?_
  all_goals (refine At.nrm ?_)
  exact At.qb rfl (.tmp rfl) (by rw [decide_eq_false (fun h => c4 h.2.2.2)]; rfl)
 refine At.zl (.q 0 (.q 1 (.q 2 (.q 3 (.q 4 (.q 5 (.q 6 (.q 7 (.q 8 (.q 9 (.q 10 (.q 11 (.q 12 (.q 13 (.q 14 (.q 15 (.q 16 (.q 17 (.q 18 (.q 19 (.q 20 (.q 21 (.q 22 (.q 23 (.q 24 (.q 25 (.q 26 (.q 27 (.q 28 (.q 29 (.q 30 (.q 31 (.q 32 .done))))))))))))))))))))))))))))))))) ?_
 first | refine AtT.zi qA ?_ | with_reducible refine AtT.zk qA ?_ | refine AtT.zn qA ?_
 first | refine AtT.zm tk3 ?_ | refine AtT.zo tk3 ?_
 first | refine AtT.zi zH ?_ | with_reducible refine AtT.zk zH ?_ | refine AtT.zn zH ?_
 first | refine AtT.zm tk3 ?_ | refine AtT.zo tk3 ?_
 refine AtT.kgeq ?_
 refine AtT.qJ (d := 9) rfl (c1) ?_
 refine AtT.zh ?_
 all_goals (first | refine AtT.kL 10 ?_ | refine AtT.zB (d := 10) rfl (fun hg10 => ?_) (fun hg10 => ?_) | refine AtT.zA (d := 10) rfl (fun hg10 => ?_) (fun hg10 => ?_))
 all_goals first|refine AtT.zg ?_|refine AtT.ze ?_|(first | refine AtT.zi qA ?_ | with_reducible refine AtT.zk qA ?_ | refine AtT.zn qA ?_)
 all_goals first|refine AtT.zg ?_|refine AtT.ze ?_|(first | refine AtT.zm tk3 ?_ | refine AtT.zo tk3 ?_)
 all_goals first|refine AtT.zg ?_|refine AtT.ze ?_|(first | refine AtT.zi zH ?_ | with_reducible refine AtT.zk zH ?_ | refine AtT.zn zH ?_)
 all_goals first|refine AtT.zg ?_|refine AtT.ze ?_|(first | refine AtT.zm tk3 ?_ | refine AtT.zo tk3 ?_)
 all_goals first|refine AtT.zg ?_|refine AtT.ze ?_|(first | refine AtT.zi zy ?_ | with_reducible refine AtT.zk zy ?_ | refine AtT.zn zy ?_)
 all_goals first|refine AtT.zg ?_|refine AtT.ze ?_|(first | refine AtT.zm tk3 ?_ | refine AtT.zo tk3 ?_)
 all_goals first|refine AtT.zg ?_|refine AtT.ze ?_|(first | refine AtT.qi ?_ | refine AtT.zT ?_)
 all_goals first|refine AtT.zg ?_|refine AtT.ze ?_|(refine AtT.qa ?_)
 all_goals (refine AtT.qJ (d := 18) rfl (c2) ?_)
 all_goals (refine AtT.zz ?_)
 all_goals (refine AtT.zh ?_)
 all_goals (first | refine AtT.kL 20 ?_ | refine AtT.zB (d := 20) rfl (fun hg20 => ?_) (fun hg20 => ?_) | refine AtT.zA (d := 20) rfl (fun hg20 => ?_) (fun hg20 => ?_))
 all_goals first|refine AtT.zg ?_|refine AtT.ze ?_|(first | refine AtT.zi qz ?_ | with_reducible refine AtT.zk qz ?_ | refine AtT.zn qz ?_)
 all_goals first|refine AtT.zg ?_|refine AtT.ze ?_|(first | refine AtT.zm tk3 ?_ | refine AtT.zo tk3 ?_)
 all_goals first|refine AtT.zg ?_|refine AtT.ze ?_|(first | refine AtT.zi zG ?_ | with_reducible refine AtT.zk zG ?_ | refine AtT.zn zG ?_)
 all_goals first|refine AtT.zg ?_|refine AtT.ze ?_|(first | refine AtT.zm tk3 ?_ | refine AtT.zo tk3 ?_)
 all_goals first|refine AtT.zg ?_|refine AtT.ze ?_|(refine AtT.kgeq ?_)
 all_goals (refine AtT.qJ (d := 25) rfl (c3) ?_)
 all_goals (refine AtT.zz ?_)
 all_goals (refine AtT.zh ?_)
 all_goals (first | refine AtT.kL 27 ?_ | refine AtT.zB (d := 27) rfl (fun hg27 => ?_) (fun hg27 => ?_) | refine AtT.zA (d := 27) rfl (fun hg27 => ?_) (fun hg27 => ?_))
 all_goals first|refine AtT.zg ?_|refine AtT.ze ?_|(first | refine AtT.zi qz ?_ | with_reducible refine AtT.zk qz ?_ | refine AtT.zn qz ?_)
 all_goals first|refine AtT.zg ?_|refine AtT.ze ?_|(first | refine AtT.zm tk3 ?_ | refine AtT.zo tk3 ?_)
 all_goals first|refine AtT.zg ?_|refine AtT.ze ?_|(first | refine AtT.zi zG ?_ | with_reducible refine AtT.zk zG ?_ | refine AtT.zn zG ?_)
 all_goals first|refine AtT.zg ?_|refine AtT.ze ?_|(first | refine AtT.zm tk3 ?_ | refine AtT.zo tk3 ?_)
 all_goals first|refine AtT.zg ?_|refine AtT.ze ?_|(first | refine AtT.zi zx ?_ | with_reducible refine AtT.zk zx ?_ | refine AtT.zn zx ?_)
 all_goals first|refine AtT.zg ?_|refine AtT.ze ?_|(first | refine AtT.zm tk3 ?_ | refine AtT.zo tk3 ?_)
 all_goals first|refine AtT.zg ?_|refine AtT.ze ?_|(first | refine AtT.qi ?_ | refine AtT.zT ?_)
 all_goals first|refine AtT.zg ?_|refine AtT.ze ?_|(refine AtT.qa ?_)
 all_goals (refine AtT.qJ (d := 35) rfl (c4) ?_)
 all_goals (refine AtT.zz ?_)
 all_goals (refine AtT.zf ?_)
 all_goals refine AtT.done ?_
 all_goals (refine At.nrm ?_)
 exact At.qb rfl (.tmp rfl) (by rw [decide_eq_true ⟨c1, c2, c3, c4⟩]; rfl)
theorem rleast_f (K : List Cl) (hK : ∀ k ∈ K, 0 ≤ k.r ∧ k.r ≤ 99 ∧ 0 ≤ k.c ∧ k.c ≤ 99) (h10 : K.length ≤ 60) (b : Nat) (hb : b < 9223372036854775808) (V : View) (v : Value) (hs : Sl V cle 2 v K) : Fnc Tryz.prog 49 [v, iv b] V fun r _ => r = pcv (bbx (sel K b)) := by
 have hlen := hs.je
 obtain ⟨a, c, rfl, k1, k2, _⟩ := id hs
 clear k1 k2
 have hsel : ∀ n, ∀ k ∈ qR K b n, 0 ≤ k.r ∧ k.r ≤ 99 ∧ 0 ≤ k.c ∧ k.c ≤ 99 := fun n k hk => by
  obtain ⟨i, _, h1, _⟩ := (selK_mem n).1 hk
  exact hK k (List.mem_of_getElem? h1)
 refine qf Tryz.func49 rfl Tryz.ntmps49 (Nat.le_of_ble_eq_true rfl) ?_
 intro w0 hw0
 refine At.nrm ?_
 refine At.zl (.n false 0 .done) ?_
 refine AtT.qx z26 ?_
 intro b4
 refine AtT.done ?_
 refine At.nrm ?_
 refine At.zl (.q 0 (.q 1 (.q 2 (.q 3 .done)))) ?_
 refine AtT.zf ?_
 refine AtT.zf ?_
 refine AtT.zf ?_
 refine AtT.zf ?_
 refine AtT.done ?_
 refine At.nrm ?_
 refine At.zl (.q 0 .done) ?_
 refine AtT.zf ?_
 refine AtT.done ?_
 refine At.nrm ?_
 refine At.lp (ι := Nat) (KS := fun n => [(0, .slice a K.length c), (1, iv b), (4, .pointer (some ⟨b4, 0, none⟩)), (5, iv (mnL (·.r) (qR K b n))), (6, iv (mnL (·.c) (qR K b n))), (7, iv (mxL (·.r) (qR K b n))), (8, iv (mxL (·.c) (qR K b n))), (9, iv n)])
  (OS := fun _ => [.blk b4 (LC (pce ⟨0, 0, 0, 0⟩) 26)]) (VS := fun n V' => V' = V ∧ n ≤ K.length) (μ := fun n => K.length - n) 0 ?_ ?_ ?_ ?_
 ·exact ⟨rfl, rfl, rfl, rfl, rfl, rfl, rfl, rfl, trivial⟩
 ·exact Pt.zO
 ·exact ⟨rfl, Nat.zero_le _⟩
 rintro n V' ks' O' ⟨rfl, hnl⟩ hk hO hl2
 subst hk hO
 refine At.nrm ?_
 refine At.zl (.q 0 (.q 1 (.q 2 (.q 3 .done)))) ?_
 refine AtT.zh ?_
 refine AtT.zh ?_
 first | refine AtT.zY Tryz.underlying58 ?_ | refine AtT.zZ Tryz.underlying58 ?_
 refine AtT.qa ?_
 refine AtT.done ?_
 refine At.nrm ?_
 refine At.qc rfl (fun hp => ?_) (fun hp => ?_)
 ·obtain ⟨x, hx⟩ : ∃ x, K[n]? = some x := ⟨_, List.getElem?_eq_getElem (by omega)⟩
  have hxb := hK x (List.mem_of_getElem? hx)
  have hat := selK_at (b := b) hx
  have hshr : b >>> n < 9223372036854775808 := Nat.lt_of_le_of_lt (Nat.shiftRight_le _ _) hb
  refine At.nrmB ?_
  refine At.jr (ι := Unit) (fun _ => [(0, .slice a K.length c), (1, iv b), (4, .pointer (some ⟨b4, 0, none⟩)), (5, iv (mnL (·.r) (qR K b (n + 1)))), (6, iv (mnL (·.c) (qR K b (n + 1)))), (7, iv (mxL (·.r) (qR K b (n + 1)))), (8, iv (mxL (·.c) (qR K b (n + 1)))), (9, iv n)])
   (fun _ => [.blk b4 (LC (pce ⟨0, 0, 0, 0⟩) 26)]) (fun _ V'' => V'' = V') ?_ ?_
  ·refine At.nrm ?_
   by_cases hbit : b.testBit n = true
   ·rw [if_pos hbit] at hat
    have e1 := mnL_snoc (·.r) x (qR K b n) hxb.2.1
    have e2 := mnL_snoc (·.c) x (qR K b n) hxb.2.2.2
    have e3 := mxL_snoc (·.r) x (qR K b n) (by omega)
    have e4 := mxL_snoc (·.c) x (qR K b n) (by omega)
    rw [hat, e1, e2, e3, e4]
    refine At.zl (.q 0 (.q 1 (.q 2 (.q 3 (.q 4 .done))))) ?_
    refine AtT.zh ?_
    refine AtT.zh ?_
    refine AtT.shrN rfl trivial rfl rfl rfl rfl (by omega) (by decide) (A := b) (N := n) ?_
    refine AtT.andN rfl trivial rfl rfl rfl rfl (by omega) (by decide) (by decide) (A := b >>> n) (B := 1) ?_
    refine AtT.jg ?_
    refine AtT.qJ (d := 20) rfl (((bit_iff b n).2 hbit)) ?_
    refine AtT.done ?_
    refine At.nrm ?_
    refine At.qB rfl rfl ?_
    refine At.nrm ?_
    refine At.draw (.q 0 (.q 1 (.q 2 (.q 3 (.q 4 (.q 5 (.q 6 (.q 7 (.q 8 (.q 9 (.q 10 (.q 11 (.q 12 (.q 13 (.q 14 (.q 15 .done)))))))))))))))) ffm (by kernel_rfl) ?_
    refine AtT.zh ?_
    refine AtT.zh ?_
    refine AtT.zh ?_
    refine AtT.qp Tryz.underlying58 tk67 ?_
    intro p24 e24 he24 hc24
    obtain rfl : x = e24 := by have : K[n]? = some e24 := (by simpa using he24); rw [hx] at this; simpa using this
    first | refine AtT.zi qA ?_ | with_reducible refine AtT.zk qA ?_ | refine AtT.zn qA ?_
    first | refine AtT.zm tk3 ?_ | refine AtT.zo tk3 ?_
    refine AtT.kmin2 ?_
    refine AtT.zh ?_
    refine AtT.zh ?_
    refine AtT.zh ?_
    refine AtT.qp Tryz.underlying58 tk67 ?_
    intro p31 e31 he31 hc31
    obtain rfl : x = e31 := by have : K[n]? = some e31 := (by simpa using he31); rw [hx] at this; simpa using this
    first | refine AtT.zi qz ?_ | with_reducible refine AtT.zk qz ?_ | refine AtT.zn qz ?_
    first | refine AtT.zm tk3 ?_ | refine AtT.zo tk3 ?_
    refine AtT.kmin2 ?_
    refine AtT.zf ?_
    refine AtT.zf ?_
    refine AtT.done ?_
    refine At.nrm ?_
    refine At.draw (.q 0 (.q 1 (.q 2 (.q 3 (.q 4 (.q 5 (.q 6 (.q 7 (.q 8 (.q 9 (.q 10 (.q 11 (.q 12 (.q 13 (.q 14 (.q 15 .done)))))))))))))))) ffm (by kernel_rfl) ?_
    refine AtT.zh ?_
    refine AtT.zh ?_
    refine AtT.zh ?_
    refine AtT.qp Tryz.underlying58 tk67 ?_
    intro p38 e38 he38 hc38
    obtain rfl : x = e38 := by have : K[n]? = some e38 := (by simpa using he38); rw [hx] at this; simpa using this
    first | refine AtT.zi qA ?_ | with_reducible refine AtT.zk qA ?_ | refine AtT.zn qA ?_
    first | refine AtT.zm tk3 ?_ | refine AtT.zo tk3 ?_
    refine AtT.kmax2 ?_
    refine AtT.zh ?_
    refine AtT.zh ?_
    refine AtT.zh ?_
    refine AtT.qp Tryz.underlying58 tk67 ?_
    intro p45 e45 he45 hc45
    obtain rfl : x = e45 := by have : K[n]? = some e45 := (by simpa using he45); rw [hx] at this; simpa using this
    first | refine AtT.zi qz ?_ | with_reducible refine AtT.zk qz ?_ | refine AtT.zn qz ?_
    first | refine AtT.zm tk3 ?_ | refine AtT.zo tk3 ?_
    refine AtT.kmax2 ?_
    refine AtT.zf ?_
    refine AtT.zf ?_
    refine AtT.done ?_
    refine At.nrm ?_
    exact At.qC () rfl ⟨rfl, rfl, rfl, rfl, rfl, rfl, rfl, rfl, trivial⟩ Pt.zO
   ·rw [if_neg hbit] at hat
    rw [hat]
    refine At.zl (.q 0 (.q 1 (.q 2 (.q 3 (.q 4 .done))))) ?_
    refine AtT.zh ?_
    refine AtT.zh ?_
    refine AtT.shrN rfl trivial rfl rfl rfl rfl (by omega) (by decide) (A := b) (N := n) ?_
    refine AtT.andN rfl trivial rfl rfl rfl rfl (by omega) (by decide) (by decide) (A := b >>> n) (B := 1) ?_
    refine AtT.jg ?_
    refine AtT.qm (d := 20) rfl ((fun h => hbit ((bit_iff b n).1 h))) ?_
    refine AtT.done ?_
    refine At.nrm ?_
    refine At.qW rfl rfl ?_
    refine At.nrm ?_
    exact At.qC () rfl ⟨rfl, rfl, rfl, rfl, rfl, rfl, rfl, rfl, trivial⟩ Pt.zO
  rintro _ V3 ks' O' rfl hk hO hl4
  subst hk hO
  refine At.nrm ?_
  refine At.zl (.q 0 (.q 1 (.q 2 .done))) ?_
  refine AtT.zh ?_
  first | refine AtT.qi ?_ | refine AtT.zT ?_
  refine AtT.zf ?_
  refine AtT.done ?_
  refine At.nrm ?_
  refine At.round (n + 1) ?_ ?_ ?_ ?_
  ·show K.length - (n + 1) < K.length - n; omega
  ·exact ⟨rfl, by omega⟩
  ·exact ⟨rfl, rfl, rfl, rfl, rfl, rfl, rfl, ivs (by omega), trivial⟩
  ·exact Pt.zO
 ·obtain rfl : n = K.length := by omega
  have b1 := mnL_bd (f := (·.r)) (l := qR K b K.length) fun k hk => (hsel _ k hk).1
  have b2 := mnL_bd (f := (·.c)) (l := qR K b K.length) fun k hk => (hsel _ k hk).2.2.1
  have b3 := mxL_bd (f := (·.r)) (l := qR K b K.length) fun k hk => (hsel _ k hk).2.1
  have b4' := mxL_bd (f := (·.c)) (l := qR K b K.length) fun k hk => (hsel _ k hk).2.2.2
  refine At.nrm ?_
  refine At.zl (.q 0 (.q 1 (.q 2 (.q 3 (.q 4 (.q 5 (.q 6 (.q 7 (.q 8 (.q 9 (.q 10 (.n true 11 .done)))))))))))) ?_
  refine AtT.zh ?_
  refine AtT.zh ?_
  refine AtT.zh ?_
  refine AtT.zh ?_
  first | refine AtT.qD ?_ | refine AtT.qE ?_
  first | refine AtT.qi ?_ | refine AtT.zT ?_
  refine AtT.zh ?_
  refine AtT.zh ?_
  first | refine AtT.qD ?_ | refine AtT.qE ?_
  first | refine AtT.qi ?_ | refine AtT.zT ?_
  refine AtT.jc (bd26_0_1_2_3 _ _ _ _) ?_
  refine AtT.zW zS ?_
  refine AtT.done ?_
  refine At.nrm ?_
  exact At.qb rfl (.agg rfl zS zX.zO rfl) rfl
end Go.Proofs.YtghomjjffllkeaaGreatDoor
set_option linter.unusedVariables false
namespace Go.Pm
open Go.Gl Go.Lw
def fgP (rows : List ByteArray) (C i k : Nat) : List Int := (List.range 49).map fun j => if (j / 7 ≤ i ∨ (j / 7 = i + 1 ∧ j % 7 ≤ k)) ∧ j % 7 ≤ C then fgN rows (j / 7) (j % 7) else 0
theorem fgP_len (rows : List ByteArray) (C i k : Nat) : (fgP rows C i k).length = 49 := by unfold fgP; simp
theorem fgP_get (rows : List ByteArray) (C i k j : Nat) : (fgP rows C i k)[j]? = if j < 49 then some (if (j / 7 ≤ i ∨ (j / 7 = i + 1 ∧ j % 7 ≤ k)) ∧ j % 7 ≤ C then fgN rows (j / 7) (j % 7) else 0) else none := by
 unfold fgP
 rw [List.getElem?_map]
 by_cases h : j < 49
 ·rw [if_pos h, List.getElem?_range h]; rfl
 ·rw [if_neg h, List.getElem?_eq_none (by simp; omega)]; rfl
theorem fgP_at (rows : List ByteArray) {C i k a b : Nat} (ha : a ≤ 6) (hb : b ≤ 6) (h : a ≤ i ∨ (a = i + 1 ∧ b ≤ k)) (hC : b ≤ C) : (fgP rows C i k)[a * 7 + b]? = some (fgN rows a b) := by
 rw [fgP_get, if_pos (by omega)]
 have e1 : (a * 7 + b) / 7 = a := by omega
 have e2 : (a * 7 + b) % 7 = b := by omega
 rw [e1, e2, if_pos ⟨h, hC⟩]
theorem fgP_start (rows : List ByteArray) (C : Nat) : fgP rows C 0 0 = List.replicate 49 0 := by
 apply List.ext_getElem?
 intro j
 rw [fgP_get, List.getElem?_replicate]
 by_cases h : j < 49
 ·rw [if_pos h, if_pos h]
  split
  ·rename_i hc
   rcases hc.1 with h1 | ⟨h1, h2⟩
   ·rw [show j / 7 = 0 by omega]; rfl
   ·rw [show j % 7 = 0 by omega, fgN_z]
  ·rfl
 ·rw [if_neg h, if_neg h]
theorem fgP_step (rows : List ByteArray) {C i k : Nat} (hk : k < C) (hC : C ≤ 6) (hi : i < 6) : (fgP rows C i k).set ((i + 1) * 7 + (k + 1)) (fgN rows (i + 1) (k + 1)) = fgP rows C i (k + 1) := by
 apply List.ext_getElem?
 intro j
 rw [List.getElem?_set, fgP_len]
 by_cases e : (i + 1) * 7 + (k + 1) = j
 ·subst e
  rw [if_pos rfl, if_pos (by omega), fgP_at rows (by omega) (by omega) (.inr ⟨rfl, Nat.le_refl _⟩) (by omega)]
 ·rw [if_neg e, fgP_get, fgP_get]
  by_cases h : j < 49
  ·rw [if_pos h, if_pos h]
   congr 1
   have : (((j / 7 ≤ i ∨ j / 7 = i + 1 ∧ j % 7 ≤ k) ∧ j % 7 ≤ C)) ↔ (((j / 7 ≤ i ∨ j / 7 = i + 1 ∧ j % 7 ≤ k + 1) ∧ j % 7 ≤ C)) := by omega
   simp only [this]
  ·rw [if_neg h, if_neg h]
theorem fgP_row (rows : List ByteArray) (C i : Nat) : fgP rows C i C = fgP rows C (i + 1) 0 := by
 apply List.ext_getElem?
 intro j
 rw [fgP_get, fgP_get]
 by_cases h : j < 49
 ·rw [if_pos h, if_pos h]
  congr 1
  by_cases c : j / 7 = i + 2 ∧ j % 7 = 0
  ·rw [if_neg (by omega), if_pos (by omega), c.2, fgN_z]
  ·have : (((j / 7 ≤ i ∨ j / 7 = i + 1 ∧ j % 7 ≤ C) ∧ j % 7 ≤ C)) ↔ (((j / 7 ≤ i + 1 ∨ j / 7 = i + 1 + 1 ∧ j % 7 ≤ 0) ∧ j % 7 ≤ C)) := by omega
   simp only [this]
 ·rw [if_neg h, if_neg h]
def fgF (s : Sh) : List Int := fgP s.rows (wdS s) s.rows.length 0
theorem fgF_len (s : Sh) : (fgF s).length = 49 := fgP_len _ _ _ _
theorem fgF_at (s : Sh) {a b : Nat} (ha : a ≤ 6) (hb : b ≤ 6) (h : a ≤ s.rows.length) (hC : b ≤ wdS s) : (fgF s)[a * 7 + b]? = some (fgN s.rows a b) := fgP_at _ ha hb (.inl h) hC
theorem fgF_zero {s : Sh} (hok : ShOk s) (h : fgF s = List.replicate 49 0) {p : Pc} (h0 : 0 ≤ p.t) (h1 : 0 ≤ p.l) (h2 : 0 ≤ p.h) (h3 : 0 ≤ p.w) (hR : p.t + p.h ≤ s.rows.length) (hC : p.l + p.w ≤ wdS s) : hasF (gdS s) p = false := by
 have hn := hok.n
 have hw := hok.w
 have hz : ∀ a b : Nat, a ≤ s.rows.length → b ≤ wdS s → fgN s.rows a b = 0 := fun a b ha hb => by
  have e := fgF_at s (a := a) (b := b) (by omega) (by omega) ha hb
  rw [h, List.getElem?_replicate] at e
  split at e
  ·exact (Option.some.inj e).symm
  ·cases e
 cases c : hasF (gdS s) p with
 | false => rfl
 | true =>
  have := (fig_sums h0 h1 h2 h3).2 c
  rw [hz _ _ (by omega) (by omega), hz _ _ (by omega) (by omega), hz _ _ (by omega) (by omega), hz _ _ (by omega) (by omega)] at this
  omega
theorem fgN_le {s : Sh} (hok : ShOk s) {a b : Nat} (ha : a ≤ s.rows.length) (hb : b ≤ wdS s) : 0 ≤ fgN s.rows a b ∧ fgN s.rows a b ≤ 36 := by
 have hn := hok.n
 have hw := hok.w
 have h := fgN_bd s.rows b a
 refine ⟨h.1, Int.le_trans h.2 ?_⟩
 have : (a : Int) * b ≤ 6 * 6 := Int.mul_le_mul (by omega) (by omega) (by omega) (by omega)
 omega
end Go.Pm
namespace Go.Lw
section
variable {cx : Cx} {n : Nat} {ks : List (Nat × Value)} {O O' : List Own} {V : View} {P : Program} {ops : Array Oper} {Qn : Act → World → Prop} {t : Tr} {i : Nat} {T : TypeId} {pos : String} {after : Array Edge} {gd : Option (Nat × Bool)} {x : Operand}
theorem AtT.clearAt {X E E' : TypeId} {b off m c : Nat} {zv : Value} {cs us xs : List Value} (ho : ops[i]? = some ⟨none, .call ⟨.builtin .clear, #[x], #[X]⟩, T, pos, after, gd⟩) (hg : Gd ks ops gd) (hX : P.underlying X = some (.slice E)) (hz : qK P E = some zv)
  (hx : ev ks x = some (.slice (some ⟨b, off, none⟩) (m + 1) c)) (hu : (Builtin.zeroCells zv.cells (m + 1)).toList = us) (hl : off + us.length ≤ cs.length) (h1 : us.all Value.oneCell' = true) (hxs : cs.take off ++ us ++ cs.drop (off + us.length) = xs) (hup : Upd (.blk b (LC cs E')) (.blk b (LC xs E')) O O')
  (next : AtT cx n ks O' V P ops Qn t) : AtT cx n ks O V P ops Qn (.n true i t) :=
 .x ho hg fun a w hk hm => by
  obtain ⟨R, p1, p2⟩ := hup.perm
  have hm1 := hm.perm p1
  have e0 : (#[x] : Array Operand).map a.eval = #[.slice (some ⟨b, off, none⟩) (m + 1) c] := by simp [hk.ev hx]
  obtain ⟨w', hr, hgr, hh⟩ := jd (P := P) us 0 off cs w hm1.blk (by omega) (by simpa [List.all_eq_true] using h1)
  rw [Nat.add_zero, hxs] at hh
  have e1 : (#[X] : Array TypeId)[0]? = some X := rfl
  have e2 : (#[Value.slice (some ⟨b, off, none⟩) (m + 1) c] : Array Value)[0]? = some (Value.slice (some ⟨b, off, none⟩) (m + 1) c) := rfl
  simp only [opW, execOp, resolve, e0, Sem.run_bind, Sem.run_pure, Result.andThen_ok, invoke, builtin, Builtin.clear_, e1, e2, run_underlying hX, run_zero hz, hu, hr]
  exact ⟨ks, O', V, hk, (hm1.set hgr hh).perm p2.symm, fun h => (by cases h), next⟩
end
end Go.Lw
set_option linter.unusedVariables false
namespace Go.Proofs.YtghomjjffllkeaaGreatDoor
open Go.Lw Go.Gl Go.Pm Go.RowKit
theorem above_f (S : List Int) (b : Nat) (i k : Nat) (x : Int) (hx : S[i * 7 + k]? = some x) (hb : i * 7 + k < 49) (V : View) (hc : Cells V ⟨b, 3, none⟩ (flat ei S)) : Fnc Tryz.prog 88 [.pointer (some ⟨b, 0, none⟩), iv i, iv k] V fun r _ => r = iv x := by
 have hcx : vcell V ⟨b, 0 + 3 + (i * 7 + k), none⟩ = some (iv x) := by have := hc (i * 7 + k) (iv x) (by rw [flat_ei, List.getElem?_map, hx]; rfl); rw [Addr.add_lit] at this; rw [show 0 + 3 + (i * 7 + k) = 3 + (i * 7 + k) by omega]; exact this
 refine qf Tryz.func88 rfl Tryz.ntmps88 (Nat.le_of_ble_eq_true rfl) ?_
 intro w0 hw0
 refine At.nrm ?_
 refine At.zl (.q 0 .done) ?_
 refine AtT.zf ?_
 refine AtT.done ?_
 refine At.nrm ?_
 have e : ((i : Int) * 7 + (k : Int)).toNat * 1 = i * 7 + k := by omega
 refine At.zl (.q 0 (.q 1 (.q 2 (.q 3 (.q 4 (.q 5 (.q 6 (.q 7 (.q 8 (.q 9 .done)))))))))) ?_
 refine AtT.zh ?_
 refine AtT.zh ?_
 first | refine AtT.kmul ?_ | refine AtT.kmulW ?_
 refine AtT.zh ?_
 first | refine AtT.qi ?_ | refine AtT.zT ?_
 refine AtT.knil ?_
 first | refine AtT.zi jm ?_ | with_reducible refine AtT.zk jm ?_ | refine AtT.zn jm ?_
 refine AtT.kidxA Tryz.underlying86 tk3 ?_
 refine AtT.zo tk3 (v := iv x) ?_ (hc := by rw [e]; exact hcx)
 refine AtT.zf ?_
 refine AtT.done ?_
 refine At.nrm ?_
 exact At.qb rfl (.tmp rfl) rfl
abbrev bnc (a : Option Addr) (n c : Nat) (m : Int) (ak : Option Addr) (nk ck : Nat) (S : List Int) : List Value := .slice a n c :: iv m :: .slice ak nk ck :: flat ei S
theorem bnc_sums {V : View} {b : Nat} {x y z : Value} {S : List Int} {E : TypeId} (h : V b = some (LC (x :: y :: z :: flat ei S) E)) : Cells V ⟨b, 3, none⟩ (flat ei S) := by
 have := (qP h).at (k := 3) (vs := flat ei S) fun j u hj => by
  rw [show 3 + j = j + 1 + 1 + 1 by omega, List.getElem?_cons_succ, List.getElem?_cons_succ, List.getElem?_cons_succ]; exact hj
 rwa [Addr.add_lit] at this
def BnV (V : View) (b : Nat) (s : Sh) : Prop := ∃ a c ak ck, V b = some (LC (bnc a s.rows.length c s.most ak (knL s).length ck (fgF s)) 88) ∧ Sl V bse 1 (.slice a s.rows.length c) s.rows ∧ Sl V cle 2 (.slice ak (knL s).length ck) (knL s)
theorem BnV.le {V V' : View} {b : Nat} {s : Sh} (h : BnV V b s) (hl : Le V V') : BnV V' b s := by
 obtain ⟨a, c, ak, ck, h1, h2, h3⟩ := h
 exact ⟨a, c, ak, ck, hl _ _ h1, h2.le hl, h3.le hl⟩
theorem slice86 (b : Nat) (w : World) : (Instr.sliceAt 86 (.pointer (some ⟨b, 0 + 3, none⟩)) none none none).run Tryz.prog w = .ok (.slice (some ⟨b, 3, none⟩) 49 49) w := by kernel_rfl
theorem sums_set (S : List Int) (i : Nat) (x : Int) (hS : S.length = 49) (hi : i < 49) (a y z : Value) : SetAt (a :: y :: z :: flat ei S) (0 + 3 + i) (iv x) (a :: y :: z :: flat ei (S.set i x)) := by
 refine setAt_of (by simp only [List.length_cons]; rw [qU Lw.ei_len, hS]; omega) ?_
 rw [show 0 + 3 + i = i + 1 + 1 + 1 by omega, List.set_cons_succ, List.set_cons_succ, List.set_cons_succ, flat_ei, flat_ei, List.map_set]
theorem newBench_f (s : Sh) (hok : ShOk s) (V : View) (v : Value) (hv : ShV V v s) : Fnc Tryz.prog 87 [v] V fun r V' => ∃ b, r = .pointer (some ⟨b, 0, none⟩) ∧ BnV V' b s := by
 obtain ⟨a, c, rfl, hs⟩ := hv
 have hn := hok.n
 have hw := hok.w
 have hlen := hs.je
 refine qf Tryz.func87 rfl Tryz.ntmps87 (Nat.le_of_ble_eq_true rfl) ?_
 intro w0 hw0
 refine At.nrm ?_
 refine At.zl (.n false 0 (.q 1 .done)) ?_
 refine AtT.jb ?_
 intro b1
 refine AtT.zf ?_
 refine AtT.done ?_
 refine At.nrm ?_
 refine At.zl (.q 0 (.q 1 (.n false 2 (.q 3 .done)))) ?_
 first | refine AtT.zD zM ?_ | refine AtT.zJ zM ?_ | refine AtT.zC zM ?_
 refine AtT.jc (bd88_0 _ _ _ _) ?_
 refine AtT.jb ?_
 intro b10
 refine AtT.zf ?_
 refine AtT.done ?_
 refine At.nrm ?_
 refine At.zl (.q 0 (.q 1 (.q 2 (.q 3 (.n true 4 .done))))) ?_
 refine AtT.zh ?_
 refine AtT.knil ?_
 first | refine AtT.zi jm ?_ | with_reducible refine AtT.zk jm ?_ | refine AtT.zn jm ?_
 refine AtT.slV rfl trivial rfl (slice86 b10) (by decide) ?_
 refine AtT.clearAt rfl trivial Tryz.underlying39 z3 rfl (by kernel_rfl) (Nat.le_of_ble_eq_true rfl) (by rfl) (by rfl) (by repeat first|exact Upd.here|apply Upd.there) ?_ (us := flat ei (List.replicate 49 0)) (cs := bnc a s.rows.length c s.most none 0 0 (List.replicate 49 0)) (xs := bnc a s.rows.length c s.most none 0 0 (List.replicate 49 0))
 refine AtT.done ?_
 refine At.nrm ?_
 refine At.zl (.q 0 (.q 1 (.q 2 (.q 3 (.q 4 (.q 5 (.q 6 .done))))))) ?_
 refine AtT.zh ?_
 refine AtT.knil ?_
 first | refine AtT.zi fo88_0 ?_ | with_reducible refine AtT.zk fo88_0 ?_ | refine AtT.zn fo88_0 ?_
 first | refine AtT.zi zt ?_ | with_reducible refine AtT.zk zt ?_ | refine AtT.zn zt ?_
 first | refine AtT.zm zV ?_ | refine AtT.zo zV ?_
 first | refine AtT.zY Tryz.underlying22 ?_ | refine AtT.zZ Tryz.underlying22 ?_
 refine AtT.zh ?_
 refine AtT.done ?_
 refine At.nrm ?_
 refine At.newRow 90 2 ?_
 refine At.lp (ι := Nat × Option Addr × Nat) (KS := fun g => [(3, .pointer (some ⟨b10, 0, none⟩)), (19, .slice a s.rows.length c), (20, iv s.rows.length), (21, iv g.1)])
  (OS := fun g => [.blk b10 (LC (bnc a s.rows.length c s.most g.2.1 (knK s.rows g.1).length g.2.2 (fgP s.rows (wdS s) g.1 0)) 88), .row (.slice g.2.1 (knK s.rows g.1).length g.2.2) 90 2 (knK s.rows g.1).length (flat cle (knK s.rows g.1))])
  (VS := fun g V' => Le V V' ∧ g.1 ≤ s.rows.length) (μ := fun g => s.rows.length - g.1) (0, none, 0) ?_ ?_ ?_ ?_
 ·exact ⟨rfl, rfl, rfl, rfl, trivial⟩
 ·dsimp only; rw [fgP_start]; exact Pt.zO
 ·exact ⟨Le.refl _, Nat.zero_le _⟩
 rintro ⟨i, ao, co⟩ V' ks' O' ⟨hVV, hil⟩ hk hO hl2
 dsimp only at hil hk hO
 subst hk hO
 have hs2 := hs.le hVV
 refine At.nrm ?_
 refine At.zl (.q 0 .done) ?_
 refine AtT.qa ?_
 refine AtT.done ?_
 refine At.nrm ?_
 refine At.qc rfl (fun hp => ?_) (fun hp => ?_)
 rotate_left
 ·obtain rfl : i = s.rows.length := by omega
  refine At.nrm ?_
  refine At.zl (.q 0 (.q 1 .done)) ?_
  refine AtT.zh ?_
  refine AtT.zf ?_
  refine AtT.done ?_
  refine At.nrm ?_
  refine At.giveSl (l := knL s) cle_len rfl rfl zX.zO (fun V4 hV4 hs4 => ?_)
  refine At.giveB (b := b10) zX.zO (fun V6 hV6 hb6 => ?_)
  exact At.qb rfl (.tmp rfl) ⟨_, rfl, a, c, ao, co, hb6, (hs2.le hV4).le hV6, hs4.le hV6⟩
 obtain ⟨r, hr⟩ : ∃ r, s.rows[i]? = some r := ⟨_, List.getElem?_eq_getElem (by omega)⟩
 have hrs := hok.sz r (List.mem_of_getElem? hr)
 refine At.nrm ?_
 refine At.zl (.q 0 (.q 1 (.q 2 (.q 3 (.q 4 .done))))) ?_
 refine AtT.zh ?_
 refine AtT.qp Tryz.underlying22 tk9 ?_
 intro p24 e24 he24 hc24
 obtain rfl : r = e24 := by have : s.rows[i]? = some e24 := (by simpa using he24); rw [hr] at this; simpa using this
 first | refine AtT.zm tk9 ?_ | refine AtT.zo tk9 ?_
 refine AtT.zf ?_
 refine AtT.zf ?_
 refine AtT.done ?_
 refine At.nrm ?_
 refine At.zl (.q 0 (.q 1 (.q 2 .done))) ?_
 refine AtT.zh ?_
 refine AtT.qM rfl trivial Tryz.underlying9 rfl (by decide) ?_
 refine AtT.zh ?_
 refine AtT.done ?_
 refine At.nrm ?_
 refine At.lp (ι := Nat × Option Addr × Nat) (KS := fun g => [(3, .pointer (some ⟨b10, 0, none⟩)), (19, .slice a s.rows.length c), (20, iv s.rows.length), (21, iv i), (4, iv i), (5, .string r), (27, iv r.size), (28, iv g.1)])
  (OS := fun g => [.blk b10 (LC (bnc a s.rows.length c s.most g.2.1 (knK s.rows i ++ knR r i g.1).length g.2.2 (fgP s.rows (wdS s) i g.1)) 88), .row (.slice g.2.1 (knK s.rows i ++ knR r i g.1).length g.2.2) 90 2 (knK s.rows i ++ knR r i g.1).length (flat cle (knK s.rows i ++ knR r i g.1))])
  (VS := fun g V'' => Le V' V'' ∧ g.1 ≤ r.size) (μ := fun g => r.size - g.1) (0, ao, co) ?_ ?_ ?_ ?_
 ·exact ⟨rfl, rfl, rfl, rfl, rfl, rfl, rfl, rfl, trivial⟩
 ·dsimp only; rw [show knR r i 0 = [] from rfl, List.append_nil]; exact Pt.zO
 ·exact ⟨Le.refl _, Nat.zero_le _⟩
 rintro ⟨k, ak, ck⟩ V2 ks' O' ⟨hV2, hkl⟩ hk hO hl3
 dsimp only at hkl hk hO
 subst hk hO
 have hs3 := hs2.le hV2
 refine At.nrm ?_
 refine At.zl (.q 0 .done) ?_
 refine AtT.qa ?_
 refine AtT.done ?_
 refine At.nrm ?_
 refine At.qc rfl (fun hp2 => ?_) (fun hp2 => ?_)
 rotate_left
 ·obtain rfl : k = r.size := by omega
  refine At.nrm ?_
  refine At.zl (.q 0 (.q 1 .done)) ?_
  first | refine AtT.qi ?_ | refine AtT.zT ?_
  refine AtT.zh ?_
  refine AtT.done ?_
  refine At.nrm ?_
  refine At.round (i + 1, ak, ck) ?_ ?_ ?_ ?_
  ·show s.rows.length - (i + 1) < s.rows.length - i; omega
  ·exact ⟨hVV.trans hV2, by dsimp only; omega⟩
  ·exact ⟨rfl, rfl, rfl, ivs (by dsimp only; omega), trivial⟩
  ·dsimp only
   rw [knK_at hr, ← fgP_row, ← hrs]
   exact Pt.zO
 have hkl1 : (knK s.rows i).length ≤ 12 * i := knK_len (fun q hq => by have := hok.sz q hq; omega) i
 have hkn := knR_len r i k
 have hll : (knK s.rows i ++ knR r i k).length ≤ 140 := by rw [List.length_append]; omega
 have hge : s.rows.getD i ByteArray.empty = r := row_at hr
 have hst := fgN_step s.rows i k
 rw [hge] at hst
 have f1 := fgN_le hok (a := i + 1) (b := k) (by omega) (by omega)
 have f2 := fgN_le hok (a := i) (b := k + 1) (by omega) (by omega)
 have f3 := fgN_le hok (a := i) (b := k) (by omega) (by omega)
 have g1 := fgP_at s.rows (C := wdS s) (i := i) (k := k) (a := i + 1) (b := k) (by omega) (by omega) (.inr ⟨rfl, Nat.le_refl _⟩) (by omega)
 have g2 := fgP_at s.rows (C := wdS s) (i := i) (k := k) (a := i) (b := k + 1) (by omega) (by omega) (.inl (Nat.le_refl _)) (by omega)
 have g3 := fgP_at s.rows (C := wdS s) (i := i) (k := k) (a := i) (b := k) (by omega) (by omega) (.inl (Nat.le_refl _)) (by omega)
 have hset := fgP_step s.rows (C := wdS s) (i := i) (k := k) (by omega) hw.2 (by omega)
 refine At.nrm ?_
 refine At.zl (.q 0 (.q 1 .done)) ?_
 refine AtT.zh ?_
 refine AtT.zf ?_
 refine AtT.done ?_
 refine At.nrm ?_
 refine At.nrm ?_
 refine At.zl (.q 0 (.q 1 (.q 2 (.q 3 .done)))) ?_
 refine AtT.zh ?_
 refine AtT.zh ?_
 refine AtT.ixS rfl trivial Tryz.underlying9 rfl rfl (by omega) (by omega) (by decide) ?_
 rw [Int.toNat_natCast]
 refine AtT.jg ?_
 refine AtT.done ?_
 refine At.nrm ?_
 refine At.nrmB ?_
 refine At.jr (ι := Option Addr × Nat) (fun g => [(3, .pointer (some ⟨b10, 0, none⟩)), (19, .slice a s.rows.length c), (20, iv s.rows.length), (21, iv i), (4, iv i), (5, .string r), (27, iv r.size), (28, iv k), (6, iv k)])
  (fun g => [.blk b10 (LC (bnc a s.rows.length c s.most g.1 (knK s.rows i ++ knR r i (k + 1)).length g.2 (fgP s.rows (wdS s) i k)) 88), .row (.slice g.1 (knK s.rows i ++ knR r i (k + 1)).length g.2) 90 2 (knK s.rows i ++ knR r i (k + 1)).length (flat cle (knK s.rows i ++ knR r i (k + 1)))]) (fun g V'' => Le V2 V'') ?_ ?_
 ·refine At.qc rfl (fun hb => ?_) (fun hb => ?_)
  ·have hsn : knR r i (k + 1) = knR r i k ++ [⟨(i : Int), (k : Int)⟩] := by simp only [knR]; rw [if_pos hb]
   refine At.nrm ?_
   refine At.zl (.q 0 (.q 1 (.q 2 (.q 3 (.q 4 (.q 5 (.q 6 (.q 7 (.n false 8 (.n true 9 (.q 10 (.q 11 (.n true 12 .done))))))))))))) ?_
   refine AtT.zh ?_
   refine AtT.zh ?_
   refine AtT.knil ?_
   first | refine AtT.zi qy ?_ | with_reducible refine AtT.zk qy ?_ | refine AtT.zn qy ?_
   first | refine AtT.zm tk84 ?_ | refine AtT.zo tk84 ?_
   refine AtT.zh ?_
   refine AtT.zh ?_
   refine AtT.jc (bd90_0_1 _ _) ?_
   refine AtT.zw (bs84_1_0 _ _) ?_
   intro q43 V43 hV43 hq43
   have g43 : Le V V43 := by first | exact hV43 | exact Le.trans (by assumption) hV43
   first | refine AtT.kappend Tryz.underlying84 rw90 ?_
   intro a44 c44
   refine AtT.knil ?_
   first | refine AtT.zi qy ?_ | with_reducible refine AtT.zk qy ?_ | refine AtT.zn qy ?_
   first | refine AtT.jf tk84 ?_ | refine AtT.zW tk84 ?_
   refine AtT.done ?_
   refine At.nrm ?_
   refine At.qC (a44, c44) (by first | assumption | exact Le.refl _) ⟨rfl, rfl, rfl, rfl, rfl, rfl, rfl, rfl, rfl, trivial⟩ ?_
   dsimp only
   rw [hsn, ← List.append_assoc, ji, show (knK s.rows i ++ knR r i k ++ [(⟨(i : Int), (k : Int)⟩ : Cl)]).length = (knK s.rows i ++ knR r i k).length + 1 from by rw [List.length_append]; rfl]
   exact Pt.zO
  ·have hsn : knR r i (k + 1) = knR r i k := by simp only [knR]; rw [if_neg hb]
   refine At.nrm ?_
   refine At.qC (ak, ck) (Le.refl _) ⟨rfl, rfl, rfl, rfl, rfl, rfl, rfl, rfl, rfl, trivial⟩ ?_
   dsimp only
   rw [hsn]
   exact Pt.zO
 rintro ⟨a5, c5⟩ V3 ks' O' hV3 hk hO hl4
 dsimp only at hk hO
 subst hk hO
 refine At.nrm ?_
 refine At.zl (.q 0 (.q 1 (.q 2 (.q 3 (.n false 4 (.q 5 (.q 6 (.q 7 (.q 8 (.n false 9 (.q 10 (.q 11 (.q 12 (.q 13 (.n false 14 (.q 15 (.q 16 .done))))))))))))))))) ?_
 refine AtT.zh ?_
 refine AtT.zh ?_
 first | refine AtT.qi ?_ | refine AtT.zT ?_
 refine AtT.zh ?_
 refine AtT.kcallL rfl rfl ok88 (fun VL hVL hOL => above_f (fgP s.rows (wdS s) i k) b10 (i + 1) k (fgN s.rows (i + 1) k) g1 (by omega) _ (bnc_sums (hOL b10 _ (List.mem_cons_self ..)))) ?_
 rintro _ rfl
 refine AtT.zh ?_
 refine AtT.zh ?_
 refine AtT.zh ?_
 first | refine AtT.qi ?_ | refine AtT.zT ?_
 refine AtT.kcallL rfl rfl ok88 (fun VL hVL hOL => above_f (fgP s.rows (wdS s) i k) b10 i (k + 1) (fgN s.rows i (k + 1)) g2 (by omega) _ (bnc_sums (hOL b10 _ (List.mem_cons_self ..)))) ?_
 rintro _ rfl
 first | refine AtT.qi ?_ | refine AtT.zT ?_
 refine AtT.zh ?_
 refine AtT.zh ?_
 refine AtT.zh ?_
 refine AtT.kcallL rfl rfl ok88 (fun VL hVL hOL => above_f (fgP s.rows (wdS s) i k) b10 i k (fgN s.rows i k) g3 (by omega) _ (bnc_sums (hOL b10 _ (List.mem_cons_self ..)))) ?_
 rintro _ rfl
 first | refine AtT.qD ?_ | refine AtT.qE ?_
 refine AtT.zf ?_
 refine AtT.done ?_
 refine At.nrm ?_
 have hoff : 0 + 3 + (((i : Int) + 1) * 7 + (k : Int) + 1).toNat * 1 = 0 + 3 + ((i + 1) * 7 + (k + 1)) := by omega
 have hfin := fun x => sums_set (fgP s.rows (wdS s) i k) ((i + 1) * 7 + (k + 1)) x (fgP_len _ _ _ _) (by omega) (.slice a s.rows.length c) (iv s.most) (.slice a5 (knK s.rows i ++ knR r i (k + 1)).length c5)
 refine At.nrm ?_
 refine At.zl (.q 0 (.q 1 (.q 2 (.q 3 .done)))) ?_
 refine AtT.zh ?_
 refine AtT.zh ?_
 refine AtT.ixS rfl trivial Tryz.underlying9 rfl rfl (by omega) (by omega) (by decide) ?_
 rw [Int.toNat_natCast]
 refine AtT.jg ?_
 refine AtT.done ?_
 refine At.nrm ?_
 refine At.nrmB ?_
 refine At.jr (ι := Unit) (fun _ => [(3, .pointer (some ⟨b10, 0, none⟩)), (19, .slice a s.rows.length c), (20, iv s.rows.length), (21, iv i), (4, iv i), (5, .string r), (27, iv r.size), (28, iv k), (6, iv k), (7, iv (fgN s.rows (i + 1) (k + 1)))])
  (fun g => [.blk b10 (LC (bnc a s.rows.length c s.most a5 (knK s.rows i ++ knR r i (k + 1)).length c5 (fgP s.rows (wdS s) i k)) 88), .row (.slice a5 (knK s.rows i ++ knR r i (k + 1)).length c5) 90 2 (knK s.rows i ++ knR r i (k + 1)).length (flat cle (knK s.rows i ++ knR r i (k + 1)))]) (fun g V'' => V'' = V3) ?_ ?_
 ·refine At.qc rfl (fun hb => ?_) (fun hb => ?_)
  ·rw [if_pos hb] at hst
   rw [← hst]
   refine At.nrm ?_
   refine At.zl (.q 0 (.q 1 (.q 2 .done))) ?_
   refine AtT.zh ?_
   first | refine AtT.qi ?_ | refine AtT.zT ?_
   refine AtT.zf ?_
   refine AtT.done ?_
   refine At.nrm ?_
   exact At.qC () rfl ⟨rfl, rfl, rfl, rfl, rfl, rfl, rfl, rfl, rfl, rfl, trivial⟩ Pt.zO
  ·rw [if_neg hb, Int.add_zero] at hst
   rw [← hst]
   refine At.nrm ?_
   exact At.qC () rfl ⟨rfl, rfl, rfl, rfl, rfl, rfl, rfl, rfl, rfl, rfl, trivial⟩ Pt.zO
 rintro _ V5 ks' O' rfl hk hO hl5
 subst hk hO
 refine At.nrm ?_
 refine At.zl (.q 0 (.q 1 (.q 2 (.q 3 (.q 4 (.q 5 (.q 6 (.q 7 (.q 8 (.q 9 (.q 10 (.n true 11 .done)))))))))))) ?_
 refine AtT.zh ?_
 refine AtT.zh ?_
 first | refine AtT.qi ?_ | refine AtT.zT ?_
 first | refine AtT.kmul ?_ | refine AtT.kmulW ?_
 refine AtT.zh ?_
 first | refine AtT.qi ?_ | refine AtT.zT ?_
 first | refine AtT.qi ?_ | refine AtT.zT ?_
 refine AtT.zh ?_
 refine AtT.knil ?_
 first | refine AtT.zi jm ?_ | with_reducible refine AtT.zk jm ?_ | refine AtT.zn jm ?_
 refine AtT.kidxA Tryz.underlying86 tk3 ?_
 refine AtT.jf tk3 ?_ (hs := by rw [hoff]; exact hfin _)
 refine AtT.done ?_
 refine At.nrm ?_
 refine At.nrm ?_
 refine At.zl (.q 0 (.q 1 .done)) ?_
 first | refine AtT.qi ?_ | refine AtT.zT ?_
 refine AtT.zh ?_
 refine AtT.done ?_
 refine At.nrm ?_
 refine At.round (k + 1, a5, c5) ?_ ?_ ?_ ?_
 ·show r.size - (k + 1) < r.size - k; omega
 ·exact ⟨hV2.trans hV3, by dsimp only; omega⟩
 ·exact ⟨rfl, rfl, rfl, rfl, rfl, rfl, rfl, ivs (by dsimp only; omega), trivial⟩
 dsimp only
 rw [← hset]
 ·exact Pt.zO
end Go.Proofs.YtghomjjffllkeaaGreatDoor
set_option linter.unusedVariables false
namespace Go.Proofs.YtghomjjffllkeaaGreatDoor
open Go.Lw Go.Gl Go.Pm Go.RowKit
theorem jv (lo hi c : Int) : wi lo hi [c] = decide (lo ≤ c ∧ c ≤ hi) := by
 simp only [wi, List.any_cons, List.any_nil, outB]
 by_cases h1 : c < lo <;> by_cases h2 : hi < c <;> simp [h1, h2] <;> omega
theorem plain3 : Tryz.prog.plainKey 3 = true := by kernel_rfl
theorem cells3 : Tryz.prog.cellsOf 3 = 1 := by kernel_rfl
theorem arr_at {l : List Int} {i : Nat} {x : Int} (h : l[i]? = some x) : (flat ei l)[i]? = some (iv x) := by rw [flat_ei, List.getElem?_map, h]; rfl
theorem eqItems3 (w : World) (l m : List Int) : ∀ is : List Nat, (∀ i ∈ is, i < l.length ∧ i < m.length) → (Op.eqItems 9999 3 1 (flat ei l).toArray (flat ei m).toArray is).run Tryz.prog w = .ok (is.all fun i => decide (l.getD i 0 = m.getD i 0)) w
 | [], _ => by simp [Op.eqItems]
 | i :: is, h => by
  obtain ⟨h1, h2⟩ := h i (by simp)
  obtain ⟨x, hx⟩ : ∃ x, l[i]? = some x := ⟨_, List.getElem?_eq_getElem h1⟩
  obtain ⟨y, hy⟩ : ∃ y, m[i]? = some y := ⟨_, List.getElem?_eq_getElem h2⟩
  have ih := eqItems3 w l m is fun j hj => h j (by simp [hj])
  have p1 : (part 3 (flat ei l).toArray (i * 1)).run Tryz.prog w = .ok (iv x) w := run_part_plain w plain3 (by rw [Nat.mul_one]; simpa using arr_at hx)
  have p2 : (part 3 (flat ei m).toArray (i * 1)).run Tryz.prog w = .ok (iv y) w := run_part_plain w plain3 (by rw [Nat.mul_one]; simpa using arr_at hy)
  have e1 : l.getD i 0 = x := by simp [List.getD, hx]
  have e2 : m.getD i 0 = y := by simp [List.getD, hy]
  have p3 : (Op.equalIn 9999 3 (iv x) (iv y)).run Tryz.prog w = .ok (x == y) w := run_equalIn_int w 9998 3 .i64 .i64 x y Tryz.underlying3
  simp only [Op.eqItems, Sem.run_bind, p1, p2, p3, Result.andThen_ok, List.all_cons, e1, e2]
  by_cases c : x = y
  ·subst c
   simp [ih]
  ·simp [c]
theorem eqS86 (l m : List Int) (h1 : l.length = 49) (h2 : m.length = 49) : EqS Tryz.prog 86 (flat ei l) (flat ei m) (decide (l = m)) := by
 refine ⟨by first | exact Tryz.eqGuardType86 | kernel_rfl, fun w => ?_⟩
 obtain ⟨i3, hi3, _⟩ : ∃ i, Tryz.prog.info? 3 = some i ∧ True := by
  obtain ⟨i, hi, _⟩ := rowB_info rw3
  exact ⟨i, hi, trivial⟩
 have hb : ((List.range 49).all fun i => decide (l.getD i 0 = m.getD i 0)) = decide (l = m) := by
  rw [Bool.eq_iff_iff, List.all_eq_true, decide_eq_true_eq]
  constructor
  ·intro h
   apply List.ext_getElem?
   intro i
   by_cases hi : i < 49
   ·have := of_decide_eq_true (h i (List.mem_range.2 hi))
    obtain ⟨x, hx⟩ : ∃ x, l[i]? = some x := ⟨_, List.getElem?_eq_getElem (by omega)⟩
    obtain ⟨y, hy⟩ : ∃ y, m[i]? = some y := ⟨_, List.getElem?_eq_getElem (by omega)⟩
    simp only [List.getD, hx, hy, Option.getD_some] at this
    rw [hx, hy, this]
   ·rw [List.getElem?_eq_none (by omega), List.getElem?_eq_none (by omega)]
  ·rintro rfl i _; simp
 rw [show (10000 : Nat) = 9999 + 1 from rfl, run_equalIn_array w 9999 _ _ Tryz.underlying86 hi3, cells3, eqItems3 w l m _ (fun i hi => by rw [List.mem_range] at hi; omega), hb]
theorem bn_get {V : View} {b : Nat} {s : Sh} (h : BnV V b s) : ∃ a c ak ck, Cells V ⟨b, 0, none⟩ [.slice a s.rows.length c] ∧ Cells V ⟨b, 1, none⟩ [iv s.most] ∧ Cells V ⟨b, 2, none⟩ [.slice ak (knL s).length ck] ∧ Cells V ⟨b, 3, none⟩ (flat ei (fgF s)) ∧ Sl V bse 1 (.slice a s.rows.length c) s.rows ∧ Sl V cle 2 (.slice ak (knL s).length ck) (knL s) := by
 obtain ⟨a, c, ak, ck, h1, h2, h3⟩ := h
 have hc := qP h1
 refine ⟨a, c, ak, ck, fun j u hj => ?_, ?_, ?_, bnc_sums h1, h2, h3⟩
 ·match j, hj with
  | 0, hj => exact hc 0 u hj
 ·have := hc.at (k := 1) (vs := [iv s.most]) fun j u hj => by
   match j, hj with
   | 0, hj => exact hj
  rwa [Addr.add_lit] at this
 ·have := hc.at (k := 2) (vs := [.slice ak (knL s).length ck]) fun j u hj => by
   match j, hj with
   | 0, hj => exact hj
  rwa [Addr.add_lit] at this
theorem lies_f (s : Sh) (hok : ShOk s) (p : Pc) (V : View) (b : Nat) (hb : BnV V b s) : Fnc Tryz.prog 58 [.pointer (some ⟨b, 0, none⟩), pcv p] V fun r _ => r = iv (peE (gdS s) p) := by
 obtain ⟨a, c, ak, ck, hc0, hc1, hc2, hc3, hs, hsk⟩ := bn_get hb
 obtain ⟨r0, hr0, hr0s⟩ := sh_row0 hok
 have hn := hok.n
 have hw := hok.w
 have hR : (gdS s).R = (s.rows.length : Int) := rfl
 have hC : (gdS s).C = (wdS s : Int) := rfl
 have hM : (gdS s).most = s.most := rfl
 refine qf Tryz.func58 rfl Tryz.ntmps58 (Nat.le_of_ble_eq_true rfl) ?_
 intro w0 hw0
 refine At.nrm ?_
 refine At.zl (.n false 0 (.q 1 .done)) ?_
 refine AtT.jb ?_
 intro b3
 refine AtT.zf ?_
 refine AtT.done ?_
 refine At.nrm ?_
 refine At.jr (ι := Unit) (fun _ => [(0, .pointer (some ⟨b, 0, none⟩)), (3, .pointer (some ⟨b3, 0, none⟩)), (5, iv s.rows.length), (6, iv (wdS s))]) (fun _ => [.blk b3 (LC (pce p) 26)]) (fun _ V'' => V = V'') ?_ ?_
 ·refine At.draw (.q 0 (.q 1 (.q 2 (.q 3 (.q 4 (.q 5 (.q 6 (.q 7 (.q 8 (.q 9 (.q 10 (.q 11 (.q 12 (.q 13 (.q 14 (.q 15 .done)))))))))))))))) ffm (by kernel_rfl) ?_
  refine AtT.zh ?_
  refine AtT.knil ?_
  first | refine AtT.zi fo88_0 ?_ | with_reducible refine AtT.zk fo88_0 ?_ | refine AtT.zn fo88_0 ?_
  first | refine AtT.zi zt ?_ | with_reducible refine AtT.zk zt ?_ | refine AtT.zn zt ?_
  first | refine AtT.zm zV ?_ | refine AtT.zo zV ?_
  first | refine AtT.zY Tryz.underlying22 ?_ | refine AtT.zZ Tryz.underlying22 ?_
  refine AtT.zh ?_
  refine AtT.knil ?_
  first | refine AtT.zi fo88_0 ?_ | with_reducible refine AtT.zk fo88_0 ?_ | refine AtT.zn fo88_0 ?_
  first | refine AtT.zi zt ?_ | with_reducible refine AtT.zk zt ?_ | refine AtT.zn zt ?_
  first | refine AtT.zm zV ?_ | refine AtT.zo zV ?_
  refine AtT.qp Tryz.underlying22 tk9 ?_
  intro p20 e20 he20 hc20
  obtain rfl : r0 = e20 := by have : s.rows[0]? = some e20 := (by simpa using he20); rw [hr0] at this; simpa using this
  first | refine AtT.zm tk9 ?_ | refine AtT.zo tk9 ?_
  refine AtT.qM rfl trivial Tryz.underlying9 rfl (by decide) ?_
  refine AtT.zf ?_
  refine AtT.zf ?_
  refine AtT.done ?_
  refine At.nrm ?_
  all_goals (rw [hr0s]; exact At.qC () rfl ⟨rfl, rfl, rfl, rfl, trivial⟩ Pt.zO)
 rintro _ _ ks' O' rfl hk hO hl1
 subst hk hO
 refine At.nrm ?_
 by_cases m1 : 1 ≤ p.h ∧ p.h ≤ (s.rows.length : Int)
 rotate_left
 ·refine At.zl (.q 0 (.q 1 (.q 2 (.n false 3 (.n false 4 (.q 5 (.q 6 (.q 7 (.q 8 (.q 9 (.n false 10 (.n false 11 (.q 12 (.q 13 (.q 14 (.q 15 (.q 16 (.q 17 (.q 18 (.q 19 (.q 20 (.n false 21 (.n false 22 (.q 23 (.q 24 (.q 25 (.q 26 (.q 27 (.q 28 (.q 29 (.q 30 (.q 31 (.n false 32 (.n false 33 (.q 34 (.q 35 .done)))))))))))))))))))))))))))))))))))) ?_
  refine AtT.zh ?_
  first | refine AtT.zi zy ?_ | with_reducible refine AtT.zk zy ?_ | refine AtT.zn zy ?_
  first | refine AtT.zm tk3 ?_ | refine AtT.zo tk3 ?_
  refine AtT.zw (zU _) ?_
  intro q26 V26 hV26 hq26
  have g26 : Le V V26 := by first | exact hV26 | exact Le.trans (by assumption) hV26
  refine AtT.zq rfl rfl jq (qj 1 s.rows.length [p.h] _ _ (Sl.lit hq26 rfl (by simp))) ?_
  rintro _ rfl; rw [jv, decide_eq_false m1]
  refine AtT.qZ ?_
  refine AtT.zh ?_
  all_goals (first | refine AtT.kL 29 ?_ | refine AtT.zB (d := 29) rfl (fun hg29 => ?_) (fun hg29 => ?_) | refine AtT.zA (d := 29) rfl (fun hg29 => ?_) (fun hg29 => ?_))
  all_goals first|refine AtT.zg ?_|refine AtT.ze ?_|(refine AtT.zh ?_)
  all_goals first|refine AtT.zg ?_|refine AtT.ze ?_|(first | refine AtT.zi zx ?_ | with_reducible refine AtT.zk zx ?_ | refine AtT.zn zx ?_)
  all_goals first|refine AtT.zg ?_|refine AtT.ze ?_|(first | refine AtT.zm tk3 ?_ | refine AtT.zo tk3 ?_)
  all_goals first|refine AtT.zP ?_|refine AtT.zI ?_|((refine AtT.zw (zU _) ?_) ; (intro q33 V33 hV33 hq33) ; (have g33 : Le V V33 := by first | exact hV33 | exact Le.trans (by assumption) hV33))
  all_goals first|refine AtT.zP ?_|refine AtT.zI ?_|((fail))
  all_goals first|refine AtT.zg ?_|refine AtT.ze ?_|(refine AtT.qZ ?_)
  all_goals (refine AtT.zz ?_)
  all_goals (refine AtT.zh ?_)
  all_goals (first | refine AtT.kL 37 ?_ | refine AtT.zB (d := 37) rfl (fun hg37 => ?_) (fun hg37 => ?_) | refine AtT.zA (d := 37) rfl (fun hg37 => ?_) (fun hg37 => ?_))
  all_goals first|refine AtT.zg ?_|refine AtT.ze ?_|(refine AtT.zh ?_)
  all_goals first|refine AtT.zg ?_|refine AtT.ze ?_|(first | refine AtT.zi zy ?_ | with_reducible refine AtT.zk zy ?_ | refine AtT.zn zy ?_)
  all_goals first|refine AtT.zg ?_|refine AtT.ze ?_|(first | refine AtT.zm tk3 ?_ | refine AtT.zo tk3 ?_)
  all_goals first|refine AtT.zg ?_|refine AtT.ze ?_|(first | refine AtT.qD ?_ | refine AtT.qE ?_)
  all_goals first|refine AtT.zg ?_|refine AtT.ze ?_|(first | refine AtT.zi zH ?_ | with_reducible refine AtT.zk zH ?_ | refine AtT.zn zH ?_)
  all_goals first|refine AtT.zg ?_|refine AtT.ze ?_|(first | refine AtT.zm tk3 ?_ | refine AtT.zo tk3 ?_)
  all_goals first|refine AtT.zP ?_|refine AtT.zI ?_|((refine AtT.zw (zU _) ?_) ; (intro q44 V44 hV44 hq44) ; (have g44 : Le V V44 := by first | exact hV44 | exact Le.trans (by assumption) hV44))
  all_goals first|refine AtT.zP ?_|refine AtT.zI ?_|((fail))
  all_goals first|refine AtT.zg ?_|refine AtT.ze ?_|(refine AtT.qZ ?_)
  all_goals (refine AtT.zz ?_)
  all_goals (refine AtT.zh ?_)
  all_goals (first | refine AtT.kL 48 ?_ | refine AtT.zB (d := 48) rfl (fun hg48 => ?_) (fun hg48 => ?_) | refine AtT.zA (d := 48) rfl (fun hg48 => ?_) (fun hg48 => ?_))
  all_goals first|refine AtT.zg ?_|refine AtT.ze ?_|(refine AtT.zh ?_)
  all_goals first|refine AtT.zg ?_|refine AtT.ze ?_|(first | refine AtT.zi zx ?_ | with_reducible refine AtT.zk zx ?_ | refine AtT.zn zx ?_)
  all_goals first|refine AtT.zg ?_|refine AtT.ze ?_|(first | refine AtT.zm tk3 ?_ | refine AtT.zo tk3 ?_)
  all_goals first|refine AtT.zg ?_|refine AtT.ze ?_|(first | refine AtT.qD ?_ | refine AtT.qE ?_)
  all_goals first|refine AtT.zg ?_|refine AtT.ze ?_|(first | refine AtT.zi zG ?_ | with_reducible refine AtT.zk zG ?_ | refine AtT.zn zG ?_)
  all_goals first|refine AtT.zg ?_|refine AtT.ze ?_|(first | refine AtT.zm tk3 ?_ | refine AtT.zo tk3 ?_)
  all_goals first|refine AtT.zP ?_|refine AtT.zI ?_|((refine AtT.zw (zU _) ?_) ; (intro q55 V55 hV55 hq55) ; (have g55 : Le V V55 := by first | exact hV55 | exact Le.trans (by assumption) hV55))
  all_goals first|refine AtT.zP ?_|refine AtT.zI ?_|((fail))
  all_goals first|refine AtT.zg ?_|refine AtT.ze ?_|(refine AtT.qZ ?_)
  all_goals (refine AtT.zz ?_)
  all_goals refine AtT.done ?_
  all_goals (refine At.nrm ?_)
  refine At.qB rfl rfl ?_
  refine At.nrm ?_
  refine At.zl (.q 0 .done) ?_
  refine AtT.zf ?_
  refine AtT.done ?_
  refine At.nrm ?_
  exact At.qb rfl (.tmp rfl) (by unfold peE; rw [if_pos (by omega)])
 by_cases m2 : 1 ≤ p.w ∧ p.w ≤ (wdS s : Int)
 rotate_left
 ·refine At.zl (.q 0 (.q 1 (.q 2 (.n false 3 (.n false 4 (.q 5 (.q 6 (.q 7 (.q 8 (.q 9 (.n false 10 (.n false 11 (.q 12 (.q 13 (.q 14 (.q 15 (.q 16 (.q 17 (.q 18 (.q 19 (.q 20 (.n false 21 (.n false 22 (.q 23 (.q 24 (.q 25 (.q 26 (.q 27 (.q 28 (.q 29 (.q 30 (.q 31 (.n false 32 (.n false 33 (.q 34 (.q 35 .done)))))))))))))))))))))))))))))))))))) ?_
  refine AtT.zh ?_
  first | refine AtT.zi zy ?_ | with_reducible refine AtT.zk zy ?_ | refine AtT.zn zy ?_
  first | refine AtT.zm tk3 ?_ | refine AtT.zo tk3 ?_
  refine AtT.zw (zU _) ?_
  intro q26 V26 hV26 hq26
  have g26 : Le V V26 := by first | exact hV26 | exact Le.trans (by assumption) hV26
  refine AtT.zq rfl rfl jq (qj 1 s.rows.length [p.h] _ _ (Sl.lit hq26 rfl (by simp))) ?_
  rintro _ rfl; rw [jv, decide_eq_true m1]
  refine AtT.qZ ?_
  refine AtT.zh ?_
  all_goals (first | refine AtT.kL 29 ?_ | refine AtT.zB (d := 29) rfl (fun hg29 => ?_) (fun hg29 => ?_) | refine AtT.zA (d := 29) rfl (fun hg29 => ?_) (fun hg29 => ?_))
  all_goals first|refine AtT.zg ?_|refine AtT.ze ?_|(refine AtT.zh ?_)
  all_goals first|refine AtT.zg ?_|refine AtT.ze ?_|(first | refine AtT.zi zx ?_ | with_reducible refine AtT.zk zx ?_ | refine AtT.zn zx ?_)
  all_goals first|refine AtT.zg ?_|refine AtT.ze ?_|(first | refine AtT.zm tk3 ?_ | refine AtT.zo tk3 ?_)
  all_goals first|refine AtT.zP ?_|refine AtT.zI ?_|((refine AtT.zw (zU _) ?_) ; (intro q33 V33 hV33 hq33) ; (have g33 : Le V V33 := by first | exact hV33 | exact Le.trans (by assumption) hV33))
  all_goals first|refine AtT.zP ?_|refine AtT.zI ?_|((refine AtT.zq rfl rfl jq (qj 1 (wdS s) [p.w] _ _ (Sl.lit hq33 rfl (by simp))) ?_) ; (rintro _ rfl; rw [jv, decide_eq_false m2]))
  all_goals first|refine AtT.zg ?_|refine AtT.ze ?_|(refine AtT.qZ ?_)
  all_goals (refine AtT.zz ?_)
  all_goals (refine AtT.zh ?_)
  all_goals (first | refine AtT.kL 37 ?_ | refine AtT.zB (d := 37) rfl (fun hg37 => ?_) (fun hg37 => ?_) | refine AtT.zA (d := 37) rfl (fun hg37 => ?_) (fun hg37 => ?_))
  all_goals first|refine AtT.zg ?_|refine AtT.ze ?_|(refine AtT.zh ?_)
  all_goals first|refine AtT.zg ?_|refine AtT.ze ?_|(first | refine AtT.zi zy ?_ | with_reducible refine AtT.zk zy ?_ | refine AtT.zn zy ?_)
  all_goals first|refine AtT.zg ?_|refine AtT.ze ?_|(first | refine AtT.zm tk3 ?_ | refine AtT.zo tk3 ?_)
  all_goals first|refine AtT.zg ?_|refine AtT.ze ?_|(first | refine AtT.qD ?_ | refine AtT.qE ?_)
  all_goals first|refine AtT.zg ?_|refine AtT.ze ?_|(first | refine AtT.zi zH ?_ | with_reducible refine AtT.zk zH ?_ | refine AtT.zn zH ?_)
  all_goals first|refine AtT.zg ?_|refine AtT.ze ?_|(first | refine AtT.zm tk3 ?_ | refine AtT.zo tk3 ?_)
  all_goals first|refine AtT.zP ?_|refine AtT.zI ?_|((refine AtT.zw (zU _) ?_) ; (intro q44 V44 hV44 hq44) ; (have g44 : Le V V44 := by first | exact hV44 | exact Le.trans (by assumption) hV44))
  all_goals first|refine AtT.zP ?_|refine AtT.zI ?_|((fail))
  all_goals first|refine AtT.zg ?_|refine AtT.ze ?_|(refine AtT.qZ ?_)
  all_goals (refine AtT.zz ?_)
  all_goals (refine AtT.zh ?_)
  all_goals (first | refine AtT.kL 48 ?_ | refine AtT.zB (d := 48) rfl (fun hg48 => ?_) (fun hg48 => ?_) | refine AtT.zA (d := 48) rfl (fun hg48 => ?_) (fun hg48 => ?_))
  all_goals first|refine AtT.zg ?_|refine AtT.ze ?_|(refine AtT.zh ?_)
  all_goals first|refine AtT.zg ?_|refine AtT.ze ?_|(first | refine AtT.zi zx ?_ | with_reducible refine AtT.zk zx ?_ | refine AtT.zn zx ?_)
  all_goals first|refine AtT.zg ?_|refine AtT.ze ?_|(first | refine AtT.zm tk3 ?_ | refine AtT.zo tk3 ?_)
  all_goals first|refine AtT.zg ?_|refine AtT.ze ?_|(first | refine AtT.qD ?_ | refine AtT.qE ?_)
  all_goals first|refine AtT.zg ?_|refine AtT.ze ?_|(first | refine AtT.zi zG ?_ | with_reducible refine AtT.zk zG ?_ | refine AtT.zn zG ?_)
  all_goals first|refine AtT.zg ?_|refine AtT.ze ?_|(first | refine AtT.zm tk3 ?_ | refine AtT.zo tk3 ?_)
  all_goals first|refine AtT.zP ?_|refine AtT.zI ?_|((refine AtT.zw (zU _) ?_) ; (intro q55 V55 hV55 hq55) ; (have g55 : Le V V55 := by first | exact hV55 | exact Le.trans (by assumption) hV55))
  all_goals first|refine AtT.zP ?_|refine AtT.zI ?_|((fail))
  all_goals first|refine AtT.zg ?_|refine AtT.ze ?_|(refine AtT.qZ ?_)
  all_goals (refine AtT.zz ?_)
  all_goals refine AtT.done ?_
  all_goals (refine At.nrm ?_)
  refine At.qB rfl rfl ?_
  refine At.nrm ?_
  refine At.zl (.q 0 .done) ?_
  refine AtT.zf ?_
  refine AtT.done ?_
  refine At.nrm ?_
  exact At.qb rfl (.tmp rfl) (by unfold peE; rw [if_pos (by omega)])
 by_cases m3 : 0 ≤ p.t ∧ p.t ≤ (s.rows.length : Int) - p.h
 rotate_left
 ·refine At.zl (.q 0 (.q 1 (.q 2 (.n false 3 (.n false 4 (.q 5 (.q 6 (.q 7 (.q 8 (.q 9 (.n false 10 (.n false 11 (.q 12 (.q 13 (.q 14 (.q 15 (.q 16 (.q 17 (.q 18 (.q 19 (.q 20 (.n false 21 (.n false 22 (.q 23 (.q 24 (.q 25 (.q 26 (.q 27 (.q 28 (.q 29 (.q 30 (.q 31 (.n false 32 (.n false 33 (.q 34 (.q 35 .done)))))))))))))))))))))))))))))))))))) ?_
  refine AtT.zh ?_
  first | refine AtT.zi zy ?_ | with_reducible refine AtT.zk zy ?_ | refine AtT.zn zy ?_
  first | refine AtT.zm tk3 ?_ | refine AtT.zo tk3 ?_
  refine AtT.zw (zU _) ?_
  intro q26 V26 hV26 hq26
  have g26 : Le V V26 := by first | exact hV26 | exact Le.trans (by assumption) hV26
  refine AtT.zq rfl rfl jq (qj 1 s.rows.length [p.h] _ _ (Sl.lit hq26 rfl (by simp))) ?_
  rintro _ rfl; rw [jv, decide_eq_true m1]
  refine AtT.qZ ?_
  refine AtT.zh ?_
  all_goals (first | refine AtT.kL 29 ?_ | refine AtT.zB (d := 29) rfl (fun hg29 => ?_) (fun hg29 => ?_) | refine AtT.zA (d := 29) rfl (fun hg29 => ?_) (fun hg29 => ?_))
  all_goals first|refine AtT.zg ?_|refine AtT.ze ?_|(refine AtT.zh ?_)
  all_goals first|refine AtT.zg ?_|refine AtT.ze ?_|(first | refine AtT.zi zx ?_ | with_reducible refine AtT.zk zx ?_ | refine AtT.zn zx ?_)
  all_goals first|refine AtT.zg ?_|refine AtT.ze ?_|(first | refine AtT.zm tk3 ?_ | refine AtT.zo tk3 ?_)
  all_goals first|refine AtT.zP ?_|refine AtT.zI ?_|((refine AtT.zw (zU _) ?_) ; (intro q33 V33 hV33 hq33) ; (have g33 : Le V V33 := by first | exact hV33 | exact Le.trans (by assumption) hV33))
  all_goals first|refine AtT.zP ?_|refine AtT.zI ?_|((refine AtT.zq rfl rfl jq (qj 1 (wdS s) [p.w] _ _ (Sl.lit hq33 rfl (by simp))) ?_) ; (rintro _ rfl; rw [jv, decide_eq_true m2]))
  all_goals first|refine AtT.zg ?_|refine AtT.ze ?_|(refine AtT.qZ ?_)
  all_goals (refine AtT.zz ?_)
  all_goals (refine AtT.zh ?_)
  all_goals (first | refine AtT.kL 37 ?_ | refine AtT.zB (d := 37) rfl (fun hg37 => ?_) (fun hg37 => ?_) | refine AtT.zA (d := 37) rfl (fun hg37 => ?_) (fun hg37 => ?_))
  all_goals first|refine AtT.zg ?_|refine AtT.ze ?_|(refine AtT.zh ?_)
  all_goals first|refine AtT.zg ?_|refine AtT.ze ?_|(first | refine AtT.zi zy ?_ | with_reducible refine AtT.zk zy ?_ | refine AtT.zn zy ?_)
  all_goals first|refine AtT.zg ?_|refine AtT.ze ?_|(first | refine AtT.zm tk3 ?_ | refine AtT.zo tk3 ?_)
  all_goals first|refine AtT.zg ?_|refine AtT.ze ?_|(first | refine AtT.qD ?_ | refine AtT.qE ?_)
  all_goals first|refine AtT.zg ?_|refine AtT.ze ?_|(first | refine AtT.zi zH ?_ | with_reducible refine AtT.zk zH ?_ | refine AtT.zn zH ?_)
  all_goals first|refine AtT.zg ?_|refine AtT.ze ?_|(first | refine AtT.zm tk3 ?_ | refine AtT.zo tk3 ?_)
  all_goals first|refine AtT.zP ?_|refine AtT.zI ?_|((refine AtT.zw (zU _) ?_) ; (intro q44 V44 hV44 hq44) ; (have g44 : Le V V44 := by first | exact hV44 | exact Le.trans (by assumption) hV44))
  all_goals first|refine AtT.zP ?_|refine AtT.zI ?_|((refine AtT.zq rfl rfl jq (qj 0 (s.rows.length - p.h) [p.t] _ _ (Sl.lit hq44 rfl (by simp))) ?_) ; (rintro _ rfl; rw [jv, decide_eq_false m3]))
  all_goals first|refine AtT.zg ?_|refine AtT.ze ?_|(refine AtT.qZ ?_)
  all_goals (refine AtT.zz ?_)
  all_goals (refine AtT.zh ?_)
  all_goals (first | refine AtT.kL 48 ?_ | refine AtT.zB (d := 48) rfl (fun hg48 => ?_) (fun hg48 => ?_) | refine AtT.zA (d := 48) rfl (fun hg48 => ?_) (fun hg48 => ?_))
  all_goals first|refine AtT.zg ?_|refine AtT.ze ?_|(refine AtT.zh ?_)
  all_goals first|refine AtT.zg ?_|refine AtT.ze ?_|(first | refine AtT.zi zx ?_ | with_reducible refine AtT.zk zx ?_ | refine AtT.zn zx ?_)
  all_goals first|refine AtT.zg ?_|refine AtT.ze ?_|(first | refine AtT.zm tk3 ?_ | refine AtT.zo tk3 ?_)
  all_goals first|refine AtT.zg ?_|refine AtT.ze ?_|(first | refine AtT.qD ?_ | refine AtT.qE ?_)
  all_goals first|refine AtT.zg ?_|refine AtT.ze ?_|(first | refine AtT.zi zG ?_ | with_reducible refine AtT.zk zG ?_ | refine AtT.zn zG ?_)
  all_goals first|refine AtT.zg ?_|refine AtT.ze ?_|(first | refine AtT.zm tk3 ?_ | refine AtT.zo tk3 ?_)
  all_goals first|refine AtT.zP ?_|refine AtT.zI ?_|((refine AtT.zw (zU _) ?_) ; (intro q55 V55 hV55 hq55) ; (have g55 : Le V V55 := by first | exact hV55 | exact Le.trans (by assumption) hV55))
  all_goals first|refine AtT.zP ?_|refine AtT.zI ?_|((fail))
  all_goals first|refine AtT.zg ?_|refine AtT.ze ?_|(refine AtT.qZ ?_)
  all_goals (refine AtT.zz ?_)
  all_goals refine AtT.done ?_
  all_goals (refine At.nrm ?_)
  refine At.qB rfl rfl ?_
  refine At.nrm ?_
  refine At.zl (.q 0 .done) ?_
  refine AtT.zf ?_
  refine AtT.done ?_
  refine At.nrm ?_
  exact At.qb rfl (.tmp rfl) (by unfold peE; rw [if_pos (by omega)])
 by_cases m4 : 0 ≤ p.l ∧ p.l ≤ (wdS s : Int) - p.w
 rotate_left
 ·refine At.zl (.q 0 (.q 1 (.q 2 (.n false 3 (.n false 4 (.q 5 (.q 6 (.q 7 (.q 8 (.q 9 (.n false 10 (.n false 11 (.q 12 (.q 13 (.q 14 (.q 15 (.q 16 (.q 17 (.q 18 (.q 19 (.q 20 (.n false 21 (.n false 22 (.q 23 (.q 24 (.q 25 (.q 26 (.q 27 (.q 28 (.q 29 (.q 30 (.q 31 (.n false 32 (.n false 33 (.q 34 (.q 35 .done)))))))))))))))))))))))))))))))))))) ?_
  refine AtT.zh ?_
  first | refine AtT.zi zy ?_ | with_reducible refine AtT.zk zy ?_ | refine AtT.zn zy ?_
  first | refine AtT.zm tk3 ?_ | refine AtT.zo tk3 ?_
  refine AtT.zw (zU _) ?_
  intro q26 V26 hV26 hq26
  have g26 : Le V V26 := by first | exact hV26 | exact Le.trans (by assumption) hV26
  refine AtT.zq rfl rfl jq (qj 1 s.rows.length [p.h] _ _ (Sl.lit hq26 rfl (by simp))) ?_
  rintro _ rfl; rw [jv, decide_eq_true m1]
  refine AtT.qZ ?_
  refine AtT.zh ?_
  all_goals (first | refine AtT.kL 29 ?_ | refine AtT.zB (d := 29) rfl (fun hg29 => ?_) (fun hg29 => ?_) | refine AtT.zA (d := 29) rfl (fun hg29 => ?_) (fun hg29 => ?_))
  all_goals first|refine AtT.zg ?_|refine AtT.ze ?_|(refine AtT.zh ?_)
  all_goals first|refine AtT.zg ?_|refine AtT.ze ?_|(first | refine AtT.zi zx ?_ | with_reducible refine AtT.zk zx ?_ | refine AtT.zn zx ?_)
  all_goals first|refine AtT.zg ?_|refine AtT.ze ?_|(first | refine AtT.zm tk3 ?_ | refine AtT.zo tk3 ?_)
  all_goals first|refine AtT.zP ?_|refine AtT.zI ?_|((refine AtT.zw (zU _) ?_) ; (intro q33 V33 hV33 hq33) ; (have g33 : Le V V33 := by first | exact hV33 | exact Le.trans (by assumption) hV33))
  all_goals first|refine AtT.zP ?_|refine AtT.zI ?_|((refine AtT.zq rfl rfl jq (qj 1 (wdS s) [p.w] _ _ (Sl.lit hq33 rfl (by simp))) ?_) ; (rintro _ rfl; rw [jv, decide_eq_true m2]))
  all_goals first|refine AtT.zg ?_|refine AtT.ze ?_|(refine AtT.qZ ?_)
  all_goals (refine AtT.zz ?_)
  all_goals (refine AtT.zh ?_)
  all_goals (first | refine AtT.kL 37 ?_ | refine AtT.zB (d := 37) rfl (fun hg37 => ?_) (fun hg37 => ?_) | refine AtT.zA (d := 37) rfl (fun hg37 => ?_) (fun hg37 => ?_))
  all_goals first|refine AtT.zg ?_|refine AtT.ze ?_|(refine AtT.zh ?_)
  all_goals first|refine AtT.zg ?_|refine AtT.ze ?_|(first | refine AtT.zi zy ?_ | with_reducible refine AtT.zk zy ?_ | refine AtT.zn zy ?_)
  all_goals first|refine AtT.zg ?_|refine AtT.ze ?_|(first | refine AtT.zm tk3 ?_ | refine AtT.zo tk3 ?_)
  all_goals first|refine AtT.zg ?_|refine AtT.ze ?_|(first | refine AtT.qD ?_ | refine AtT.qE ?_)
  all_goals first|refine AtT.zg ?_|refine AtT.ze ?_|(first | refine AtT.zi zH ?_ | with_reducible refine AtT.zk zH ?_ | refine AtT.zn zH ?_)
  all_goals first|refine AtT.zg ?_|refine AtT.ze ?_|(first | refine AtT.zm tk3 ?_ | refine AtT.zo tk3 ?_)
  all_goals first|refine AtT.zP ?_|refine AtT.zI ?_|((refine AtT.zw (zU _) ?_) ; (intro q44 V44 hV44 hq44) ; (have g44 : Le V V44 := by first | exact hV44 | exact Le.trans (by assumption) hV44))
  all_goals first|refine AtT.zP ?_|refine AtT.zI ?_|((refine AtT.zq rfl rfl jq (qj 0 (s.rows.length - p.h) [p.t] _ _ (Sl.lit hq44 rfl (by simp))) ?_) ; (rintro _ rfl; rw [jv, decide_eq_true m3]))
  all_goals first|refine AtT.zg ?_|refine AtT.ze ?_|(refine AtT.qZ ?_)
  all_goals (refine AtT.zz ?_)
  all_goals (refine AtT.zh ?_)
  all_goals (first | refine AtT.kL 48 ?_ | refine AtT.zB (d := 48) rfl (fun hg48 => ?_) (fun hg48 => ?_) | refine AtT.zA (d := 48) rfl (fun hg48 => ?_) (fun hg48 => ?_))
  all_goals first|refine AtT.zg ?_|refine AtT.ze ?_|(refine AtT.zh ?_)
  all_goals first|refine AtT.zg ?_|refine AtT.ze ?_|(first | refine AtT.zi zx ?_ | with_reducible refine AtT.zk zx ?_ | refine AtT.zn zx ?_)
  all_goals first|refine AtT.zg ?_|refine AtT.ze ?_|(first | refine AtT.zm tk3 ?_ | refine AtT.zo tk3 ?_)
  all_goals first|refine AtT.zg ?_|refine AtT.ze ?_|(first | refine AtT.qD ?_ | refine AtT.qE ?_)
  all_goals first|refine AtT.zg ?_|refine AtT.ze ?_|(first | refine AtT.zi zG ?_ | with_reducible refine AtT.zk zG ?_ | refine AtT.zn zG ?_)
  all_goals first|refine AtT.zg ?_|refine AtT.ze ?_|(first | refine AtT.zm tk3 ?_ | refine AtT.zo tk3 ?_)
  all_goals first|refine AtT.zP ?_|refine AtT.zI ?_|((refine AtT.zw (zU _) ?_) ; (intro q55 V55 hV55 hq55) ; (have g55 : Le V V55 := by first | exact hV55 | exact Le.trans (by assumption) hV55))
  all_goals first|refine AtT.zP ?_|refine AtT.zI ?_|((refine AtT.zq rfl rfl jq (qj 0 (wdS s - p.w) [p.l] _ _ (Sl.lit hq55 rfl (by simp))) ?_) ; (rintro _ rfl; rw [jv, decide_eq_false m4]))
  all_goals first|refine AtT.zg ?_|refine AtT.ze ?_|(refine AtT.qZ ?_)
  all_goals (refine AtT.zz ?_)
  all_goals refine AtT.done ?_
  all_goals (refine At.nrm ?_)
  refine At.qB rfl rfl ?_
  refine At.nrm ?_
  refine At.zl (.q 0 .done) ?_
  refine AtT.zf ?_
  refine AtT.done ?_
  refine At.nrm ?_
  exact At.qb rfl (.tmp rfl) (by unfold peE; rw [if_pos (by omega)])
 refine At.zl (.q 0 (.q 1 (.q 2 (.n false 3 (.n false 4 (.q 5 (.q 6 (.q 7 (.q 8 (.q 9 (.n false 10 (.n false 11 (.q 12 (.q 13 (.q 14 (.q 15 (.q 16 (.q 17 (.q 18 (.q 19 (.q 20 (.n false 21 (.n false 22 (.q 23 (.q 24 (.q 25 (.q 26 (.q 27 (.q 28 (.q 29 (.q 30 (.q 31 (.n false 32 (.n false 33 (.q 34 (.q 35 .done)))))))))))))))))))))))))))))))))))) ?_
 refine AtT.zh ?_
 first | refine AtT.zi zy ?_ | with_reducible refine AtT.zk zy ?_ | refine AtT.zn zy ?_
 first | refine AtT.zm tk3 ?_ | refine AtT.zo tk3 ?_
 refine AtT.zw (zU _) ?_
 intro q26 V26 hV26 hq26
 have g26 : Le V V26 := by first | exact hV26 | exact Le.trans (by assumption) hV26
 refine AtT.zq rfl rfl jq (qj 1 s.rows.length [p.h] _ _ (Sl.lit hq26 rfl (by simp))) ?_
 rintro _ rfl; rw [jv, decide_eq_true m1]
 refine AtT.qZ ?_
 refine AtT.zh ?_
 all_goals (first | refine AtT.kL 29 ?_ | refine AtT.zB (d := 29) rfl (fun hg29 => ?_) (fun hg29 => ?_) | refine AtT.zA (d := 29) rfl (fun hg29 => ?_) (fun hg29 => ?_))
 all_goals first|refine AtT.zg ?_|refine AtT.ze ?_|(refine AtT.zh ?_)
 all_goals first|refine AtT.zg ?_|refine AtT.ze ?_|(first | refine AtT.zi zx ?_ | with_reducible refine AtT.zk zx ?_ | refine AtT.zn zx ?_)
 all_goals first|refine AtT.zg ?_|refine AtT.ze ?_|(first | refine AtT.zm tk3 ?_ | refine AtT.zo tk3 ?_)
 all_goals first|refine AtT.zP ?_|refine AtT.zI ?_|((refine AtT.zw (zU _) ?_) ; (intro q33 V33 hV33 hq33) ; (have g33 : Le V V33 := by first | exact hV33 | exact Le.trans (by assumption) hV33))
 all_goals first|refine AtT.zP ?_|refine AtT.zI ?_|((refine AtT.zq rfl rfl jq (qj 1 (wdS s) [p.w] _ _ (Sl.lit hq33 rfl (by simp))) ?_) ; (rintro _ rfl; rw [jv, decide_eq_true m2]))
 all_goals first|refine AtT.zg ?_|refine AtT.ze ?_|(refine AtT.qZ ?_)
 all_goals (refine AtT.zz ?_)
 all_goals (refine AtT.zh ?_)
 all_goals (first | refine AtT.kL 37 ?_ | refine AtT.zB (d := 37) rfl (fun hg37 => ?_) (fun hg37 => ?_) | refine AtT.zA (d := 37) rfl (fun hg37 => ?_) (fun hg37 => ?_))
 all_goals first|refine AtT.zg ?_|refine AtT.ze ?_|(refine AtT.zh ?_)
 all_goals first|refine AtT.zg ?_|refine AtT.ze ?_|(first | refine AtT.zi zy ?_ | with_reducible refine AtT.zk zy ?_ | refine AtT.zn zy ?_)
 all_goals first|refine AtT.zg ?_|refine AtT.ze ?_|(first | refine AtT.zm tk3 ?_ | refine AtT.zo tk3 ?_)
 all_goals first|refine AtT.zg ?_|refine AtT.ze ?_|(first | refine AtT.qD ?_ | refine AtT.qE ?_)
 all_goals first|refine AtT.zg ?_|refine AtT.ze ?_|(first | refine AtT.zi zH ?_ | with_reducible refine AtT.zk zH ?_ | refine AtT.zn zH ?_)
 all_goals first|refine AtT.zg ?_|refine AtT.ze ?_|(first | refine AtT.zm tk3 ?_ | refine AtT.zo tk3 ?_)
 all_goals first|refine AtT.zP ?_|refine AtT.zI ?_|((refine AtT.zw (zU _) ?_) ; (intro q44 V44 hV44 hq44) ; (have g44 : Le V V44 := by first | exact hV44 | exact Le.trans (by assumption) hV44))
 all_goals first|refine AtT.zP ?_|refine AtT.zI ?_|((refine AtT.zq rfl rfl jq (qj 0 (s.rows.length - p.h) [p.t] _ _ (Sl.lit hq44 rfl (by simp))) ?_) ; (rintro _ rfl; rw [jv, decide_eq_true m3]))
 all_goals first|refine AtT.zg ?_|refine AtT.ze ?_|(refine AtT.qZ ?_)
 all_goals (refine AtT.zz ?_)
 all_goals (refine AtT.zh ?_)
 all_goals (first | refine AtT.kL 48 ?_ | refine AtT.zB (d := 48) rfl (fun hg48 => ?_) (fun hg48 => ?_) | refine AtT.zA (d := 48) rfl (fun hg48 => ?_) (fun hg48 => ?_))
 all_goals first|refine AtT.zg ?_|refine AtT.ze ?_|(refine AtT.zh ?_)
 all_goals first|refine AtT.zg ?_|refine AtT.ze ?_|(first | refine AtT.zi zx ?_ | with_reducible refine AtT.zk zx ?_ | refine AtT.zn zx ?_)
 all_goals first|refine AtT.zg ?_|refine AtT.ze ?_|(first | refine AtT.zm tk3 ?_ | refine AtT.zo tk3 ?_)
 all_goals first|refine AtT.zg ?_|refine AtT.ze ?_|(first | refine AtT.qD ?_ | refine AtT.qE ?_)
 all_goals first|refine AtT.zg ?_|refine AtT.ze ?_|(first | refine AtT.zi zG ?_ | with_reducible refine AtT.zk zG ?_ | refine AtT.zn zG ?_)
 all_goals first|refine AtT.zg ?_|refine AtT.ze ?_|(first | refine AtT.zm tk3 ?_ | refine AtT.zo tk3 ?_)
 all_goals first|refine AtT.zP ?_|refine AtT.zI ?_|((refine AtT.zw (zU _) ?_) ; (intro q55 V55 hV55 hq55) ; (have g55 : Le V V55 := by first | exact hV55 | exact Le.trans (by assumption) hV55))
 all_goals first|refine AtT.zP ?_|refine AtT.zI ?_|((refine AtT.zq rfl rfl jq (qj 0 (wdS s - p.w) [p.l] _ _ (Sl.lit hq55 rfl (by simp))) ?_) ; (rintro _ rfl; rw [jv, decide_eq_true m4]))
 all_goals first|refine AtT.zg ?_|refine AtT.ze ?_|(refine AtT.qZ ?_)
 all_goals (refine AtT.zz ?_)
 all_goals refine AtT.done ?_
 all_goals (refine At.nrm ?_)
 refine At.qW rfl rfl ?_
 obtain ⟨T, hT⟩ : ∃ T : Nat, p.t = (T : Int) := ⟨p.t.toNat, by omega⟩
 obtain ⟨L, hL⟩ : ∃ L : Nat, p.l = (L : Int) := ⟨p.l.toNat, by omega⟩
 obtain ⟨B, hB⟩ : ∃ B : Nat, p.t + p.h = (B : Int) := ⟨(p.t + p.h).toNat, by omega⟩
 obtain ⟨R, hRr⟩ : ∃ R : Nat, p.l + p.w = (R : Int) := ⟨(p.l + p.w).toNat, by omega⟩
 have g1 := fgF_at s (a := B) (b := R) (by omega) (by omega) (by omega) (by omega)
 have g2 := fgF_at s (a := T) (b := R) (by omega) (by omega) (by omega) (by omega)
 have g3 := fgF_at s (a := B) (b := L) (by omega) (by omega) (by omega) (by omega)
 have g4 := fgF_at s (a := T) (b := L) (by omega) (by omega) (by omega) (by omega)
 have k1 := fgN_le hok (a := B) (b := R) (by omega) (by omega)
 have k2 := fgN_le hok (a := T) (b := R) (by omega) (by omega)
 have k3 := fgN_le hok (a := B) (b := L) (by omega) (by omega)
 have k4 := fgN_le hok (a := T) (b := L) (by omega) (by omega)
 have hfs := fig_sums (s := s) (p := p) (by omega) (by omega) (by omega) (by omega)
 rw [hB, hRr, hT, hL, Int.toNat_natCast, Int.toNat_natCast, Int.toNat_natCast, Int.toNat_natCast] at hfs
 have hab := ar_bd (h := p.h) (w := p.w) (by omega) (by omega)
 have hfit : Fit (p.h * p.w) := Fit.of (by omega) (by omega)
 have hin : 1 ≤ p.h ∧ p.h ≤ (gdS s).R ∧ 1 ≤ p.w ∧ p.w ≤ (gdS s).C ∧ 0 ≤ p.t ∧ 0 ≤ p.l ∧ p.t ≤ (gdS s).R - p.h ∧ p.l ≤ (gdS s).C - p.w := by omega
 have c1 : ∀ V', Le V V' → Fnc Tryz.prog 88 [.pointer (some ⟨b, 0, none⟩), iv B, iv R] V' fun r _ => r = iv (fgN s.rows B R) := fun V' hV' => above_f _ b B R _ g1 (by omega) V' (hc3.le hV')
 have c2 : ∀ V', Le V V' → Fnc Tryz.prog 88 [.pointer (some ⟨b, 0, none⟩), iv p.t, iv R] V' fun r _ => r = iv (fgN s.rows T R) := fun V' hV' => by rw [hT]; exact above_f _ b T R _ g2 (by omega) V' (hc3.le hV')
 have c3 : ∀ V', Le V V' → Fnc Tryz.prog 88 [.pointer (some ⟨b, 0, none⟩), iv B, iv p.l] V' fun r _ => r = iv (fgN s.rows B L) := fun V' hV' => by rw [hL]; exact above_f _ b B L _ g3 (by omega) V' (hc3.le hV')
 have c4 : ∀ V', Le V V' → Fnc Tryz.prog 88 [.pointer (some ⟨b, 0, none⟩), iv p.t, iv p.l] V' fun r _ => r = iv (fgN s.rows T L) := fun V' hV' => by rw [hT, hL]; exact above_f _ b T L _ g4 (by omega) V' (hc3.le hV')
 refine At.nrm ?_
 refine At.jr (ι := Unit) (fun _ => [(0, .pointer (some ⟨b, 0, none⟩)), (3, .pointer (some ⟨b3, 0, none⟩)), (7, iv B), (8, iv R)]) (fun _ => [.blk b3 (LC (pce p) 26)]) (fun _ V'' => Le V V'') ?_ ?_
 ·refine At.draw (.q 0 (.q 1 (.q 2 (.q 3 (.q 4 (.q 5 (.q 6 (.q 7 (.q 8 (.q 9 (.q 10 (.q 11 .done)))))))))))) ffm (by kernel_rfl) ?_
  first | refine AtT.zi zH ?_ | with_reducible refine AtT.zk zH ?_ | refine AtT.zn zH ?_
  first | refine AtT.zm tk3 ?_ | refine AtT.zo tk3 ?_
  first | refine AtT.zi zy ?_ | with_reducible refine AtT.zk zy ?_ | refine AtT.zn zy ?_
  first | refine AtT.zm tk3 ?_ | refine AtT.zo tk3 ?_
  first | refine AtT.qi ?_ | refine AtT.zT ?_
  first | refine AtT.zi zG ?_ | with_reducible refine AtT.zk zG ?_ | refine AtT.zn zG ?_
  first | refine AtT.zm tk3 ?_ | refine AtT.zo tk3 ?_
  first | refine AtT.zi zx ?_ | with_reducible refine AtT.zk zx ?_ | refine AtT.zn zx ?_
  first | refine AtT.zm tk3 ?_ | refine AtT.zo tk3 ?_
  first | refine AtT.qi ?_ | refine AtT.zT ?_
  refine AtT.zf ?_
  refine AtT.zf ?_
  refine AtT.done ?_
  refine At.nrm ?_
  all_goals (rw [hB, hRr]; exact At.qC () (by first | exact Le.refl _ | assumption | exact Le.trans (by assumption) (by assumption)) ⟨rfl, rfl, rfl, rfl, trivial⟩ Pt.zO)
 rintro _ V2 ks' O' hVV hk hO hl2
 subst hk hO
 refine At.nrm ?_
 refine At.jr (ι := Unit) (fun _ => [(0, .pointer (some ⟨b, 0, none⟩)), (3, .pointer (some ⟨b3, 0, none⟩)), (100, .bool (hasF (gdS s) p))]) (fun _ => [.blk b3 (LC (pce p) 26)]) (fun _ V'' => Le V V'') ?_ ?_
 ·by_cases hz : fgF s = List.replicate 49 0
  ·have hF := fgF_zero hok hz (p := p) (by omega) (by omega) (by omega) (by omega) (by omega) (by omega)
   rw [hF]
   refine At.draw (.q 0 (.q 1 (.q 2 (.q 3 (.q 4 (.q 5 (.q 6 (.q 7 (.q 8 (.q 9 (.q 11 (.q 12 (.q 13 (.q 14 (.q 17 (.q 18 (.q 19 (.q 20 (.q 23 (.q 24 (.q 25 (.q 26 (.q 27 (.n false 10 (.n false 15 (.q 16 (.n false 21 (.q 22 (.n false 28 (.q 29 (.q 30 (.q 31 .done)))))))))))))))))))))))))))))))) ffm (by kernel_rfl) ?_
   refine AtT.zh ?_
   refine AtT.knil ?_
   first | refine AtT.zi jm ?_ | with_reducible refine AtT.zk jm ?_ | refine AtT.zn jm ?_
   refine AtT.zJ tk86 ?_ (hc := hc3.le hVV) (hl := by rw [qU Lw.ei_len, fgF_len])
   refine AtT.jc (bd86) ?_
   refine AtT.kneS (eqS86 (fgF s) (List.replicate 49 0) (fgF_len s) rfl) ?_
   rw [decide_eq_true hz]
   refine AtT.zh ?_
   all_goals (first | refine AtT.kL 75 ?_ | refine AtT.zB (d := 75) rfl (fun hg75 => ?_) (fun hg75 => ?_) | refine AtT.zA (d := 75) rfl (fun hg75 => ?_) (fun hg75 => ?_))
   all_goals first|refine AtT.zg ?_|refine AtT.ze ?_|(refine AtT.zh ?_)
   all_goals first|refine AtT.zg ?_|refine AtT.ze ?_|(refine AtT.zh ?_)
   all_goals first|refine AtT.zg ?_|refine AtT.ze ?_|(refine AtT.zh ?_)
   all_goals first|refine AtT.zg ?_|refine AtT.ze ?_|(refine AtT.zh ?_)
   all_goals first|refine AtT.zg ?_|refine AtT.ze ?_|(first | refine AtT.zi zH ?_ | with_reducible refine AtT.zk zH ?_ | refine AtT.zn zH ?_)
   all_goals first|refine AtT.zg ?_|refine AtT.ze ?_|(first | refine AtT.zm tk3 ?_ | refine AtT.zo tk3 ?_)
   all_goals first|refine AtT.zg ?_|refine AtT.ze ?_|(refine AtT.zh ?_)
   all_goals first|refine AtT.zg ?_|refine AtT.ze ?_|(refine AtT.zh ?_)
   all_goals first|refine AtT.zg ?_|refine AtT.ze ?_|(refine AtT.zh ?_)
   all_goals first|refine AtT.zg ?_|refine AtT.ze ?_|(first | refine AtT.zi zG ?_ | with_reducible refine AtT.zk zG ?_ | refine AtT.zn zG ?_)
   all_goals first|refine AtT.zg ?_|refine AtT.ze ?_|(first | refine AtT.zm tk3 ?_ | refine AtT.zo tk3 ?_)
   all_goals first|refine AtT.zg ?_|refine AtT.ze ?_|(refine AtT.zh ?_)
   all_goals first|refine AtT.zg ?_|refine AtT.ze ?_|(first | refine AtT.zi zH ?_ | with_reducible refine AtT.zk zH ?_ | refine AtT.zn zH ?_)
   all_goals first|refine AtT.zg ?_|refine AtT.ze ?_|(first | refine AtT.zm tk3 ?_ | refine AtT.zo tk3 ?_)
   all_goals first|refine AtT.zg ?_|refine AtT.ze ?_|(first | refine AtT.zi zG ?_ | with_reducible refine AtT.zk zG ?_ | refine AtT.zn zG ?_)
   all_goals first|refine AtT.zg ?_|refine AtT.ze ?_|(first | refine AtT.zm tk3 ?_ | refine AtT.zo tk3 ?_)
   all_goals first|refine AtT.zP ?_|refine AtT.zI ?_|((fail))
   all_goals first|refine AtT.zP ?_|refine AtT.zI ?_|((fail))
   all_goals first|refine AtT.zg ?_|refine AtT.ze ?_|(first | refine AtT.qD ?_ | refine AtT.qE ?_)
   all_goals first|refine AtT.zP ?_|refine AtT.zI ?_|((fail))
   all_goals first|refine AtT.zg ?_|refine AtT.ze ?_|(first | refine AtT.qD ?_ | refine AtT.qE ?_)
   all_goals first|refine AtT.zP ?_|refine AtT.zI ?_|((fail))
   all_goals first|refine AtT.zg ?_|refine AtT.ze ?_|(first | refine AtT.qi ?_ | refine AtT.zT ?_)
   all_goals first|refine AtT.zg ?_|refine AtT.ze ?_|(refine AtT.qw ?_)
   all_goals (refine AtT.zz ?_)
   all_goals refine AtT.done ?_
   all_goals (refine At.nrm ?_)
   all_goals (exact At.qC () (by first | exact hVV | exact Le.trans hVV (by assumption)) ⟨rfl, rfl, rfl, trivial⟩ Pt.zO)
  ·have hF : decide (fgN s.rows B R - fgN s.rows T R - fgN s.rows B L + fgN s.rows T L > 0) = hasF (gdS s) p := by
    cases h : hasF (gdS s) p with
    | true => exact decide_eq_true (hfs.2 h)
    | false => exact decide_eq_false (fun hc => by rw [hfs.1 hc] at h; cases h)
   rw [← hF]
   refine At.draw (.q 0 (.q 1 (.q 2 (.q 3 (.q 4 (.q 5 (.q 6 (.q 7 (.q 8 (.q 9 (.q 11 (.q 12 (.q 13 (.q 14 (.q 17 (.q 18 (.q 19 (.q 20 (.q 23 (.q 24 (.q 25 (.q 26 (.q 27 (.n false 10 (.n false 15 (.q 16 (.n false 21 (.q 22 (.n false 28 (.q 29 (.q 30 (.q 31 .done)))))))))))))))))))))))))))))))) ffm (by kernel_rfl) ?_
   refine AtT.zh ?_
   refine AtT.knil ?_
   first | refine AtT.zi jm ?_ | with_reducible refine AtT.zk jm ?_ | refine AtT.zn jm ?_
   refine AtT.zJ tk86 ?_ (hc := hc3.le hVV) (hl := by rw [qU Lw.ei_len, fgF_len])
   refine AtT.jc (bd86) ?_
   refine AtT.kneS (eqS86 (fgF s) (List.replicate 49 0) (fgF_len s) rfl) ?_
   rw [decide_eq_false hz]
   refine AtT.zh ?_
   all_goals (first | refine AtT.kL 75 ?_ | refine AtT.zB (d := 75) rfl (fun hg75 => ?_) (fun hg75 => ?_) | refine AtT.zA (d := 75) rfl (fun hg75 => ?_) (fun hg75 => ?_))
   all_goals first|refine AtT.zg ?_|refine AtT.ze ?_|(refine AtT.zh ?_)
   all_goals first|refine AtT.zg ?_|refine AtT.ze ?_|(refine AtT.zh ?_)
   all_goals first|refine AtT.zg ?_|refine AtT.ze ?_|(refine AtT.zh ?_)
   all_goals first|refine AtT.zg ?_|refine AtT.ze ?_|(refine AtT.zh ?_)
   all_goals first|refine AtT.zg ?_|refine AtT.ze ?_|(first | refine AtT.zi zH ?_ | with_reducible refine AtT.zk zH ?_ | refine AtT.zn zH ?_)
   all_goals first|refine AtT.zg ?_|refine AtT.ze ?_|(first | refine AtT.zm tk3 ?_ | refine AtT.zo tk3 ?_)
   all_goals first|refine AtT.zg ?_|refine AtT.ze ?_|(refine AtT.zh ?_)
   all_goals first|refine AtT.zg ?_|refine AtT.ze ?_|(refine AtT.zh ?_)
   all_goals first|refine AtT.zg ?_|refine AtT.ze ?_|(refine AtT.zh ?_)
   all_goals first|refine AtT.zg ?_|refine AtT.ze ?_|(first | refine AtT.zi zG ?_ | with_reducible refine AtT.zk zG ?_ | refine AtT.zn zG ?_)
   all_goals first|refine AtT.zg ?_|refine AtT.ze ?_|(first | refine AtT.zm tk3 ?_ | refine AtT.zo tk3 ?_)
   all_goals first|refine AtT.zg ?_|refine AtT.ze ?_|(refine AtT.zh ?_)
   all_goals first|refine AtT.zg ?_|refine AtT.ze ?_|(first | refine AtT.zi zH ?_ | with_reducible refine AtT.zk zH ?_ | refine AtT.zn zH ?_)
   all_goals first|refine AtT.zg ?_|refine AtT.ze ?_|(first | refine AtT.zm tk3 ?_ | refine AtT.zo tk3 ?_)
   all_goals first|refine AtT.zg ?_|refine AtT.ze ?_|(first | refine AtT.zi zG ?_ | with_reducible refine AtT.zk zG ?_ | refine AtT.zn zG ?_)
   all_goals first|refine AtT.zg ?_|refine AtT.ze ?_|(first | refine AtT.zm tk3 ?_ | refine AtT.zo tk3 ?_)
   all_goals first|refine AtT.zP ?_|refine AtT.zI ?_|((refine AtT.zq rfl rfl ok88 (c1 _ hVV) ?_) ; (rintro _ rfl))
   all_goals first|refine AtT.zP ?_|refine AtT.zI ?_|((refine AtT.zq rfl rfl ok88 (c2 _ hVV) ?_) ; (rintro _ rfl))
   all_goals first|refine AtT.zg ?_|refine AtT.ze ?_|(first | refine AtT.qD ?_ | refine AtT.qE ?_)
   all_goals first|refine AtT.zP ?_|refine AtT.zI ?_|((refine AtT.zq rfl rfl ok88 (c3 _ hVV) ?_) ; (rintro _ rfl))
   all_goals first|refine AtT.zg ?_|refine AtT.ze ?_|(first | refine AtT.qD ?_ | refine AtT.qE ?_)
   all_goals first|refine AtT.zP ?_|refine AtT.zI ?_|((refine AtT.zq rfl rfl ok88 (c4 _ hVV) ?_) ; (rintro _ rfl))
   all_goals first|refine AtT.zg ?_|refine AtT.ze ?_|(first | refine AtT.qi ?_ | refine AtT.zT ?_)
   all_goals first|refine AtT.zg ?_|refine AtT.ze ?_|(refine AtT.qw ?_)
   all_goals (refine AtT.zz ?_)
   all_goals refine AtT.done ?_
   all_goals (refine At.nrm ?_)
   all_goals (exact At.qC () (by first | exact hVV | exact Le.trans hVV (by assumption)) ⟨rfl, rfl, rfl, trivial⟩ Pt.zO)
 rintro _ V3 ks' O' hV3 hk hO hl3
 subst hk hO
 have hc1' := hc1.le hV3
 cases hF : hasF (gdS s) p with
 | true =>
  refine At.qB rfl rfl ?_
  refine At.nrm ?_
  refine At.zl (.q 0 .done) ?_
  refine AtT.zf ?_
  refine AtT.done ?_
  refine At.nrm ?_
  exact At.qb rfl (.tmp rfl) (by unfold peE; rw [if_neg (by omega), if_pos hF])
 | false =>
  refine At.qW rfl rfl ?_
  refine At.nrm ?_
  refine At.jr (ι := Unit) (fun _ => [(111, .bool (decide (s.most < arP p)))]) (fun _ => []) (fun _ V'' => V3 = V'') ?_ ?_
  ·refine At.draw (.q 0 (.q 1 (.q 2 (.q 3 (.q 4 (.q 5 (.q 6 (.q 7 (.q 8 (.q 9 (.q 10 .done))))))))))) ffm (by kernel_rfl) ?_
   first | refine AtT.zi zy ?_ | with_reducible refine AtT.zk zy ?_ | refine AtT.zn zy ?_
   first | refine AtT.zm tk3 ?_ | refine AtT.zo tk3 ?_
   first | refine AtT.zi zx ?_ | with_reducible refine AtT.zk zx ?_ | refine AtT.zn zx ?_
   first | refine AtT.zm tk3 ?_ | refine AtT.zo tk3 ?_
   first | refine AtT.kmul ?_ | refine AtT.kmulW ?_
   refine AtT.zh ?_
   refine AtT.knil ?_
   first | refine AtT.zi fo88_0 ?_ | with_reducible refine AtT.zk fo88_0 ?_ | refine AtT.zn fo88_0 ?_
   first | refine AtT.zi zR ?_ | with_reducible refine AtT.zk zR ?_ | refine AtT.zn zR ?_
   first | refine AtT.zm tk3 ?_ | refine AtT.zo tk3 ?_
   refine AtT.qw ?_
   refine AtT.done ?_
   refine At.nrm ?_
   all_goals (exact At.qC () rfl ⟨rfl, trivial⟩ Pt.zO)
  rintro _ _ ks' O' rfl hk hO hl4
  subst hk hO
  refine At.qc rfl (fun hq => ?_) (fun hq => ?_)
  ·refine At.nrm ?_
   refine At.zl (.q 0 .done) ?_
   refine AtT.zf ?_
   refine AtT.done ?_
   refine At.nrm ?_
   exact At.qb rfl (.tmp rfl) (by unfold peE; rw [if_neg (by omega), if_neg (by rw [hF]; simp), if_pos (by rw [hM]; exact hq)])
  ·refine At.nrm ?_
   refine At.zl (.q 0 .done) ?_
   refine AtT.zf ?_
   refine AtT.done ?_
   refine At.nrm ?_
   exact At.qb rfl (.tmp rfl) (by unfold peE; rw [if_neg (by omega), if_neg (by rw [hF]; simp), if_neg (by rw [hM]; exact hq)])
end Go.Proofs.YtghomjjffllkeaaGreatDoor
set_option linter.unusedVariables false
namespace Go.Pm
open Go.Gl Go.Lw
theorem mnL_of {f : Cl → Int} {l : List Cl} (hl : l ≠ []) (h99 : ∀ k ∈ l, f k ≤ 99) {m : Int} (hm : m ∈ l.map f) (hx : ∀ x ∈ l.map f, m ≤ x) : m = mnL f l := by
 obtain ⟨k, hk, he⟩ := mnL_at hl h99
 obtain ⟨q, hq, rfl⟩ := List.mem_map.1 hm
 have h1 := hx (f k) (List.mem_map_of_mem hk)
 have h2 := mnL_le (f := f) hq
 omega
theorem mxL_of {f : Cl → Int} {l : List Cl} (hl : l ≠ []) (h99 : ∀ k ∈ l, -1 ≤ f k) {m : Int} (hm : m ∈ l.map f) (hx : ∀ x ∈ l.map f, x ≤ m) : m = mxL f l := by
 obtain ⟨k, hk, he⟩ := mxL_at hl h99
 obtain ⟨q, hq, rfl⟩ := List.mem_map.1 hm
 have h1 := hx (f k) (List.mem_map_of_mem hk)
 have h2 := mxL_ge (f := f) hq
 omega
theorem selK_le {α : Type} (K : List α) (b : Nat) : ∀ n, (qR K b n).length ≤ n
 | 0 => Nat.le_refl _
 | n + 1 => by
  have ih := selK_le K b n
  cases c : K[n]? with
  | none => simp only [qR, c]; omega
  | some x =>
   rw [selK_at c]
   split
   ·rw [List.length_append, List.length_singleton]; omega
   ·omega
end Go.Pm
namespace Go.Proofs.YtghomjjffllkeaaGreatDoor
open Go.Lw Go.Gl Go.Pm Go.RowKit
abbrev stv (s : Nat) : Value := .agg #[iv (s : Int)]
theorem max_f (l : List Int) (hl : l ≠ []) (V : View) (v : Value) (hs : SlI V v l) : Fnc Tryz.prog 123 [v] V fun r _ => ∃ m, r = iv m ∧ m ∈ l ∧ ∀ x ∈ l, x ≤ m := by
 have hlen := hs.je
 have hpos : 0 < l.length := List.length_pos_iff.2 hl
 obtain ⟨a, c, rfl, k1, k2, _⟩ := id hs
 clear k1 k2
 refine qf Tryz.func123 rfl Tryz.ntmps123 (Nat.le_of_ble_eq_true rfl) ?_
 intro w0 hw0
 refine At.nrm ?_
 refine At.zl (.q 0 .done) ?_
 refine AtT.zf ?_
 refine AtT.done ?_
 refine At.nrm ?_
 refine At.zl (.q 0 (.q 1 (.q 2 .done))) ?_
 refine AtT.zh ?_
 first | refine AtT.zY Tryz.underlying39 ?_ | refine AtT.zZ Tryz.underlying39 ?_
 refine AtT.qa ?_
 refine AtT.done ?_
 refine At.nrm ?_
 refine At.qW rfl (decide_eq_false (by omega)) ?_
 refine At.nrm ?_
 refine At.zl (.q 0 (.q 1 (.q 2 (.q 3 .done)))) ?_
 refine AtT.zh ?_
 refine AtT.qp Tryz.underlying39 tk3 ?_
 intro p10 e10 he10 hc10
 first | refine AtT.zm tk3 ?_ | refine AtT.zo tk3 ?_
 refine AtT.zf ?_
 refine AtT.done ?_
 refine At.nrm ?_
 have hm0 : e10 ∈ l := List.mem_of_getElem? he10
 have h0 : l[0]? = some e10 := by simpa using he10
 refine At.zl (.q 0 .done) ?_
 refine AtT.zf ?_
 refine AtT.done ?_
 refine At.nrm ?_
 refine At.lp (ι := Nat × Int) (KS := fun g => [(0, .slice a l.length c), (3, iv g.2), (4, iv g.1)]) (OS := fun _ => []) (VS := fun g V' => V' = V ∧ g.1 ≤ l.length ∧ g.2 ∈ l ∧ ∀ (j : Nat) (x : Int), j < g.1 → l[j]? = some x → x ≤ g.2) (μ := fun g => l.length - g.1) (1, e10) ?_ ?_ ?_ ?_
 ·exact ⟨rfl, rfl, rfl, trivial⟩
 ·exact Pt.zO
 ·refine ⟨rfl, hpos, hm0, fun j x hj hx => ?_⟩
  obtain rfl : j = 0 := by dsimp only at hj; omega
  rw [h0] at hx; cases hx; exact Int.le_refl _
 ·rintro ⟨k, m⟩ V' ks' O' ⟨rfl, hkl, hm, hok⟩ hk hO hl2
  dsimp only at hkl hm hok hk hO
  subst hk hO
  refine At.nrm ?_
  refine At.zl (.q 0 (.q 1 (.q 2 (.q 3 .done)))) ?_
  refine AtT.zh ?_
  refine AtT.zh ?_
  first | refine AtT.zY Tryz.underlying39 ?_ | refine AtT.zZ Tryz.underlying39 ?_
  refine AtT.qa ?_
  refine AtT.done ?_
  refine At.nrm ?_
  refine At.qc rfl (fun hp => ?_) (fun hp => ?_)
  ·obtain ⟨x, hx⟩ : ∃ x, l[k]? = some x := ⟨_, List.getElem?_eq_getElem (by omega)⟩
   refine At.nrm ?_
   refine At.zl (.q 0 (.q 1 (.q 2 (.q 3 (.q 4 (.q 5 (.q 6 .done))))))) ?_
   refine AtT.zh ?_
   refine AtT.zh ?_
   refine AtT.zh ?_
   refine AtT.qp Tryz.underlying39 tk3 ?_
   intro p21 e21 he21 hc21
   obtain rfl : e21 = x := by have : l[k]? = some e21 := (by simpa using he21); rw [hx] at this; simpa using this.symm
   first | refine AtT.zm tk3 ?_ | refine AtT.zo tk3 ?_
   refine AtT.kmax2 ?_
   refine AtT.zf ?_
   refine AtT.done ?_
   refine At.nrm ?_
   refine At.zl (.q 0 (.q 1 (.q 2 .done))) ?_
   refine AtT.zh ?_
   first | refine AtT.qi ?_ | refine AtT.zT ?_
   refine AtT.zf ?_
   refine AtT.done ?_
   refine At.nrm ?_
   refine At.round (k + 1, max m e21) ?_ ?_ ?_ ?_
   ·show l.length - (k + 1) < l.length - k; omega
   ·refine ⟨rfl, by dsimp only; omega, ?_, fun j y hj hy => ?_⟩
    ·show max m e21 ∈ l
     by_cases c : m ≤ e21
     ·rw [Int.max_eq_right c]; exact List.mem_of_getElem? hx
     ·rw [Int.max_eq_left (by omega)]; exact hm
    ·show y ≤ max m e21
     dsimp only at hj
     by_cases hjk : j = k
     ·subst hjk; rw [hx] at hy; cases hy; omega
     ·have := hok j y (by omega) hy; omega
   ·exact ⟨rfl, rfl, ivs (by dsimp only; omega), trivial⟩
   ·exact Pt.zO
  ·obtain rfl : k = l.length := by omega
   refine At.nrm ?_
   refine At.zl (.q 0 (.q 1 .done)) ?_
   refine AtT.zh ?_
   refine AtT.zf ?_
   refine AtT.done ?_
   refine At.nrm ?_
   exact At.qb rfl (.tmp rfl) ⟨m, rfl, hm, fun x hx => by obtain ⟨j, hj, rfl⟩ := List.getElem_of_mem hx; exact hok j _ hj (List.getElem?_eq_getElem hj)⟩
theorem kn_bd {s : Sh} (hok : ShOk s) : ∀ k ∈ knL s, 0 ≤ k.r ∧ k.r ≤ 99 ∧ 0 ≤ k.c ∧ k.c ≤ 99 := fun k hk => by
 have h := kn_on hok k hk
 have hn := hok.n
 have hw := hok.w
 have hR : (gdS s).R = (s.rows.length : Int) := rfl
 have hC : (gdS s).C = (wdS s : Int) := rfl
 obtain ⟨h1, h2, h3, h4⟩ := h
 omega
theorem least_f (s : Sh) (hok : ShOk s) (h10 : (knL s).length ≤ 10) (n : Nat) (hn : n < 9223372036854775808) (hne : sel (knL s) n ≠ []) (V : View) (b : Nat) (hb : BnV V b s) : Fnc Tryz.prog 93 [.pointer (some ⟨b, 0, none⟩), stv n] V fun r _ => r = pcv (bbx (sel (knL s) n)) := by
 obtain ⟨a, c, ak, ck, hc0, hc1, hc2, hc3, hs, hsk⟩ := bn_get hb
 have hK := kn_bd hok
 have hsel : ∀ i, ∀ k ∈ qR (knL s) n i, 0 ≤ k.r ∧ k.r ≤ 99 ∧ 0 ≤ k.c ∧ k.c ≤ 99 := fun i k hk => by
  obtain ⟨j, _, h1, _⟩ := (selK_mem i).1 hk
  exact hK k (List.mem_of_getElem? h1)
 refine qf Tryz.func93 rfl Tryz.ntmps93 (Nat.le_of_ble_eq_true rfl) ?_
 intro w0 hw0
 refine At.nrm ?_
 refine At.zl (.n false 0 (.n false 1 .done)) ?_
 refine AtT.jb ?_
 intro b3
 refine AtT.qx z26 ?_
 intro b4
 refine AtT.done ?_
 refine At.nrm ?_
 refine At.zl (.q 0 (.q 1 .done)) ?_
 refine AtT.zf ?_
 refine AtT.zf ?_
 refine AtT.done ?_
 refine At.nrm ?_
 refine At.zl (.q 0 (.q 1 (.q 2 (.q 3 (.q 4 (.q 5 .done)))))) ?_
 refine AtT.zh ?_
 refine AtT.knil ?_
 first | refine AtT.zi qy ?_ | with_reducible refine AtT.zk qy ?_ | refine AtT.zn qy ?_
 first | refine AtT.zm tk84 ?_ | refine AtT.zo tk84 ?_
 first | refine AtT.zY Tryz.underlying84 ?_ | refine AtT.zZ Tryz.underlying84 ?_
 refine AtT.zh ?_
 refine AtT.done ?_
 refine At.nrm ?_
 refine At.lp (ι := Nat × (Option Addr × Nat) × Option Addr × Nat) (KS := fun g => [(0, .pointer (some ⟨b, 0, none⟩)), (3, .pointer (some ⟨b3, 0, none⟩)), (4, .pointer (some ⟨b4, 0, none⟩)), (14, .slice ak (knL s).length ck), (15, iv (knL s).length), (16, iv g.1), (5, .slice g.2.1.1 ((qR (knL s) n g.1).map (·.r)).length g.2.1.2), (6, .slice g.2.2.1 ((qR (knL s) n g.1).map (·.c)).length g.2.2.2)])
  (OS := fun _ => [.blk b3 (LC [iv n] 129), .blk b4 (LC (pce ⟨0, 0, 0, 0⟩) 26)])
  (VS := fun g V' => Le V V' ∧ g.1 ≤ (knL s).length ∧ SlI V' (.slice g.2.1.1 ((qR (knL s) n g.1).map (·.r)).length g.2.1.2) ((qR (knL s) n g.1).map (·.r)) ∧ SlI V' (.slice g.2.2.1 ((qR (knL s) n g.1).map (·.c)).length g.2.2.2) ((qR (knL s) n g.1).map (·.c))) (μ := fun g => (knL s).length - g.1) (0, (none, 0), none, 0) ?_ ?_ ?_ ?_
 ·exact ⟨rfl, rfl, rfl, rfl, rfl, rfl, rfl, rfl, trivial⟩
 ·exact Pt.zO
 ·exact ⟨Le.refl _, Nat.zero_le _, Sl.nil _ _ _, Sl.nil _ _ _⟩
 rintro ⟨i, ⟨a5, c5⟩, a6, c6⟩ V' ks' O' ⟨hVV, hil, hs5, hs6⟩ hk hO hl2
 dsimp only at hil hk hO hs5 hs6
 subst hk hO
 have hsk2 := hsk.le hVV
 refine At.nrm ?_
 refine At.zl (.q 0 .done) ?_
 refine AtT.qa ?_
 refine AtT.done ?_
 refine At.nrm ?_
 refine At.qc rfl (fun hp => ?_) (fun hp => ?_)
 rotate_left
 ·obtain rfl : i = (knL s).length := by omega
  have hA : (sel (knL s) n).map (·.r) ≠ [] := by simpa using hne
  have hB : (sel (knL s) n).map (·.c) ≠ [] := by simpa using hne
  have b1 := mnL_bd (f := (·.r)) (l := sel (knL s) n) fun k hk => (hsel _ k hk).1
  have b2 := mnL_bd (f := (·.c)) (l := sel (knL s) n) fun k hk => (hsel _ k hk).2.2.1
  have b3' := mxL_bd (f := (·.r)) (l := sel (knL s) n) fun k hk => (hsel _ k hk).2.1
  have b4' := mxL_bd (f := (·.c)) (l := sel (knL s) n) fun k hk => (hsel _ k hk).2.2.2
  refine At.nrm ?_
  refine At.zl (.q 0 (.n false 1 (.q 2 (.n false 3 (.q 4 (.q 5 .done)))))) ?_
  refine AtT.zh ?_
  refine AtT.zq rfl rfl ok122 (min_f _ hA _ _ hs5) ?_
  rintro _ ⟨m1, rfl, hm1, hx1⟩; obtain rfl := mnL_of (f := fun x => x.r) hne (fun k hk => (hsel _ k hk).2.1) hm1 hx1
  refine AtT.zh ?_
  refine AtT.zq rfl rfl ok122 (min_f _ hB _ _ hs6) ?_
  rintro _ ⟨m2, rfl, hm2, hx2⟩; obtain rfl := mnL_of (f := fun x => x.c) hne (fun k hk => (hsel _ k hk).2.2.2) hm2 hx2
  refine AtT.zf ?_
  refine AtT.zf ?_
  refine AtT.done ?_
  refine At.nrm ?_
  refine At.nrm ?_
  refine At.zl (.q 0 (.q 1 (.q 2 (.n false 3 (.q 4 (.q 5 (.q 6 (.q 7 (.n false 8 (.q 9 (.q 10 (.q 11 (.q 12 (.n true 13 .done)))))))))))))) ?_
  refine AtT.zh ?_
  refine AtT.zh ?_
  refine AtT.zh ?_
  refine AtT.zq rfl rfl ok123 (max_f _ hA _ _ hs5) ?_
  rintro _ ⟨m3, rfl, hm3, hx3⟩; obtain rfl := mxL_of (f := fun x => x.r) hne (fun k hk => by have := (hsel _ k hk).1; omega) hm3 hx3
  refine AtT.zh ?_
  first | refine AtT.qD ?_ | refine AtT.qE ?_
  first | refine AtT.qi ?_ | refine AtT.zT ?_
  refine AtT.zh ?_
  refine AtT.zq rfl rfl ok123 (max_f _ hB _ _ hs6) ?_
  rintro _ ⟨m4, rfl, hm4, hx4⟩; obtain rfl := mxL_of (f := fun x => x.c) hne (fun k hk => by have := (hsel _ k hk).2.2.1; omega) hm4 hx4
  refine AtT.zh ?_
  first | refine AtT.qD ?_ | refine AtT.qE ?_
  first | refine AtT.qi ?_ | refine AtT.zT ?_
  refine AtT.jc (bd26_0_1_2_3 _ _ _ _) ?_
  refine AtT.zW zS ?_
  refine AtT.done ?_
  refine At.nrm ?_
  exact At.qb rfl (.agg rfl zS zX.zO rfl) rfl
 obtain ⟨x, hx⟩ : ∃ x, (knL s)[i]? = some x := ⟨_, List.getElem?_eq_getElem (by omega)⟩
 have hat := selK_at (b := n) hx
 have hshr : n >>> i < 9223372036854775808 := Nat.lt_of_le_of_lt (Nat.shiftRight_le _ _) hn
 have hsl := selK_le (knL s) n i
 have hl5 : ((qR (knL s) n i).map (·.r)).length ≤ 10 := by rw [List.length_map]; omega
 have hl6 : ((qR (knL s) n i).map (·.c)).length ≤ 10 := by rw [List.length_map]; omega
 refine At.nrmB ?_
 refine At.jr (ι := (Option Addr × Nat) × Option Addr × Nat) (fun g => [(0, .pointer (some ⟨b, 0, none⟩)), (3, .pointer (some ⟨b3, 0, none⟩)), (4, .pointer (some ⟨b4, 0, none⟩)), (14, .slice ak (knL s).length ck), (15, iv (knL s).length), (16, iv i), (5, .slice g.1.1 ((qR (knL s) n (i + 1)).map (·.r)).length g.1.2), (6, .slice g.2.1 ((qR (knL s) n (i + 1)).map (·.c)).length g.2.2)])
  (fun _ => [.blk b3 (LC [iv n] 129), .blk b4 (LC (pce ⟨0, 0, 0, 0⟩) 26)])
  (fun g V'' => Le V' V'' ∧ SlI V'' (.slice g.1.1 ((qR (knL s) n (i + 1)).map (·.r)).length g.1.2) ((qR (knL s) n (i + 1)).map (·.r)) ∧ SlI V'' (.slice g.2.1 ((qR (knL s) n (i + 1)).map (·.c)).length g.2.2) ((qR (knL s) n (i + 1)).map (·.c))) ?_ ?_
 ·refine At.nrm ?_
  refine At.zl (.q 0 (.q 1 (.q 2 (.n false 3 (.q 4 (.n true 5 .done)))))) ?_
  refine AtT.zh ?_
  refine AtT.qp Tryz.underlying84 tk90 ?_
  intro p19 e19 he19 hc19
  first | refine AtT.zD tk90 ?_ | refine AtT.zJ tk90 ?_ | refine AtT.zC tk90 ?_
  obtain rfl : x = e19 := by have : (knL s)[i]? = some e19 := (by simpa using he19); rw [hx] at this; simpa using this
  refine AtT.qx z90 ?_
  intro b8
  refine AtT.zf ?_
  refine AtT.zW tk90 ?_
  refine AtT.done ?_
  refine At.nrm ?_
  by_cases hbit : n.testBit i = true
  ·rw [if_pos hbit] at hat
   rw [hat]
   refine At.nrm ?_
   refine At.zl (.q 0 (.q 1 (.q 2 (.q 3 (.q 4 (.q 5 .done)))))) ?_
   first | refine AtT.zi fo129_0 ?_ | with_reducible refine AtT.zk fo129_0 ?_ | refine AtT.zn fo129_0 ?_
   first | refine AtT.zm tk3 ?_ | refine AtT.zo tk3 ?_
   refine AtT.zh ?_
   refine AtT.shrN rfl trivial rfl rfl rfl rfl (by omega) (by decide) (A := n) (N := i) ?_
   refine AtT.andN rfl trivial rfl rfl rfl rfl (by omega) (by decide) (by decide) (A := n >>> i) (B := 1) ?_
   refine AtT.jg ?_
   refine AtT.qJ (d := 26) rfl (((bit_iff n i).2 hbit)) ?_
   refine AtT.done ?_
   refine At.nrm ?_
   refine At.qB rfl rfl ?_
   refine At.nrm ?_
   refine At.jr (ι := Option Addr × Nat) (fun g => [(0, .pointer (some ⟨b, 0, none⟩)), (3, .pointer (some ⟨b3, 0, none⟩)), (4, .pointer (some ⟨b4, 0, none⟩)), (8, .pointer (some ⟨b8, 0, none⟩)), (14, .slice ak (knL s).length ck), (15, iv (knL s).length), (16, iv i), (5, .slice g.1 ((qR (knL s) n i ++ [x]).map (·.r)).length g.2), (6, .slice a6 ((qR (knL s) n i).map (·.c)).length c6)])
    (fun _ => [.blk b3 (LC [iv n] 129), .blk b4 (LC (pce ⟨0, 0, 0, 0⟩) 26), .blk b8 (LC (cle x) 90)])
    (fun g V'' => Le V' V'' ∧ SlI V'' (.slice g.1 ((qR (knL s) n i ++ [x]).map (·.r)).length g.2) ((qR (knL s) n i ++ [x]).map (·.r))) ?_ ?_
   ·refine At.draw (.q 0 (.q 1 (.q 2 (.q 3 (.q 4 (.q 5 (.q 6 (.q 7 (.n false 8 (.n false 9 (.q 10 .done))))))))))) ffm (by kernel_rfl) ?_
    refine AtT.zh ?_
    refine AtT.zh ?_
    first | refine AtT.zY Tryz.underlying39 ?_ | refine AtT.zZ Tryz.underlying39 ?_
    refine AtT.zh ?_
    first | refine AtT.zY Tryz.underlying39 ?_ | refine AtT.zZ Tryz.underlying39 ?_
    first | refine AtT.kclipAll Tryz.underlying39 tk3 ?_ | refine AtT.kclip Tryz.underlying39 tk3 ?_
    intro a32 hs32
    first | refine AtT.zi fo90_0 ?_ | with_reducible refine AtT.zk fo90_0 ?_ | refine AtT.zn fo90_0 ?_
    first | refine AtT.zm tk3 ?_ | refine AtT.zo tk3 ?_
    refine AtT.zw (zU _) ?_
    intro q35 V35 hV35 hq35
    have g35 : Le V V35 := by first | exact hV35 | exact Le.trans (by assumption) hV35
    refine AtT.appendC rfl trivial Tryz.underlying39 rw3 rfl (by decide) rfl (by first | assumption | exact Sl.le (by assumption) (by assumption)) rfl rfl (by first | assumption | exact Cells.le (by assumption) (by assumption)) (fun _ => rfl) (by simp) (by unfold maxLen; simp only [List.length_cons, List.length_nil]; omega) (by simp only [List.length_cons, List.length_nil]; omega) (by decide) (enc := ei) (m := [x.r]) ?_
    intro a36 c36 V36 hV36 hs36
    have g36 : Le V V36 := by first | exact hV36 | exact Le.trans (by assumption) hV36
    refine AtT.zf ?_
    refine AtT.done ?_
    refine At.nrm ?_
    all_goals (rw [List.map_append] ; exact At.qC (a36, c36) ⟨by first | assumption | exact Le.trans (by assumption) (by assumption), by assumption⟩ ⟨rfl, rfl, rfl, rfl, rfl, rfl, rfl, rfl, rfl, trivial⟩ Pt.zO)
   rintro ⟨a9, c9⟩ V5 ks' O' ⟨hV5, hs9⟩ hk hO hl5
   dsimp only at hk hO hs9
   subst hk hO
   have hs6' := hs6.le hV5
   refine At.nrm ?_
   refine At.draw (.q 0 (.q 1 (.q 2 (.q 3 (.q 4 (.q 5 (.q 6 (.q 7 (.n false 8 (.n false 9 (.q 10 .done))))))))))) ffm (by kernel_rfl) ?_
   refine AtT.zh ?_
   refine AtT.zh ?_
   first | refine AtT.zY Tryz.underlying39 ?_ | refine AtT.zZ Tryz.underlying39 ?_
   refine AtT.zh ?_
   first | refine AtT.zY Tryz.underlying39 ?_ | refine AtT.zZ Tryz.underlying39 ?_
   first | refine AtT.kclipAll Tryz.underlying39 tk3 ?_ | refine AtT.kclip Tryz.underlying39 tk3 ?_
   intro a42 hs42
   first | refine AtT.zi fo90_1 ?_ | with_reducible refine AtT.zk fo90_1 ?_ | refine AtT.zn fo90_1 ?_
   first | refine AtT.zm tk3 ?_ | refine AtT.zo tk3 ?_
   refine AtT.zw (zU _) ?_
   intro q45 V45 hV45 hq45
   have g45 : Le V V45 := by first | exact hV45 | exact Le.trans (by assumption) hV45
   refine AtT.appendC rfl trivial Tryz.underlying39 rw3 rfl (by decide) rfl (by first | assumption | exact Sl.le (by assumption) (by assumption)) rfl rfl (by first | assumption | exact Cells.le (by assumption) (by assumption)) (fun _ => rfl) (by simp) (by unfold maxLen; simp only [List.length_cons, List.length_nil]; omega) (by simp only [List.length_cons, List.length_nil]; omega) (by decide) (enc := ei) (m := [x.c]) ?_
   intro a46 c46 V46 hV46 hs46
   have g46 : Le V V46 := by first | exact hV46 | exact Le.trans (by assumption) hV46
   refine AtT.zf ?_
   refine AtT.done ?_
   refine At.nrm ?_
   all_goals (rw [List.map_append (f := fun x : Cl => x.c)] ; exact At.qC ((a9, c9), a46, c46) ⟨hV5.trans (by first | assumption | exact Le.trans (by assumption) (by assumption)), hs9.le (by first | assumption | exact Le.trans (by assumption) (by assumption)), by assumption⟩ ⟨rfl, rfl, rfl, rfl, rfl, rfl, rfl, rfl, trivial⟩ Pt.zO)
  ·rw [if_neg hbit] at hat
   rw [hat]
   refine At.nrm ?_
   refine At.zl (.q 0 (.q 1 (.q 2 (.q 3 (.q 4 (.q 5 .done)))))) ?_
   first | refine AtT.zi fo129_0 ?_ | with_reducible refine AtT.zk fo129_0 ?_ | refine AtT.zn fo129_0 ?_
   first | refine AtT.zm tk3 ?_ | refine AtT.zo tk3 ?_
   refine AtT.zh ?_
   refine AtT.shrN rfl trivial rfl rfl rfl rfl (by omega) (by decide) (A := n) (N := i) ?_
   refine AtT.andN rfl trivial rfl rfl rfl rfl (by omega) (by decide) (by decide) (A := n >>> i) (B := 1) ?_
   refine AtT.jg ?_
   refine AtT.qm (d := 26) rfl ((fun h => hbit ((bit_iff n i).1 h))) ?_
   refine AtT.done ?_
   refine At.nrm ?_
   refine At.qW rfl rfl ?_
   refine At.nrm ?_
   exact At.qC ((a5, c5), a6, c6) ⟨Le.refl _, hs5, hs6⟩ ⟨rfl, rfl, rfl, rfl, rfl, rfl, rfl, rfl, trivial⟩ Pt.zO
 rintro ⟨⟨a7, c7⟩, a8, c8⟩ V4 ks' O' ⟨hV4, hs7, hs8⟩ hk hO hl4
 dsimp only at hk hO hs7 hs8
 subst hk hO
 refine At.nrm ?_
 refine At.zl (.q 0 (.q 1 .done)) ?_
 first | refine AtT.qi ?_ | refine AtT.zT ?_
 refine AtT.zh ?_
 refine AtT.done ?_
 refine At.nrm ?_
 refine At.round (i + 1, (a7, c7), a8, c8) ?_ ?_ ?_ ?_
 ·show (knL s).length - (i + 1) < (knL s).length - i; omega
 ·exact ⟨hVV.trans hV4, by dsimp only; omega, hs7, hs8⟩
 ·exact ⟨rfl, rfl, rfl, rfl, rfl, ivs (by dsimp only; omega), rfl, rfl, trivial⟩
 ·exact Pt.zO
end Go.Proofs.YtghomjjffllkeaaGreatDoor
set_option linter.unusedVariables false
namespace Go.Pm
open Go.Gl Go.Lw
def wh (s : Sh) : List UInt8 := (s.rows.map bt).flatten
theorem dw_nil {α : Type} (p : α → Bool) : ∀ l : List α, l.dropWhile p = [] ↔ ∀ x ∈ l, p x = true
 | [] => by simp
 | x :: l => by
  have ih := dw_nil p l
  by_cases c : p x = true
  ·rw [List.dropWhile_cons_of_pos c, ih]; simp [c]
  ·rw [List.dropWhile_cons_of_neg c]
   constructor
   ·intro h; cases h
   ·intro h; exact absurd (h x (by simp)) c
theorem dw_head {α : Type} (p : α → Bool) : ∀ (l : List α) (x : α) (t : List α), l.dropWhile p = x :: t → p x = false
 | [], x, t, h => by cases h
 | y :: l, x, t, h => by
  by_cases c : p y = true
  ·rw [List.dropWhile_cons_of_pos c] at h; exact dw_head p l x t h
  ·rw [List.dropWhile_cons_of_neg c] at h; cases h; simpa using c
theorem trim_nil (l cs : List UInt8) : Lib.trimS l cs = [] ↔ ∀ b ∈ l, cs.contains b = true := by
 unfold Lib.trimS Lib.trimLeftS Lib.trimRightS
 rw [dw_nil]
 constructor
 ·intro h
  cases hX : l.reverse.dropWhile (cs.contains ·) with
  | nil =>
   rw [dw_nil] at hX
   intro b hb
   exact hX b (List.mem_reverse.2 hb)
  | cons x t =>
   have h1 : cs.contains x = true := h x (by rw [hX]; simp)
   have h2 := dw_head _ _ _ _ hX
   rw [h1] at h2; cases h2
 ·intro h x hx
  have hx' := List.mem_reverse.1 hx
  exact h x (List.mem_reverse.1 ((List.dropWhile_sublist _).subset hx'))
theorem ok_byte (b : UInt8) : ([46, 111, 35] : List UInt8).contains b = okC (b.toNat : Int) := by
 have hb : ∀ c : UInt8, b = c ↔ (b.toNat : Int) = (c.toNat : Int) := fun c => by
  rw [← UInt8.toNat_inj]; omega
 unfold okC
 have h1 := hb 46
 have h2 := hb 111
 have h3 := hb 35
 rw [Bool.eq_iff_iff, List.contains_iff_mem, decide_eq_true_eq]
 simp only [List.mem_cons, List.not_mem_nil, or_false]
 rw [h1, h2, h3]
 rfl
theorem wh_trim (s : Sh) : Lib.trimS (wh s) [46, 111, 35] = [] ↔ s.rows.all frR = true := by
 rw [trim_nil]
 unfold wh frR
 constructor
 ·intro h
  refine List.all_eq_true.2 fun r hr => List.all_eq_true.2 fun b hb => ?_
  rw [← ok_byte]
  exact h b (List.mem_flatten.2 ⟨bt r, List.mem_map_of_mem hr, hb⟩)
 ·intro h b hb
  obtain ⟨l, hl, hbl⟩ := List.mem_flatten.1 hb
  obtain ⟨r, hr, rfl⟩ := List.mem_map.1 hl
  rw [ok_byte]
  exact List.all_eq_true.1 (List.all_eq_true.1 h r hr) b hbl
theorem knR_count (r : ByteArray) (i : Nat) : ∀ n, n ≤ r.size → (knR r i n).length = ((bt r).take n).count 111
 | 0, _ => by simp [knR]
 | n + 1, h => by
  have ih := knR_count r i n (by omega)
  have hl : n < (bt r).length := by rw [bt_len]; omega
  have hv : bv r n = (((bt r)[n]).toNat : Int) := by unfold bv; simp [List.getD, List.getElem?_eq_getElem hl]
  rw [List.take_succ_eq_append_getElem hl, List.count_append, ← ih]
  simp only [knR]
  by_cases c : bv r n = 111
  ·rw [if_pos c, List.length_append]
   have : (bt r)[n] = 111 := by rw [← UInt8.toNat_inj]; rw [hv] at c; show (bt r)[n].toNat = 111; omega
   rw [this]; rfl
  ·rw [if_neg c]
   have : (bt r)[n] ≠ 111 := fun e => c (by rw [hv, e]; rfl)
   simp [List.count_cons, this]
theorem knK_count (rows : List ByteArray) : ∀ n, n ≤ rows.length → (knK rows n).length = (((rows.take n).map bt).flatten).count 111
 | 0, _ => by simp [knK]
 | n + 1, h => by
  have ih := knK_count rows n (by omega)
  have hr : rows[n]? = some rows[n] := List.getElem?_eq_getElem (by omega)
  rw [knK_at hr, List.length_append, ih, knR_count _ _ _ (Nat.le_refl _), List.take_succ_eq_append_getElem (by omega), List.map_append, List.flatten_append, List.count_append, ← bt_len, List.take_length]
  simp
theorem wh_count (s : Sh) : Lib.countByte (wh s) 111 = (knL s).length := by
 unfold Lib.countByte wh knL
 rw [knK_count _ _ (Nat.le_refl _), List.take_length]
theorem wh_len (s : Sh) (h : ∀ r ∈ s.rows, r.size ≤ 12) (hn : s.rows.length ≤ 10) : (wh s).length ≤ 120 := by
 have : ∀ l : List ByteArray, (∀ r ∈ l, r.size ≤ 12) → ((l.map bt).flatten).length ≤ 12 * l.length := by
  intro l
  induction l with
  | nil => simp
  | cons r l ih =>
   intro h
   have h1 := h r (by simp)
   have h2 := ih fun q hq => h q (by simp [hq])
   simp only [List.map_cons, List.flatten_cons, List.length_append, List.length_cons]
   rw [bt_len]; omega
 have := this s.rows h
 unfold wh; omega
end Go.Pm
set_option linter.unusedVariables false
namespace Go.Proofs.YtghomjjffllkeaaGreatDoor
open Go.Lw Go.Gl Go.Pm Go.RowKit Go.Shelf
theorem fnc_of {f : FuncId} {args : List Value} {V : View} {v : Value} (h : ∀ w, Le V (hp w) → Calls Tryz.prog f args.toArray w fun e w' => e = .returned v ∧ Below w.heap.size w w') : Fnc Tryz.prog f args V fun r _ => r = v := fun w hw =>
 (h w hw).mono fun e w' ⟨h1, h2⟩ => ⟨v, V, h1, h2, Le.refl _, hw.trans (Below.le h2), fun k o hk => .inl hk, rfl⟩
theorem spot_none {V : View} {p : Addr} {v : Value} (h : vcell V p = some v) : p.spot = none := by
 unfold vcell at h
 split at h
 ·cases c : p.spot with
  | none => rfl
  | some x => rw [c] at h; simp at h
 ·cases h
theorem join_f (l : List ByteArray) (h0 : l ≠ []) (hn : l.length ≤ 10) (h12 : ∀ r ∈ l, r.size ≤ 12) (V : View) (v : Value) (hs : Sl V bse 1 v l) : Fnc Tryz.prog 84 [v, .string ByteArray.empty] V fun r _ => r = .string ⟨((l.map bt).flatten).toArray⟩ := by
 obtain ⟨a, c, rfl, hc, _, ha, hcl⟩ := id hs
 obtain ⟨p, rfl⟩ := Option.isSome_iff_exists.1 (ha h0)
 have hcell : ∀ (j : Nat) x, l[j]? = some x → vcell V (p.add j) = some (.string x) := fun j x hj => by
  have := hcl p rfl j x hj 0 (.string x) rfl
  rw [Nat.mul_one] at this
  exact this
 obtain ⟨x0, t, rfl⟩ : ∃ x t, l = x :: t := by cases l with | nil => exact absurd rfl h0 | cons x t => exact ⟨x, t, rfl⟩
 have hsp : p.spot = none := spot_none (p := p.add 0) (hcell 0 x0 rfl)
 obtain ⟨b, o, sp⟩ := p
 dsimp only at hsp
 subst hsp
 have hj : Lib.join ((x0 :: t).map (·.data.toList)) (ByteArray.empty.data.toList) = ((x0 :: t).map bt).flatten := by
  show Lib.join (bt x0 :: t.map bt) [] = _
  rw [Lib.join_cons]
  show bt x0 ++ ((t.map bt).map fun x : List UInt8 => [] ++ x).flatten = _
  rw [show (fun x : List UInt8 => [] ++ x) = id from rfl, List.map_id]
  rfl
 refine fnc_of fun w hw => ?_
 have := Any.strings_Join lay_join str_ext b o c (x0 :: t) ByteArray.empty w (fun j x hj => by
  have h := vcell_le hw (hcell j x hj)
  rw [vcell_hp, Addr.add_lit] at h
  exact h) (by
   have h := vcell_le hw (hcell 0 x0 rfl)
   rw [vcell_hp, Addr.add_lit] at h
   cases hb : w.heap[b]? with
   | none => simp [World.cell?, hb] at h
   | some o => exact (Array.getElem?_eq_some_iff.1 hb).1) (by omega) hc (by
   rw [hj]
   have := wh_len ⟨x0 :: t, 0⟩ h12 hn
   unfold wh at this
   exact Nat.le_trans this (by decide))
 rw [hj] at this
 exact this
theorem trim_f (s : ByteArray) (hs : s.size ≤ 9223372036854775807) (V : View) : Fnc Tryz.prog 85 [.string s, .string ⟨#[46, 111, 35]⟩] V fun r _ => r = .string ⟨(Lib.trimS (bt s) [46, 111, 35]).toArray⟩ :=
 fnc_of fun w hw => Any.strings_Trim_laid lay_trim (by kernel_rfl) s ⟨#[46, 111, 35]⟩ w hs (by decide) (ascii_of_all (by decide))
theorem count_f (s : ByteArray) (V : View) : Fnc Tryz.prog 86 [.string s, .string ⟨#[111]⟩] V fun r _ => r = iv (Lib.countByte (bt s) 111) :=
 fnc_of fun w hw => (Any.strings_Count_one lay_count s 111 w).mono fun e w' ⟨h1, h2⟩ => ⟨h1, h2 ▸ Below.refl _ _⟩
end Go.Proofs.YtghomjjffllkeaaGreatDoor
set_option linter.unusedVariables false
namespace Go.Proofs.YtghomjjffllkeaaGreatDoor
open Go.Lw Go.Gl Go.Pm Go.RowKit
abbrev vle (v : Value) : List Value := [v]
theorem index_b (g : FuncId) (cap : List Value) (p : ByteArray → Bool) (V : View) (vl : Value) (l : List (ByteArray)) (hs : Sl V bse 1 vl l) (hok : zN Tryz.prog g)
  (hc : ∀ x, x ∈ l → Fnc Tryz.prog g ([] ++ [.string x] ++ cap) V (fun v _ => v = .bool (p x))) :
  Fnc Tryz.prog 109 [vl, .func (.func g) #[] cap.toArray] V fun v _ => ∃ j : Int, v = iv j ∧ (decide (0 ≤ j)) = l.any p := by
 have hlen := hs.je
 refine qf Tryz.func109 rfl Tryz.ntmps109 (Nat.le_of_ble_eq_true rfl) ?_
 intro w0 hw0
 refine At.nrm ?_
 refine At.zl (.q 0 .done) ?_
 refine AtT.zf ?_
 refine AtT.done ?_
 refine At.nrm ?_
 refine At.zl (.q 0 (.q 1 (.q 2 .done))) ?_
 refine AtT.zh ?_
 first | refine AtT.zY Tryz.underlying22 ?_ | refine AtT.zZ Tryz.underlying22 ?_
 refine AtT.zh ?_
 refine AtT.done ?_
 refine At.nrm ?_
 refine At.lp (ι := Nat) (KS := fun k => [(0, vl), (1, .func (.func g) #[] cap.toArray), (4, iv 0), (7, iv l.length), (8, iv k)]) (OS := fun _ => [])
  (VS := fun k V' => V' = V ∧ k ≤ l.length ∧ (l.take k).any p = false) (μ := fun k => l.length - k) 0 ?_ ?_ ?_ ?_
 ·exact ⟨rfl, rfl, rfl, rfl, rfl, trivial⟩
 ·exact Pt.zO
 ·exact ⟨rfl, Nat.zero_le _, rfl⟩
 ·rintro k V' ks' O' ⟨rfl, hkl, hany⟩ hk hO hl
  subst hk hO
  refine At.nrm ?_
  refine At.zl (.q 0 .done) ?_
  refine AtT.qa ?_
  refine AtT.done ?_
  refine At.nrm ?_
  refine At.qc rfl (fun hp => ?_) (fun hp => ?_)
  ·refine At.nrm ?_
   refine At.zl (.q 0 (.q 1 .done)) ?_
   refine AtT.zh ?_
   refine AtT.zf ?_
   refine AtT.done ?_
   refine At.nrm ?_
   refine At.zl (.q 0 (.q 1 (.q 2 (.q 3 (.q 4 (.n false 5 .done)))))) ?_
   refine AtT.zh ?_
   refine AtT.zh ?_
   refine AtT.zh ?_
   refine AtT.qp Tryz.underlying22 tk9 ?_
   intro p14 e14 he14 hc14
   first | refine AtT.zm tk9 ?_ | refine AtT.zo tk9 ?_
   refine AtT.kcallV rfl rfl rfl hok (hc e14 (List.mem_of_getElem? he14)) ?_
   rintro _ rfl
   refine AtT.done ?_
   refine At.nrm ?_
   have hee : l[k]? = some e14 := by simpa using he14
   have hnx : l.take (k + 1) = l.take k ++ [e14] := by
    rw [List.take_succ_eq_append_getElem (by omega)]; congr 1; rw [List.getElem?_eq_getElem (by omega)] at hee; simpa using hee
   refine At.cond rfl (fun hb => ?_) (fun hb => ?_)
   ·refine At.nrm ?_
    refine At.zl (.q 0 (.q 1 .done)) ?_
    refine AtT.zh ?_
    refine AtT.zf ?_
    refine AtT.done ?_
    refine At.nrm ?_
    refine At.qb rfl (.tmp rfl) ⟨k, rfl, ?_⟩
    have : l.any p = true := List.any_eq_true.2 ⟨e14, List.mem_of_getElem? hee, hb⟩
    rw [this]; simp
   ·refine At.nrm ?_
    refine At.zl (.q 0 (.q 1 .done)) ?_
    first | refine AtT.qi ?_ | refine AtT.zT ?_
    refine AtT.zh ?_
    refine AtT.done ?_
    refine At.nrm ?_
    refine At.round (k + 1) ?_ ?_ ?_ ?_
    ·show l.length - (k + 1) < l.length - k; omega
    ·refine ⟨rfl, by omega, ?_⟩
     rw [hnx, List.any_append, hany]; simp [hb]
    ·exact ⟨rfl, rfl, rfl, rfl, rfl, trivial⟩
    ·exact Pt.zO
  ·have hkk : k = l.length := by omega
   subst hkk
   rw [List.take_length] at hany
   refine At.nrm ?_
   refine At.zl (.q 0 .done) ?_
   refine AtT.zf ?_
   refine AtT.done ?_
   refine At.nrm ?_
   refine At.qb rfl (.tmp rfl) ⟨-1, rfl, ?_⟩
   rw [hany]; rfl
theorem contains_b (g : FuncId) (cap : List Value) (p : ByteArray → Bool) (V : View) (vl : Value) (l : List (ByteArray)) (hs : Sl V bse 1 vl l) (hok : zN Tryz.prog g)
  (hc : ∀ x, x ∈ l → Fnc Tryz.prog g ([] ++ [.string x] ++ cap) V (fun v _ => v = .bool (p x))) :
  Fnc Tryz.prog 82 [vl, .func (.func g) #[] cap.toArray] V fun v _ => v = .bool (l.any p) := by
 refine qf Tryz.func82 rfl Tryz.ntmps82 (Nat.le_of_ble_eq_true rfl) ?_
 intro w0 hw0
 refine At.nrm ?_
 refine At.zl (.q 0 .done) ?_
 refine AtT.zf ?_
 refine AtT.done ?_
 refine At.nrm ?_
 refine At.zl (.q 0 (.q 1 (.n false 2 (.q 3 (.q 4 .done))))) ?_
 refine AtT.zh ?_
 refine AtT.zh ?_
 refine AtT.zq rfl rfl ok109 (index_b g cap p V vl l hs hok hc) ?_
 rintro _ ⟨j, rfl, hj⟩
 refine AtT.kgeq ?_
 refine AtT.zf ?_
 refine AtT.done ?_
 refine At.nrm ?_
 refine At.qb rfl (.tmp rfl) ?_
 rw [hj]
theorem index_p (g : FuncId) (cap : List Value) (p : Pc → Bool) (V : View) (vl : Value) (l : List (Pc)) (hs : Sl V pce 4 vl l) (hok : zN Tryz.prog g)
  (hc : ∀ x, x ∈ l → Fnc Tryz.prog g ([] ++ [pcv x] ++ cap) V (fun v _ => v = .bool (p x))) :
  Fnc Tryz.prog 89 [vl, .func (.func g) #[] cap.toArray] V fun v _ => ∃ j : Int, v = iv j ∧ (decide (0 ≤ j)) = l.any p := by
 have hlen := hs.je
 refine qf Tryz.func89 rfl Tryz.ntmps89 (Nat.le_of_ble_eq_true rfl) ?_
 intro w0 hw0
 refine At.nrm ?_
 refine At.zl (.q 0 .done) ?_
 refine AtT.zf ?_
 refine AtT.done ?_
 refine At.nrm ?_
 refine At.zl (.q 0 (.q 1 (.q 2 .done))) ?_
 refine AtT.zh ?_
 first | refine AtT.zY Tryz.underlying27 ?_ | refine AtT.zZ Tryz.underlying27 ?_
 refine AtT.zh ?_
 refine AtT.done ?_
 refine At.nrm ?_
 refine At.lp (ι := Nat) (KS := fun k => [(0, vl), (1, .func (.func g) #[] cap.toArray), (4, iv 0), (7, iv l.length), (8, iv k)]) (OS := fun _ => [])
  (VS := fun k V' => V' = V ∧ k ≤ l.length ∧ (l.take k).any p = false) (μ := fun k => l.length - k) 0 ?_ ?_ ?_ ?_
 ·exact ⟨rfl, rfl, rfl, rfl, rfl, trivial⟩
 ·exact Pt.zO
 ·exact ⟨rfl, Nat.zero_le _, rfl⟩
 ·rintro k V' ks' O' ⟨rfl, hkl, hany⟩ hk hO hl
  subst hk hO
  refine At.nrm ?_
  refine At.zl (.q 0 .done) ?_
  refine AtT.qa ?_
  refine AtT.done ?_
  refine At.nrm ?_
  refine At.qc rfl (fun hp => ?_) (fun hp => ?_)
  ·refine At.nrm ?_
   refine At.zl (.q 0 (.q 1 .done)) ?_
   refine AtT.zh ?_
   refine AtT.zf ?_
   refine AtT.done ?_
   refine At.nrm ?_
   refine At.zl (.q 0 (.q 1 (.q 2 (.q 3 (.q 4 (.n false 5 .done)))))) ?_
   refine AtT.zh ?_
   refine AtT.zh ?_
   refine AtT.zh ?_
   refine AtT.qp Tryz.underlying27 zS ?_
   intro p14 e14 he14 hc14
   first | refine AtT.zD zS ?_ | refine AtT.zJ zS ?_ | refine AtT.zC zS ?_
   refine AtT.kcallV rfl rfl rfl hok (hc e14 (List.mem_of_getElem? he14)) ?_
   rintro _ rfl
   refine AtT.done ?_
   refine At.nrm ?_
   have hee : l[k]? = some e14 := by simpa using he14
   have hnx : l.take (k + 1) = l.take k ++ [e14] := by
    rw [List.take_succ_eq_append_getElem (by omega)]; congr 1; rw [List.getElem?_eq_getElem (by omega)] at hee; simpa using hee
   refine At.cond rfl (fun hb => ?_) (fun hb => ?_)
   ·refine At.nrm ?_
    refine At.zl (.q 0 (.q 1 .done)) ?_
    refine AtT.zh ?_
    refine AtT.zf ?_
    refine AtT.done ?_
    refine At.nrm ?_
    refine At.qb rfl (.tmp rfl) ⟨k, rfl, ?_⟩
    have : l.any p = true := List.any_eq_true.2 ⟨e14, List.mem_of_getElem? hee, hb⟩
    rw [this]; simp
   ·refine At.nrm ?_
    refine At.zl (.q 0 (.q 1 .done)) ?_
    first | refine AtT.qi ?_ | refine AtT.zT ?_
    refine AtT.zh ?_
    refine AtT.done ?_
    refine At.nrm ?_
    refine At.round (k + 1) ?_ ?_ ?_ ?_
    ·show l.length - (k + 1) < l.length - k; omega
    ·refine ⟨rfl, by omega, ?_⟩
     rw [hnx, List.any_append, hany]; simp [hb]
    ·exact ⟨rfl, rfl, rfl, rfl, rfl, trivial⟩
    ·exact Pt.zO
  ·have hkk : k = l.length := by omega
   subst hkk
   rw [List.take_length] at hany
   refine At.nrm ?_
   refine At.zl (.q 0 .done) ?_
   refine AtT.zf ?_
   refine AtT.done ?_
   refine At.nrm ?_
   refine At.qb rfl (.tmp rfl) ⟨-1, rfl, ?_⟩
   rw [hany]; rfl
theorem contains_p (g : FuncId) (cap : List Value) (p : Pc → Bool) (V : View) (vl : Value) (l : List (Pc)) (hs : Sl V pce 4 vl l) (hok : zN Tryz.prog g)
  (hc : ∀ x, x ∈ l → Fnc Tryz.prog g ([] ++ [pcv x] ++ cap) V (fun v _ => v = .bool (p x))) :
  Fnc Tryz.prog 59 [vl, .func (.func g) #[] cap.toArray] V fun v _ => v = .bool (l.any p) := by
 refine qf Tryz.func59 rfl Tryz.ntmps59 (Nat.le_of_ble_eq_true rfl) ?_
 intro w0 hw0
 refine At.nrm ?_
 refine At.zl (.q 0 .done) ?_
 refine AtT.zf ?_
 refine AtT.done ?_
 refine At.nrm ?_
 refine At.zl (.q 0 (.q 1 (.n false 2 (.q 3 (.q 4 .done))))) ?_
 refine AtT.zh ?_
 refine AtT.zh ?_
 refine AtT.zq rfl rfl ok89 (index_p g cap p V vl l hs hok hc) ?_
 rintro _ ⟨j, rfl, hj⟩
 refine AtT.kgeq ?_
 refine AtT.zf ?_
 refine AtT.done ?_
 refine At.nrm ?_
 refine At.qb rfl (.tmp rfl) ?_
 rw [hj]
theorem index_v (g : FuncId) (cap : List Value) (p : Value → Bool) (V : View) (vl : Value) (l : List (Value)) (hs : Sl V vle 1 vl l) (hok : zN Tryz.prog g)
  (hc : ∀ x, x ∈ l → Fnc Tryz.prog g ([] ++ [x] ++ cap) V (fun v _ => v = .bool (p x))) :
  Fnc Tryz.prog 124 [vl, .func (.func g) #[] cap.toArray] V fun v _ => ∃ j : Int, v = iv j ∧ (decide (0 ≤ j)) = l.any p := by
 have hlen := hs.je
 refine qf Tryz.func124 rfl Tryz.ntmps124 (Nat.le_of_ble_eq_true rfl) ?_
 intro w0 hw0
 refine At.nrm ?_
 refine At.zl (.q 0 .done) ?_
 refine AtT.zf ?_
 refine AtT.done ?_
 refine At.nrm ?_
 refine At.zl (.q 0 (.q 1 (.q 2 .done))) ?_
 refine AtT.zh ?_
 first | refine AtT.zY Tryz.underlying42 ?_ | refine AtT.zZ Tryz.underlying42 ?_
 refine AtT.zh ?_
 refine AtT.done ?_
 refine At.nrm ?_
 refine At.lp (ι := Nat) (KS := fun k => [(0, vl), (1, .func (.func g) #[] cap.toArray), (4, iv 0), (7, iv l.length), (8, iv k)]) (OS := fun _ => [])
  (VS := fun k V' => V' = V ∧ k ≤ l.length ∧ (l.take k).any p = false) (μ := fun k => l.length - k) 0 ?_ ?_ ?_ ?_
 ·exact ⟨rfl, rfl, rfl, rfl, rfl, trivial⟩
 ·exact Pt.zO
 ·exact ⟨rfl, Nat.zero_le _, rfl⟩
 ·rintro k V' ks' O' ⟨rfl, hkl, hany⟩ hk hO hl
  subst hk hO
  refine At.nrm ?_
  refine At.zl (.q 0 .done) ?_
  refine AtT.qa ?_
  refine AtT.done ?_
  refine At.nrm ?_
  refine At.qc rfl (fun hp => ?_) (fun hp => ?_)
  ·refine At.nrm ?_
   refine At.zl (.q 0 (.q 1 .done)) ?_
   refine AtT.zh ?_
   refine AtT.zf ?_
   refine AtT.done ?_
   refine At.nrm ?_
   refine At.zl (.q 0 (.q 1 (.q 2 (.q 3 (.q 4 (.n false 5 .done)))))) ?_
   refine AtT.zh ?_
   refine AtT.zh ?_
   refine AtT.zh ?_
   refine AtT.qp Tryz.underlying42 tk39 ?_
   intro p14 e14 he14 hc14
   first | refine AtT.zm tk39 ?_ | refine AtT.zo tk39 ?_
   refine AtT.kcallV rfl rfl rfl hok (hc e14 (List.mem_of_getElem? he14)) ?_
   rintro _ rfl
   refine AtT.done ?_
   refine At.nrm ?_
   have hee : l[k]? = some e14 := by simpa using he14
   have hnx : l.take (k + 1) = l.take k ++ [e14] := by
    rw [List.take_succ_eq_append_getElem (by omega)]; congr 1; rw [List.getElem?_eq_getElem (by omega)] at hee; simpa using hee
   refine At.cond rfl (fun hb => ?_) (fun hb => ?_)
   ·refine At.nrm ?_
    refine At.zl (.q 0 (.q 1 .done)) ?_
    refine AtT.zh ?_
    refine AtT.zf ?_
    refine AtT.done ?_
    refine At.nrm ?_
    refine At.qb rfl (.tmp rfl) ⟨k, rfl, ?_⟩
    have : l.any p = true := List.any_eq_true.2 ⟨e14, List.mem_of_getElem? hee, hb⟩
    rw [this]; simp
   ·refine At.nrm ?_
    refine At.zl (.q 0 (.q 1 .done)) ?_
    first | refine AtT.qi ?_ | refine AtT.zT ?_
    refine AtT.zh ?_
    refine AtT.done ?_
    refine At.nrm ?_
    refine At.round (k + 1) ?_ ?_ ?_ ?_
    ·show l.length - (k + 1) < l.length - k; omega
    ·refine ⟨rfl, by omega, ?_⟩
     rw [hnx, List.any_append, hany]; simp [hb]
    ·exact ⟨rfl, rfl, rfl, rfl, rfl, trivial⟩
    ·exact Pt.zO
  ·have hkk : k = l.length := by omega
   subst hkk
   rw [List.take_length] at hany
   refine At.nrm ?_
   refine At.zl (.q 0 .done) ?_
   refine AtT.zf ?_
   refine AtT.done ?_
   refine At.nrm ?_
   refine At.qb rfl (.tmp rfl) ⟨-1, rfl, ?_⟩
   rw [hany]; rfl
theorem contains_v (g : FuncId) (cap : List Value) (p : Value → Bool) (V : View) (vl : Value) (l : List (Value)) (hs : Sl V vle 1 vl l) (hok : zN Tryz.prog g)
  (hc : ∀ x, x ∈ l → Fnc Tryz.prog g ([] ++ [x] ++ cap) V (fun v _ => v = .bool (p x))) :
  Fnc Tryz.prog 97 [vl, .func (.func g) #[] cap.toArray] V fun v _ => v = .bool (l.any p) := by
 refine qf Tryz.func97 rfl Tryz.ntmps97 (Nat.le_of_ble_eq_true rfl) ?_
 intro w0 hw0
 refine At.nrm ?_
 refine At.zl (.q 0 .done) ?_
 refine AtT.zf ?_
 refine AtT.done ?_
 refine At.nrm ?_
 refine At.zl (.q 0 (.q 1 (.n false 2 (.q 3 (.q 4 .done))))) ?_
 refine AtT.zh ?_
 refine AtT.zh ?_
 refine AtT.zq rfl rfl ok124 (index_v g cap p V vl l hs hok hc) ?_
 rintro _ ⟨j, rfl, hj⟩
 refine AtT.kgeq ?_
 refine AtT.zf ?_
 refine AtT.done ?_
 refine At.nrm ?_
 refine At.qb rfl (.tmp rfl) ?_
 rw [hj]
theorem open1_f (s : Sh) (hok : 1 ≤ s.rows.length) (r : ByteArray) (V : View) (q : Addr) (a : Option Addr) (c : Nat) (m : Int) (hq : Cells V q [.slice a s.rows.length c, iv m]) (hs : Sl V bse 1 (.slice a s.rows.length c) s.rows) : Fnc Tryz.prog 83 ([] ++ [.string r] ++ [.pointer (some q)]) V fun v _ => v = .bool (decide (r.size ≠ wdS s)) := by
 obtain ⟨r0, hr0⟩ : ∃ r, s.rows[0]? = some r := ⟨_, List.getElem?_eq_getElem (by omega)⟩
 have hw : wdS s = r0.size := by unfold wdS row0; simp [List.getD, hr0]
 refine qf Tryz.func83 rfl Tryz.ntmps83 (Nat.le_of_ble_eq_true rfl) ?_
 intro w0 hw0
 refine At.nrm ?_
 refine At.zl (.q 0 .done) ?_
 refine AtT.zf ?_
 refine AtT.done ?_
 refine At.nrm ?_
 refine At.zl (.q 0 (.q 1 (.q 2 (.q 3 (.q 4 (.q 5 (.q 6 (.q 7 (.q 8 .done))))))))) ?_
 refine AtT.zh ?_
 refine AtT.qM rfl trivial Tryz.underlying9 rfl (by decide) ?_
 first | refine AtT.zi zt ?_ | with_reducible refine AtT.zk zt ?_ | refine AtT.zn zt ?_
 first | refine AtT.zm zV ?_ | refine AtT.zo zV ?_
 refine AtT.qp Tryz.underlying22 tk9 ?_
 intro p8 e8 he8 hc8
 obtain rfl : r0 = e8 := by have : s.rows[0]? = some e8 := (by simpa using he8); rw [hr0] at this; simpa using this
 first | refine AtT.zm tk9 ?_ | refine AtT.zo tk9 ?_
 refine AtT.qM rfl trivial Tryz.underlying9 rfl (by decide) ?_
 refine AtT.qH ?_
 refine AtT.zf ?_
 refine AtT.done ?_
 refine At.nrm ?_
 refine At.qb rfl (.tmp rfl) ?_
 rw [hw]
 simp; omega
def OpR (s : Sh) (r : Value) (V' : View) : Prop := (chE s = 0 ∧ ∃ b, r = .tuple #[.pointer (some ⟨b, 0, none⟩), iv 0] ∧ BnV V' b s) ∨ (chE s ≠ 0 ∧ r = .tuple #[.pointer none, iv (chE s)])
theorem open_f (s : Sh) (V : View) (v : Value) (hv : ShV V v s) : Fnc Tryz.prog 57 [v] V (OpR s) := by
 obtain ⟨a, c, rfl, hs⟩ := id hv
 have hlen := hs.je
 refine qf Tryz.func57 rfl Tryz.ntmps57 (Nat.le_of_ble_eq_true rfl) ?_
 intro w0 hw0
 refine At.nrm ?_
 refine At.zl (.n false 0 (.q 1 (.q 2 .done))) ?_
 refine AtT.jb ?_
 intro b1
 refine AtT.zf ?_
 refine AtT.zf ?_
 refine AtT.done ?_
 refine At.nrm ?_
 by_cases m1 : 1 ≤ (s.rows.length : Int) ∧ (s.rows.length : Int) ≤ 6
 rotate_left
 ·refine At.zl (.q 0 (.q 1 (.q 2 (.n false 3 (.n false 4 (.q 5 (.q 6 (.q 7 (.q 8 (.q 9 (.q 10 (.q 11 (.n false 12 (.n false 13 (.q 14 (.q 15 (.q 16 (.q 17 (.q 18 (.n false 19 (.n false 20 (.q 21 (.q 22 (.q 23 .done)))))))))))))))))))))))) ?_
  first | refine AtT.zi zt ?_ | with_reducible refine AtT.zk zt ?_ | refine AtT.zn zt ?_
  first | refine AtT.zm zV ?_ | refine AtT.zo zV ?_
  first | refine AtT.zY Tryz.underlying22 ?_ | refine AtT.zZ Tryz.underlying22 ?_
  refine AtT.zw (zU _) ?_
  intro q9 V9 hV9 hq9
  have g9 : Le V V9 := by first | exact hV9 | exact Le.trans (by assumption) hV9
  refine AtT.zq rfl rfl jq (qj 1 6 [(s.rows.length : Int)] _ _ (Sl.lit hq9 rfl (by simp))) ?_
  rintro _ rfl; rw [jv, decide_eq_false m1]
  refine AtT.qZ ?_
  refine AtT.zh ?_
  all_goals (first | refine AtT.kL 12 ?_ | refine AtT.zB (d := 12) rfl (fun hg12 => ?_) (fun hg12 => ?_) | refine AtT.zA (d := 12) rfl (fun hg12 => ?_) (fun hg12 => ?_))
  all_goals first|refine AtT.zg ?_|refine AtT.ze ?_|(first | refine AtT.zi zt ?_ | with_reducible refine AtT.zk zt ?_ | refine AtT.zn zt ?_)
  all_goals first|refine AtT.zg ?_|refine AtT.ze ?_|(first | refine AtT.zm zV ?_ | refine AtT.zo zV ?_)
  all_goals first|refine AtT.zg ?_|refine AtT.ze ?_|(refine AtT.qp Tryz.underlying22 tk9 ?_) ; (intro p15 e15 he15 hc15)
  all_goals first|refine AtT.zg ?_|refine AtT.ze ?_|(first | refine AtT.zm tk9 ?_ | refine AtT.zo tk9 ?_)
  all_goals first|refine AtT.zg ?_|refine AtT.ze ?_|(refine AtT.qM rfl ⟨_, _, rfl, rfl, rfl⟩ Tryz.underlying9 rfl (by decide) ?_)
  all_goals first|refine AtT.zP ?_|refine AtT.zI ?_|((refine AtT.zw (zU _) ?_) ; (intro q18 V18 hV18 hq18) ; (have g18 : Le V V18 := by first | exact hV18 | exact Le.trans (by assumption) hV18))
  all_goals first|refine AtT.zP ?_|refine AtT.zI ?_|((fail))
  all_goals first|refine AtT.zg ?_|refine AtT.ze ?_|(refine AtT.qZ ?_)
  all_goals (refine AtT.zz ?_)
  all_goals (refine AtT.zh ?_)
  all_goals (first | refine AtT.kL 22 ?_ | refine AtT.zB (d := 22) rfl (fun hg22 => ?_) (fun hg22 => ?_) | refine AtT.zA (d := 22) rfl (fun hg22 => ?_) (fun hg22 => ?_))
  all_goals first|refine AtT.zg ?_|refine AtT.ze ?_|(first | refine AtT.zi zR ?_ | with_reducible refine AtT.zk zR ?_ | refine AtT.zn zR ?_)
  all_goals first|refine AtT.zg ?_|refine AtT.ze ?_|(first | refine AtT.zm tk3 ?_ | refine AtT.zo tk3 ?_)
  all_goals first|refine AtT.zP ?_|refine AtT.zI ?_|((refine AtT.zw (zU _) ?_) ; (intro q25 V25 hV25 hq25) ; (have g25 : Le V V25 := by first | exact hV25 | exact Le.trans (by assumption) hV25))
  all_goals first|refine AtT.zP ?_|refine AtT.zI ?_|((fail))
  all_goals first|refine AtT.zg ?_|refine AtT.ze ?_|(refine AtT.qZ ?_)
  all_goals (refine AtT.zz ?_)
  all_goals (refine AtT.zf ?_)
  all_goals refine AtT.done ?_
  all_goals (refine At.nrm ?_)
  refine At.qB rfl rfl ?_
  refine At.nrm ?_
  refine At.zl (.q 0 (.q 1 .done)) ?_
  refine AtT.zf ?_
  refine AtT.zf ?_
  refine AtT.done ?_
  refine At.nrm ?_
  exact At.jh rfl (.tmp rfl) (.tmp rfl) (.inr ⟨by unfold chE; rw [if_pos (by omega)]; decide, by unfold chE; rw [if_pos (by omega)]⟩)
 obtain ⟨r0, hr0⟩ : ∃ r, s.rows[0]? = some r := ⟨_, List.getElem?_eq_getElem (by omega)⟩
 have hr0s : r0.size = wdS s := by unfold wdS row0; simp [List.getD, hr0]
 by_cases m2 : 1 ≤ (wdS s : Int) ∧ (wdS s : Int) ≤ 6
 rotate_left
 ·refine At.zl (.q 0 (.q 1 (.q 2 (.n false 3 (.n false 4 (.q 5 (.q 6 (.q 7 (.q 8 (.q 9 (.q 10 (.q 11 (.n false 12 (.n false 13 (.q 14 (.q 15 (.q 16 (.q 17 (.q 18 (.n false 19 (.n false 20 (.q 21 (.q 22 (.q 23 .done)))))))))))))))))))))))) ?_
  first | refine AtT.zi zt ?_ | with_reducible refine AtT.zk zt ?_ | refine AtT.zn zt ?_
  first | refine AtT.zm zV ?_ | refine AtT.zo zV ?_
  first | refine AtT.zY Tryz.underlying22 ?_ | refine AtT.zZ Tryz.underlying22 ?_
  refine AtT.zw (zU _) ?_
  intro q9 V9 hV9 hq9
  have g9 : Le V V9 := by first | exact hV9 | exact Le.trans (by assumption) hV9
  refine AtT.zq rfl rfl jq (qj 1 6 [(s.rows.length : Int)] _ _ (Sl.lit hq9 rfl (by simp))) ?_
  rintro _ rfl; rw [jv, decide_eq_true m1]
  refine AtT.qZ ?_
  refine AtT.zh ?_
  all_goals (first | refine AtT.kL 12 ?_ | refine AtT.zB (d := 12) rfl (fun hg12 => ?_) (fun hg12 => ?_) | refine AtT.zA (d := 12) rfl (fun hg12 => ?_) (fun hg12 => ?_))
  all_goals first|refine AtT.zg ?_|refine AtT.ze ?_|(first | refine AtT.zi zt ?_ | with_reducible refine AtT.zk zt ?_ | refine AtT.zn zt ?_)
  all_goals first|refine AtT.zg ?_|refine AtT.ze ?_|(first | refine AtT.zm zV ?_ | refine AtT.zo zV ?_)
  all_goals first|refine AtT.zg ?_|refine AtT.ze ?_|(refine AtT.qp Tryz.underlying22 tk9 ?_) ; (intro p15 e15 he15 hc15)
  all_goals first|refine AtT.zg ?_|refine AtT.ze ?_|(first | refine AtT.zm tk9 ?_ | refine AtT.zo tk9 ?_)
  all_goals (obtain rfl : r0 = e15 := by have : s.rows[0]? = some e15 := (by simpa using he15); rw [hr0] at this; simpa using this)
  all_goals first|refine AtT.zg ?_|refine AtT.ze ?_|(refine AtT.qM rfl ⟨_, _, rfl, rfl, rfl⟩ Tryz.underlying9 rfl (by decide) ?_)
  all_goals (rw [hr0s])
  all_goals first|refine AtT.zP ?_|refine AtT.zI ?_|((refine AtT.zw (zU _) ?_) ; (intro q18 V18 hV18 hq18) ; (have g18 : Le V V18 := by first | exact hV18 | exact Le.trans (by assumption) hV18))
  all_goals first|refine AtT.zP ?_|refine AtT.zI ?_|((refine AtT.zq rfl rfl jq (qj 1 6 [(wdS s : Int)] _ _ (Sl.lit hq18 rfl (by simp))) ?_) ; (rintro _ rfl; rw [jv, decide_eq_false m2]))
  all_goals first|refine AtT.zg ?_|refine AtT.ze ?_|(refine AtT.qZ ?_)
  all_goals (refine AtT.zz ?_)
  all_goals (refine AtT.zh ?_)
  all_goals (first | refine AtT.kL 22 ?_ | refine AtT.zB (d := 22) rfl (fun hg22 => ?_) (fun hg22 => ?_) | refine AtT.zA (d := 22) rfl (fun hg22 => ?_) (fun hg22 => ?_))
  all_goals first|refine AtT.zg ?_|refine AtT.ze ?_|(first | refine AtT.zi zR ?_ | with_reducible refine AtT.zk zR ?_ | refine AtT.zn zR ?_)
  all_goals first|refine AtT.zg ?_|refine AtT.ze ?_|(first | refine AtT.zm tk3 ?_ | refine AtT.zo tk3 ?_)
  all_goals first|refine AtT.zP ?_|refine AtT.zI ?_|((refine AtT.zw (zU _) ?_) ; (intro q25 V25 hV25 hq25) ; (have g25 : Le V V25 := by first | exact hV25 | exact Le.trans (by assumption) hV25))
  all_goals first|refine AtT.zP ?_|refine AtT.zI ?_|((fail))
  all_goals first|refine AtT.zg ?_|refine AtT.ze ?_|(refine AtT.qZ ?_)
  all_goals (refine AtT.zz ?_)
  all_goals (refine AtT.zf ?_)
  all_goals refine AtT.done ?_
  all_goals (refine At.nrm ?_)
  refine At.qB rfl rfl ?_
  refine At.nrm ?_
  refine At.zl (.q 0 (.q 1 .done)) ?_
  refine AtT.zf ?_
  refine AtT.zf ?_
  refine AtT.done ?_
  refine At.nrm ?_
  exact At.jh rfl (.tmp rfl) (.tmp rfl) (.inr ⟨by unfold chE; rw [if_pos (by omega)]; decide, by unfold chE; rw [if_pos (by omega)]⟩)
 by_cases m3 : 1 ≤ s.most ∧ s.most ≤ 36
 rotate_left
 ·refine At.zl (.q 0 (.q 1 (.q 2 (.n false 3 (.n false 4 (.q 5 (.q 6 (.q 7 (.q 8 (.q 9 (.q 10 (.q 11 (.n false 12 (.n false 13 (.q 14 (.q 15 (.q 16 (.q 17 (.q 18 (.n false 19 (.n false 20 (.q 21 (.q 22 (.q 23 .done)))))))))))))))))))))))) ?_
  first | refine AtT.zi zt ?_ | with_reducible refine AtT.zk zt ?_ | refine AtT.zn zt ?_
  first | refine AtT.zm zV ?_ | refine AtT.zo zV ?_
  first | refine AtT.zY Tryz.underlying22 ?_ | refine AtT.zZ Tryz.underlying22 ?_
  refine AtT.zw (zU _) ?_
  intro q9 V9 hV9 hq9
  have g9 : Le V V9 := by first | exact hV9 | exact Le.trans (by assumption) hV9
  refine AtT.zq rfl rfl jq (qj 1 6 [(s.rows.length : Int)] _ _ (Sl.lit hq9 rfl (by simp))) ?_
  rintro _ rfl; rw [jv, decide_eq_true m1]
  refine AtT.qZ ?_
  refine AtT.zh ?_
  all_goals (first | refine AtT.kL 12 ?_ | refine AtT.zB (d := 12) rfl (fun hg12 => ?_) (fun hg12 => ?_) | refine AtT.zA (d := 12) rfl (fun hg12 => ?_) (fun hg12 => ?_))
  all_goals first|refine AtT.zg ?_|refine AtT.ze ?_|(first | refine AtT.zi zt ?_ | with_reducible refine AtT.zk zt ?_ | refine AtT.zn zt ?_)
  all_goals first|refine AtT.zg ?_|refine AtT.ze ?_|(first | refine AtT.zm zV ?_ | refine AtT.zo zV ?_)
  all_goals first|refine AtT.zg ?_|refine AtT.ze ?_|(refine AtT.qp Tryz.underlying22 tk9 ?_) ; (intro p15 e15 he15 hc15)
  all_goals first|refine AtT.zg ?_|refine AtT.ze ?_|(first | refine AtT.zm tk9 ?_ | refine AtT.zo tk9 ?_)
  all_goals (obtain rfl : r0 = e15 := by have : s.rows[0]? = some e15 := (by simpa using he15); rw [hr0] at this; simpa using this)
  all_goals first|refine AtT.zg ?_|refine AtT.ze ?_|(refine AtT.qM rfl ⟨_, _, rfl, rfl, rfl⟩ Tryz.underlying9 rfl (by decide) ?_)
  all_goals (rw [hr0s])
  all_goals first|refine AtT.zP ?_|refine AtT.zI ?_|((refine AtT.zw (zU _) ?_) ; (intro q18 V18 hV18 hq18) ; (have g18 : Le V V18 := by first | exact hV18 | exact Le.trans (by assumption) hV18))
  all_goals first|refine AtT.zP ?_|refine AtT.zI ?_|((refine AtT.zq rfl rfl jq (qj 1 6 [(wdS s : Int)] _ _ (Sl.lit hq18 rfl (by simp))) ?_) ; (rintro _ rfl; rw [jv, decide_eq_true m2]))
  all_goals first|refine AtT.zg ?_|refine AtT.ze ?_|(refine AtT.qZ ?_)
  all_goals (refine AtT.zz ?_)
  all_goals (refine AtT.zh ?_)
  all_goals (first | refine AtT.kL 22 ?_ | refine AtT.zB (d := 22) rfl (fun hg22 => ?_) (fun hg22 => ?_) | refine AtT.zA (d := 22) rfl (fun hg22 => ?_) (fun hg22 => ?_))
  all_goals first|refine AtT.zg ?_|refine AtT.ze ?_|(first | refine AtT.zi zR ?_ | with_reducible refine AtT.zk zR ?_ | refine AtT.zn zR ?_)
  all_goals first|refine AtT.zg ?_|refine AtT.ze ?_|(first | refine AtT.zm tk3 ?_ | refine AtT.zo tk3 ?_)
  all_goals first|refine AtT.zP ?_|refine AtT.zI ?_|((refine AtT.zw (zU _) ?_) ; (intro q25 V25 hV25 hq25) ; (have g25 : Le V V25 := by first | exact hV25 | exact Le.trans (by assumption) hV25))
  all_goals first|refine AtT.zP ?_|refine AtT.zI ?_|((refine AtT.zq rfl rfl jq (qj 1 36 [s.most] _ _ (Sl.lit hq25 rfl (by simp))) ?_) ; (rintro _ rfl; rw [jv, decide_eq_false m3]))
  all_goals first|refine AtT.zg ?_|refine AtT.ze ?_|(refine AtT.qZ ?_)
  all_goals (refine AtT.zz ?_)
  all_goals (refine AtT.zf ?_)
  all_goals refine AtT.done ?_
  all_goals (refine At.nrm ?_)
  refine At.qB rfl rfl ?_
  refine At.nrm ?_
  refine At.zl (.q 0 (.q 1 .done)) ?_
  refine AtT.zf ?_
  refine AtT.zf ?_
  refine AtT.done ?_
  refine At.nrm ?_
  exact At.jh rfl (.tmp rfl) (.tmp rfl) (.inr ⟨by unfold chE; rw [if_pos (by omega)]; decide, by unfold chE; rw [if_pos (by omega)]⟩)
 refine At.zl (.q 0 (.q 1 (.q 2 (.n false 3 (.n false 4 (.q 5 (.q 6 (.q 7 (.q 8 (.q 9 (.q 10 (.q 11 (.n false 12 (.n false 13 (.q 14 (.q 15 (.q 16 (.q 17 (.q 18 (.n false 19 (.n false 20 (.q 21 (.q 22 (.q 23 .done)))))))))))))))))))))))) ?_
 first | refine AtT.zi zt ?_ | with_reducible refine AtT.zk zt ?_ | refine AtT.zn zt ?_
 first | refine AtT.zm zV ?_ | refine AtT.zo zV ?_
 first | refine AtT.zY Tryz.underlying22 ?_ | refine AtT.zZ Tryz.underlying22 ?_
 refine AtT.zw (zU _) ?_
 intro q9 V9 hV9 hq9
 have g9 : Le V V9 := by first | exact hV9 | exact Le.trans (by assumption) hV9
 refine AtT.zq rfl rfl jq (qj 1 6 [(s.rows.length : Int)] _ _ (Sl.lit hq9 rfl (by simp))) ?_
 rintro _ rfl; rw [jv, decide_eq_true m1]
 refine AtT.qZ ?_
 refine AtT.zh ?_
 all_goals (first | refine AtT.kL 12 ?_ | refine AtT.zB (d := 12) rfl (fun hg12 => ?_) (fun hg12 => ?_) | refine AtT.zA (d := 12) rfl (fun hg12 => ?_) (fun hg12 => ?_))
 all_goals first|refine AtT.zg ?_|refine AtT.ze ?_|(first | refine AtT.zi zt ?_ | with_reducible refine AtT.zk zt ?_ | refine AtT.zn zt ?_)
 all_goals first|refine AtT.zg ?_|refine AtT.ze ?_|(first | refine AtT.zm zV ?_ | refine AtT.zo zV ?_)
 all_goals first|refine AtT.zg ?_|refine AtT.ze ?_|(refine AtT.qp Tryz.underlying22 tk9 ?_) ; (intro p15 e15 he15 hc15)
 all_goals first|refine AtT.zg ?_|refine AtT.ze ?_|(first | refine AtT.zm tk9 ?_ | refine AtT.zo tk9 ?_)
 all_goals (obtain rfl : r0 = e15 := by have : s.rows[0]? = some e15 := (by simpa using he15); rw [hr0] at this; simpa using this)
 all_goals first|refine AtT.zg ?_|refine AtT.ze ?_|(refine AtT.qM rfl ⟨_, _, rfl, rfl, rfl⟩ Tryz.underlying9 rfl (by decide) ?_)
 all_goals (rw [hr0s])
 all_goals first|refine AtT.zP ?_|refine AtT.zI ?_|((refine AtT.zw (zU _) ?_) ; (intro q18 V18 hV18 hq18) ; (have g18 : Le V V18 := by first | exact hV18 | exact Le.trans (by assumption) hV18))
 all_goals first|refine AtT.zP ?_|refine AtT.zI ?_|((refine AtT.zq rfl rfl jq (qj 1 6 [(wdS s : Int)] _ _ (Sl.lit hq18 rfl (by simp))) ?_) ; (rintro _ rfl; rw [jv, decide_eq_true m2]))
 all_goals first|refine AtT.zg ?_|refine AtT.ze ?_|(refine AtT.qZ ?_)
 all_goals (refine AtT.zz ?_)
 all_goals (refine AtT.zh ?_)
 all_goals (first | refine AtT.kL 22 ?_ | refine AtT.zB (d := 22) rfl (fun hg22 => ?_) (fun hg22 => ?_) | refine AtT.zA (d := 22) rfl (fun hg22 => ?_) (fun hg22 => ?_))
 all_goals first|refine AtT.zg ?_|refine AtT.ze ?_|(first | refine AtT.zi zR ?_ | with_reducible refine AtT.zk zR ?_ | refine AtT.zn zR ?_)
 all_goals first|refine AtT.zg ?_|refine AtT.ze ?_|(first | refine AtT.zm tk3 ?_ | refine AtT.zo tk3 ?_)
 all_goals first|refine AtT.zP ?_|refine AtT.zI ?_|((refine AtT.zw (zU _) ?_) ; (intro q25 V25 hV25 hq25) ; (have g25 : Le V V25 := by first | exact hV25 | exact Le.trans (by assumption) hV25))
 all_goals first|refine AtT.zP ?_|refine AtT.zI ?_|((refine AtT.zq rfl rfl jq (qj 1 36 [s.most] _ _ (Sl.lit hq25 rfl (by simp))) ?_) ; (rintro _ rfl; rw [jv, decide_eq_true m3]))
 all_goals first|refine AtT.zg ?_|refine AtT.ze ?_|(refine AtT.qZ ?_)
 all_goals (refine AtT.zz ?_)
 all_goals (refine AtT.zf ?_)
 all_goals refine AtT.done ?_
 all_goals (refine At.nrm ?_)
 refine At.qW rfl rfl ?_
 have c1 : ¬ ¬ (1 ≤ s.rows.length ∧ s.rows.length ≤ 6 ∧ 1 ≤ wdS s ∧ wdS s ≤ 6 ∧ 1 ≤ s.most ∧ s.most ≤ 36) := fun h => h (by omega)
 have hn0 : s.rows ≠ [] := fun h => by rw [h] at m1; simp at m1
 refine At.nrm ?_
 refine At.zl (.q 0 (.q 1 (.q 2 (.n false 3 (.q 4 .done))))) ?_
 first | refine AtT.zi zt ?_ | with_reducible refine AtT.zk zt ?_ | refine AtT.zn zt ?_
 first | refine AtT.zm zV ?_ | refine AtT.zo zV ?_
 refine AtT.kfn ?_
 refine AtT.kcallL rfl rfl ok82 (fun VL hVL hOL => contains_b 83 [.pointer (some ⟨b1, 0, none⟩)] (fun r => decide (r.size ≠ wdS s)) VL _ s.rows ((hs.le (by first | assumption | exact Le.trans (by assumption) (by assumption))).le hVL) ok83 (fun x _ => open1_f s (by omega) x VL _ a c s.most (qP (hOL b1 _ (List.mem_cons_self ..))) ((hs.le (by first | assumption | exact Le.trans (by assumption) (by assumption))).le hVL))) ?_
 rintro _ rfl
 refine AtT.zf ?_
 refine AtT.done ?_
 refine At.nrm ?_
 refine At.cond rfl (fun hb => ?_) (fun hb => ?_)
 ·refine At.nrm ?_
  refine At.zl (.q 0 (.q 1 .done)) ?_
  refine AtT.zf ?_
  refine AtT.zf ?_
  refine AtT.done ?_
  refine At.nrm ?_
  exact At.jh rfl (.tmp rfl) (.tmp rfl) (.inr ⟨by unfold chE; rw [if_neg c1, if_pos hb]; decide, by unfold chE; rw [if_neg c1, if_pos hb]⟩)
 have hsz : ∀ r ∈ s.rows, r.size = wdS s := fun r hr => by
  apply Classical.byContradiction
  intro hc
  rw [List.any_eq_true.2 ⟨r, hr, decide_eq_true hc⟩] at hb; cases hb
 have c2 : ¬ (s.rows.any fun r => decide (r.size ≠ wdS s)) = true := fun h => by rw [hb] at h; cases h
 have h12 : ∀ r ∈ s.rows, r.size ≤ 12 := fun r hr => by have := hsz r hr; omega
 have hwl := wh_len s h12 (by omega)
 have hwt := wh_trim s
 have hwc := wh_count s
 have hbt : bt ⟨(wh s).toArray⟩ = wh s := by unfold bt; simp
 refine At.nrm ?_
 refine At.zl (.q 0 (.q 1 (.n false 2 (.q 3 .done)))) ?_
 first | refine AtT.zi zt ?_ | with_reducible refine AtT.zk zt ?_ | refine AtT.zn zt ?_
 first | refine AtT.zm zV ?_ | refine AtT.zo zV ?_
 refine AtT.zq rfl rfl ok84 (join_f s.rows hn0 (by omega) h12 _ _ (hs.le (by first | assumption | exact Le.trans (by assumption) (by assumption)))) ?_
 rintro _ rfl
 refine AtT.zf ?_
 refine AtT.done ?_
 refine At.nrm ?_
 refine At.nrm ?_
 refine At.zl (.q 0 (.n false 1 (.q 2 (.q 3 .done)))) ?_
 refine AtT.zh ?_
 refine AtT.zq rfl rfl ok85 (trim_f ⟨(wh s).toArray⟩ (by show (wh s).toArray.size ≤ _; rw [List.size_toArray]; omega) _) ?_
 rintro _ rfl; rw [hbt]
 refine AtT.neStr rfl trivial rfl rfl (by decide) ?_
 refine AtT.zf ?_
 refine AtT.done ?_
 refine At.nrm ?_
 refine At.qc rfl (fun hq => ?_) (fun hq => ?_)
 ·have hfr : s.rows.all frR = false := by
   cases h : s.rows.all frR with
   | false => rfl
   | true => exact absurd (by rw [hwt.2 h]) hq
  refine At.nrm ?_
  refine At.zl (.q 0 (.q 1 .done)) ?_
  refine AtT.zf ?_
  refine AtT.zf ?_
  refine AtT.done ?_
  refine At.nrm ?_
  exact At.jh rfl (.tmp rfl) (.tmp rfl) (.inr ⟨by unfold chE; rw [if_neg c1, if_neg c2, if_pos hfr]; decide, by unfold chE; rw [if_neg c1, if_neg c2, if_pos hfr]⟩)
 have hfr : ¬ s.rows.all frR = false := fun h => by
  have hq' := Classical.not_not.1 hq
  have h1 : Lib.trimS (wh s) [46, 111, 35] = [] := by
   have h2 := congrArg bt hq'
   unfold bt at h2
   simpa using h2
  rw [hwt.1 h1] at h; cases h
 refine At.nrm ?_
 refine At.zl (.q 0 (.n false 1 (.q 2 (.q 3 .done)))) ?_
 refine AtT.zh ?_
 refine AtT.zq rfl rfl ok86 (count_f ⟨(wh s).toArray⟩ _) ?_
 rintro _ rfl; rw [hbt, hwc]
 refine AtT.qw ?_
 refine AtT.zf ?_
 refine AtT.done ?_
 refine At.nrm ?_
 refine At.qc rfl (fun hq2 => ?_) (fun hq2 => ?_)
 ·refine At.nrm ?_
  refine At.zl (.q 0 (.q 1 .done)) ?_
  refine AtT.zf ?_
  refine AtT.zf ?_
  refine AtT.done ?_
  refine At.nrm ?_
  exact At.jh rfl (.tmp rfl) (.tmp rfl) (.inr ⟨by unfold chE; rw [if_neg c1, if_neg c2, if_neg hfr, if_pos (by omega)]; decide, by unfold chE; rw [if_neg c1, if_neg c2, if_neg hfr, if_pos (by omega)]⟩)
 have h0 : chE s = 0 := by unfold chE; rw [if_neg c1, if_neg c2, if_neg hfr, if_neg (by omega)]
 refine At.nrm ?_
 refine At.zl (.q 0 (.n false 1 (.q 2 (.q 3 .done)))) ?_
 first | refine AtT.zD zM ?_ | refine AtT.zJ zM ?_ | refine AtT.zC zM ?_
 refine AtT.qg rfl rfl ok87 (newBench_f s (jo h0) _ _ ⟨a, c, rfl, hs.le (by first | assumption | exact Le.trans (by assumption) (by assumption))⟩) ?_
 rintro _ V46 hV46 ⟨b, rfl, hb46⟩
 refine AtT.zf ?_
 refine AtT.zf ?_
 refine AtT.done ?_
 refine At.nrm ?_
 exact At.jh rfl (.tmp rfl) (.tmp rfl) (.inl ⟨h0, b, rfl, hb46⟩)
end Go.Proofs.YtghomjjffllkeaaGreatDoor
set_option linter.unusedVariables false
namespace Go.Pm
open Go.Gl Go.Lw
theorem two_ne {K : List Cl} {i k : Nat} (hi : i < K.length) : sel K (2 ^ i ||| 2 ^ k) ≠ [] := fun e => by
 have hx : K[i]? = some K[i] := List.getElem?_eq_getElem hi
 have : K[i] ∈ sel K (2 ^ i ||| 2 ^ k) := ja.2 ⟨i, hx, by rw [Nat.testBit_or, Nat.testBit_two_pow_self]; rfl⟩
 rw [e] at this; cases this
theorem two_lt {i k : Nat} (hi : i < 10) (hk : k < 10) : 2 ^ i < 1024 ∧ 2 ^ k < 1024 ∧ 2 ^ i ||| 2 ^ k < 1024 := by
 have h1 : 2 ^ i < 2 ^ 10 := Nat.pow_lt_pow_right (by omega) hi
 have h2 : 2 ^ k < 2 ^ 10 := Nat.pow_lt_pow_right (by omega) hk
 exact ⟨h1, h2, Nat.or_lt_two_pow h1 h2⟩
end Go.Pm
namespace Go.Proofs.YtghomjjffllkeaaGreatDoor
open Go.Lw Go.Gl Go.Pm Go.RowKit
theorem share_f (s : Sh) (hok : ShOk s) (i k : Nat) (hi : i < (knL s).length) (hk : k < (knL s).length) (V : View) (b : Nat) (hb : BnV V b s) : Fnc Tryz.prog 69 [.pointer (some ⟨b, 0, none⟩), iv i, iv k] V fun r _ => r = .bool (shN (gdS s) (knL s) i k) := by
 have h10 := hok.kn
 obtain ⟨l1, l2, l3⟩ := two_lt (i := i) (k := k) (by omega) (by omega)
 refine qf Tryz.func69 rfl Tryz.ntmps69 (Nat.le_of_ble_eq_true rfl) ?_
 intro w0 hw0
 refine At.nrm ?_
 refine At.zl (.q 0 .done) ?_
 refine AtT.zf ?_
 refine AtT.done ?_
 refine At.nrm ?_
 refine At.draw (.q 0 (.q 1 (.q 2 (.q 3 (.q 4 (.q 5 (.q 6 (.q 7 (.n false 8 (.n false 9 (.q 10 (.q 11 .done)))))))))))) ffm (by kernel_rfl) ?_
 refine AtT.zh ?_
 refine AtT.zh ?_
 refine AtT.zh ?_
 refine AtT.shlN rfl trivial rfl rfl rfl (by omega) (by decide) (N := i) ?_
 refine AtT.zh ?_
 refine AtT.shlN rfl trivial rfl rfl rfl (by omega) (by decide) (N := k) ?_
 refine AtT.orN rfl trivial rfl rfl rfl rfl (by omega) (by omega) (by decide) (A := 2 ^ i) (B := 2 ^ k) ?_
 refine AtT.jc (bd129_0 _) ?_
 refine AtT.zq rfl rfl ok93 (least_f s hok h10 (2 ^ i ||| 2 ^ k) (by omega) (two_ne hi) _ b hb) ?_
 rintro _ rfl
 refine AtT.zq rfl rfl ok58 (lies_f s hok _ _ b hb) ?_
 rintro _ rfl
 refine AtT.jg ?_
 refine AtT.zf ?_
 refine AtT.done ?_
 refine At.nrm ?_
 all_goals (exact At.qb rfl (.tmp rfl) rfl)
theorem inP_wi (p : Pc) (k : Cl) : decide (inP p k) = (wi p.t (p.t + p.h - 1) [k.r] && wi p.l (p.l + p.w - 1) [k.c]) := by
 rw [jv, jv, Bool.eq_iff_iff, Bool.and_eq_true, decide_eq_true_eq, decide_eq_true_eq, decide_eq_true_eq]
 unfold inP
 omega
theorem has_f (p : Pc) (k : Cl) (hb : -1000 ≤ p.t ∧ p.t ≤ 1000 ∧ -1000 ≤ p.l ∧ p.l ≤ 1000 ∧ -1000 ≤ p.h ∧ p.h ≤ 1000 ∧ -1000 ≤ p.w ∧ p.w ≤ 1000) (V : View) : Fnc Tryz.prog 61 [pcv p, clv k] V fun r _ => r = .bool (decide (inP p k)) := by
 refine qf Tryz.func61 rfl Tryz.ntmps61 (Nat.le_of_ble_eq_true rfl) ?_
 intro w0 hw0
 refine At.nrm ?_
 refine At.zl (.n false 0 (.n false 1 (.q 2 .done))) ?_
 refine AtT.jb ?_
 intro b2
 refine AtT.jb ?_
 intro b3
 refine AtT.zf ?_
 refine AtT.done ?_
 refine At.nrm ?_
 have e := inP_wi p k
 cases h1 : wi p.t (p.t + p.h - 1) [k.r] with
 | false =>
  rw [h1, Bool.false_and] at e
  rw [e]
  refine At.zl (.q 0 (.q 1 (.q 2 (.q 3 (.q 4 (.q 5 (.q 6 (.q 7 (.q 8 (.q 9 (.n false 10 (.n false 11 (.q 12 (.q 13 (.q 14 (.q 15 (.q 16 (.q 17 (.q 18 (.q 19 (.q 20 (.q 21 (.q 22 (.n false 23 (.n false 24 (.q 25 (.q 26 .done))))))))))))))))))))))))))) ?_
  first | refine AtT.zi zH ?_ | with_reducible refine AtT.zk zH ?_ | refine AtT.zn zH ?_
  first | refine AtT.zm tk3 ?_ | refine AtT.zo tk3 ?_
  first | refine AtT.zi zH ?_ | with_reducible refine AtT.zk zH ?_ | refine AtT.zn zH ?_
  first | refine AtT.zm tk3 ?_ | refine AtT.zo tk3 ?_
  first | refine AtT.zi zy ?_ | with_reducible refine AtT.zk zy ?_ | refine AtT.zn zy ?_
  first | refine AtT.zm tk3 ?_ | refine AtT.zo tk3 ?_
  first | refine AtT.qi ?_ | refine AtT.zT ?_
  first | refine AtT.qD ?_ | refine AtT.qE ?_
  first | refine AtT.zi fo90_0 ?_ | with_reducible refine AtT.zk fo90_0 ?_ | refine AtT.zn fo90_0 ?_
  first | refine AtT.zm tk3 ?_ | refine AtT.zo tk3 ?_
  refine AtT.zw (zU _) ?_
  intro q15 V15 hV15 hq15
  have g15 : Le V V15 := by first | exact hV15 | exact Le.trans (by assumption) hV15
  refine AtT.zq rfl rfl jq (qj _ _ [k.r] _ _ (Sl.lit hq15 rfl (by simp))) ?_
  rintro _ rfl; rw [h1]
  refine AtT.zh ?_
  all_goals (first | refine AtT.kL 17 ?_ | refine AtT.zB (d := 17) rfl (fun hg17 => ?_) (fun hg17 => ?_) | refine AtT.zA (d := 17) rfl (fun hg17 => ?_) (fun hg17 => ?_))
  all_goals first|refine AtT.zg ?_|refine AtT.ze ?_|(first | refine AtT.zi zG ?_ | with_reducible refine AtT.zk zG ?_ | refine AtT.zn zG ?_)
  all_goals first|refine AtT.zg ?_|refine AtT.ze ?_|(first | refine AtT.zm tk3 ?_ | refine AtT.zo tk3 ?_)
  all_goals first|refine AtT.zg ?_|refine AtT.ze ?_|(first | refine AtT.zi zG ?_ | with_reducible refine AtT.zk zG ?_ | refine AtT.zn zG ?_)
  all_goals first|refine AtT.zg ?_|refine AtT.ze ?_|(first | refine AtT.zm tk3 ?_ | refine AtT.zo tk3 ?_)
  all_goals first|refine AtT.zg ?_|refine AtT.ze ?_|(first | refine AtT.zi zx ?_ | with_reducible refine AtT.zk zx ?_ | refine AtT.zn zx ?_)
  all_goals first|refine AtT.zg ?_|refine AtT.ze ?_|(first | refine AtT.zm tk3 ?_ | refine AtT.zo tk3 ?_)
  all_goals first|refine AtT.zg ?_|refine AtT.ze ?_|(first | refine AtT.qi ?_ | refine AtT.zT ?_)
  all_goals first|refine AtT.zg ?_|refine AtT.ze ?_|(first | refine AtT.qD ?_ | refine AtT.qE ?_)
  all_goals first|refine AtT.zg ?_|refine AtT.ze ?_|(first | refine AtT.zi fo90_1 ?_ | with_reducible refine AtT.zk fo90_1 ?_ | refine AtT.zn fo90_1 ?_)
  all_goals first|refine AtT.zg ?_|refine AtT.ze ?_|(first | refine AtT.zm tk3 ?_ | refine AtT.zo tk3 ?_)
  all_goals first|refine AtT.zP ?_|refine AtT.zI ?_|((refine AtT.zw (zU _) ?_) ; (intro q28 V28 hV28 hq28) ; (have g28 : Le V V28 := by first | exact hV28 | exact Le.trans (by assumption) hV28))
  all_goals first|refine AtT.zP ?_|refine AtT.zI ?_|((fail))
  all_goals (refine AtT.zz ?_)
  all_goals (refine AtT.zf ?_)
  all_goals refine AtT.done ?_
  all_goals (refine At.nrm ?_)
  exact At.qb rfl (.tmp rfl) rfl
 | true =>
  rw [h1, Bool.true_and] at e
  rw [e]
  refine At.zl (.q 0 (.q 1 (.q 2 (.q 3 (.q 4 (.q 5 (.q 6 (.q 7 (.q 8 (.q 9 (.n false 10 (.n false 11 (.q 12 (.q 13 (.q 14 (.q 15 (.q 16 (.q 17 (.q 18 (.q 19 (.q 20 (.q 21 (.q 22 (.n false 23 (.n false 24 (.q 25 (.q 26 .done))))))))))))))))))))))))))) ?_
  first | refine AtT.zi zH ?_ | with_reducible refine AtT.zk zH ?_ | refine AtT.zn zH ?_
  first | refine AtT.zm tk3 ?_ | refine AtT.zo tk3 ?_
  first | refine AtT.zi zH ?_ | with_reducible refine AtT.zk zH ?_ | refine AtT.zn zH ?_
  first | refine AtT.zm tk3 ?_ | refine AtT.zo tk3 ?_
  first | refine AtT.zi zy ?_ | with_reducible refine AtT.zk zy ?_ | refine AtT.zn zy ?_
  first | refine AtT.zm tk3 ?_ | refine AtT.zo tk3 ?_
  first | refine AtT.qi ?_ | refine AtT.zT ?_
  first | refine AtT.qD ?_ | refine AtT.qE ?_
  first | refine AtT.zi fo90_0 ?_ | with_reducible refine AtT.zk fo90_0 ?_ | refine AtT.zn fo90_0 ?_
  first | refine AtT.zm tk3 ?_ | refine AtT.zo tk3 ?_
  refine AtT.zw (zU _) ?_
  intro q15 V15 hV15 hq15
  have g15 : Le V V15 := by first | exact hV15 | exact Le.trans (by assumption) hV15
  refine AtT.zq rfl rfl jq (qj _ _ [k.r] _ _ (Sl.lit hq15 rfl (by simp))) ?_
  rintro _ rfl; rw [h1]
  refine AtT.zh ?_
  all_goals (first | refine AtT.kL 17 ?_ | refine AtT.zB (d := 17) rfl (fun hg17 => ?_) (fun hg17 => ?_) | refine AtT.zA (d := 17) rfl (fun hg17 => ?_) (fun hg17 => ?_))
  all_goals first|refine AtT.zg ?_|refine AtT.ze ?_|(first | refine AtT.zi zG ?_ | with_reducible refine AtT.zk zG ?_ | refine AtT.zn zG ?_)
  all_goals first|refine AtT.zg ?_|refine AtT.ze ?_|(first | refine AtT.zm tk3 ?_ | refine AtT.zo tk3 ?_)
  all_goals first|refine AtT.zg ?_|refine AtT.ze ?_|(first | refine AtT.zi zG ?_ | with_reducible refine AtT.zk zG ?_ | refine AtT.zn zG ?_)
  all_goals first|refine AtT.zg ?_|refine AtT.ze ?_|(first | refine AtT.zm tk3 ?_ | refine AtT.zo tk3 ?_)
  all_goals first|refine AtT.zg ?_|refine AtT.ze ?_|(first | refine AtT.zi zx ?_ | with_reducible refine AtT.zk zx ?_ | refine AtT.zn zx ?_)
  all_goals first|refine AtT.zg ?_|refine AtT.ze ?_|(first | refine AtT.zm tk3 ?_ | refine AtT.zo tk3 ?_)
  all_goals first|refine AtT.zg ?_|refine AtT.ze ?_|(first | refine AtT.qi ?_ | refine AtT.zT ?_)
  all_goals first|refine AtT.zg ?_|refine AtT.ze ?_|(first | refine AtT.qD ?_ | refine AtT.qE ?_)
  all_goals first|refine AtT.zg ?_|refine AtT.ze ?_|(first | refine AtT.zi fo90_1 ?_ | with_reducible refine AtT.zk fo90_1 ?_ | refine AtT.zn fo90_1 ?_)
  all_goals first|refine AtT.zg ?_|refine AtT.ze ?_|(first | refine AtT.zm tk3 ?_ | refine AtT.zo tk3 ?_)
  all_goals first|refine AtT.zP ?_|refine AtT.zI ?_|((refine AtT.zw (zU _) ?_) ; (intro q28 V28 hV28 hq28) ; (have g28 : Le V V28 := by first | exact hV28 | exact Le.trans (by assumption) hV28))
  all_goals first|refine AtT.zP ?_|refine AtT.zI ?_|((refine AtT.zq rfl rfl jq (qj _ _ [k.c] _ _ (Sl.lit hq28 rfl (by simp))) ?_) ; (rintro _ rfl))
  all_goals (refine AtT.zz ?_)
  all_goals (refine AtT.zf ?_)
  all_goals refine AtT.done ?_
  all_goals (refine At.nrm ?_)
  exact At.qb rfl (.tmp rfl) rfl
theorem open_ok (s : Sh) (h : chE s = 0) (V : View) (v : Value) (hv : ShV V v s) : Fnc Tryz.prog 57 [v] V fun r V' => ∃ b, r = .tuple #[.pointer (some ⟨b, 0, none⟩), iv 0] ∧ BnV V' b s :=
 (open_f s V v hv).mono fun r V' _ h1 => by
  rcases h1 with ⟨_, h1⟩ | ⟨h1, _⟩
  ·exact h1
  ·exact absurd h h1
theorem open_bad (s : Sh) (h : chE s ≠ 0) (V : View) (v : Value) (hv : ShV V v s) : Fnc Tryz.prog 57 [v] V fun r V' => r = .tuple #[.pointer none, iv (chE s)] :=
 (open_f s V v hv).mono fun r V' _ h1 => by
  rcases h1 with ⟨h1, _⟩ | ⟨_, h1⟩
  ·exact absurd h1 h
  ·exact h1
def ckR (s : Sh) (p : Pc) : Int := if chE s ≠ 0 then chE s else peE (gdS s) p
theorem qo (s : Sh) (p : Pc) (V : View) (v : Value) (hv : ShV V v s) : Fnc Tryz.prog 21 [v, pcv p] V fun r _ => r = iv (ckR s p) := by
 obtain ⟨a, c, rfl, hs⟩ := id hv
 refine qf Tryz.func21 rfl Tryz.ntmps21 (Nat.le_of_ble_eq_true rfl) ?_
 intro w0 hw0
 refine At.nrm ?_
 refine At.zl (.n false 0 (.n false 1 (.q 2 .done))) ?_
 refine AtT.jb ?_
 intro b2
 refine AtT.jb ?_
 intro b3
 refine AtT.zf ?_
 refine AtT.done ?_
 refine At.nrm ?_
 by_cases h0 : chE s = 0
 ·refine At.zl (.q 0 (.n false 1 (.q 2 (.q 3 (.q 4 (.q 5 (.q 6 .done))))))) ?_
  first | refine AtT.zD zM ?_ | refine AtT.zJ zM ?_ | refine AtT.zC zM ?_
  refine AtT.qg rfl rfl ok57 (open_ok s h0 _ _ hv) ?_
  rintro v9 V9 hV9 ⟨b, rfl, hb⟩
  refine AtT.zh ?_
  refine AtT.zL ?_
  refine AtT.zL ?_
  refine AtT.zf ?_
  refine AtT.zf ?_
  refine AtT.done ?_
  refine At.nrm ?_
  refine At.nrm ?_
  refine At.zl (.q 0 (.q 1 .done)) ?_
  refine AtT.zh ?_
  refine AtT.qH ?_
  refine AtT.done ?_
  refine At.nrm ?_
  refine At.qW rfl rfl ?_
  refine At.nrm ?_
  refine At.zl (.q 0 (.q 1 (.n false 2 (.q 3 .done)))) ?_
  refine AtT.zh ?_
  first | refine AtT.zD zS ?_ | refine AtT.zJ zS ?_ | refine AtT.zC zS ?_
  refine AtT.zq rfl rfl ok58 (lies_f s (jo h0) p _ b hb) ?_
  rintro _ rfl
  refine AtT.zf ?_
  refine AtT.done ?_
  refine At.nrm ?_
  exact At.qb rfl (.tmp rfl) (by unfold ckR; rw [if_neg (by simpa using h0)])
 ·refine At.zl (.q 0 (.n false 1 (.q 2 (.q 3 (.q 4 (.q 5 (.q 6 .done))))))) ?_
  first | refine AtT.zD zM ?_ | refine AtT.zJ zM ?_ | refine AtT.zC zM ?_
  refine AtT.qg rfl rfl ok57 (open_bad s h0 _ _ hv) ?_
  rintro v9 V9 hV9 rfl
  refine AtT.zh ?_
  refine AtT.zL ?_
  refine AtT.zL ?_
  refine AtT.zf ?_
  refine AtT.zf ?_
  refine AtT.done ?_
  refine At.nrm ?_
  refine At.nrm ?_
  refine At.zl (.q 0 (.q 1 .done)) ?_
  refine AtT.zh ?_
  refine AtT.qH ?_
  refine AtT.done ?_
  refine At.nrm ?_
  refine At.qB rfl (decide_eq_true h0) ?_
  refine At.nrm ?_
  refine At.zl (.q 0 (.q 1 .done)) ?_
  refine AtT.zh ?_
  refine AtT.zf ?_
  refine AtT.done ?_
  refine At.nrm ?_
  exact At.qb rfl (.tmp rfl) (by unfold ckR; rw [if_pos h0])
end Go.Proofs.YtghomjjffllkeaaGreatDoor
set_option linter.unusedVariables false
namespace Go.Pm
open Go.Gl Go.Lw
theorem lies_bd {s : Sh} (hok : ShOk s) {p : Pc} (h : Lies (gdS s) p) : -1000 ≤ p.t ∧ p.t ≤ 1000 ∧ -1000 ≤ p.l ∧ p.l ≤ 1000 ∧ -1000 ≤ p.h ∧ p.h ≤ 1000 ∧ -1000 ≤ p.w ∧ p.w ≤ 1000 := by
 have h1 := h.h
 have h2 := h.w
 have h3 := h.t
 have h4 := h.l
 have hn := hok.n
 have hw := hok.w
 have hR : (gdS s).R = (s.rows.length : Int) := rfl
 have hC : (gdS s).C = (wdS s : Int) := rfl
 omega
theorem arL_take {ps : List Pc} {k : Nat} {p : Pc} (h : ps[k]? = some p) : arL (ps.take (k + 1)) = arL (ps.take k) + arP p := by
 have hl := (List.getElem?_eq_some_iff.1 h).1
 rw [List.take_succ_eq_append_getElem hl, arL_snoc]
 rw [List.getElem?_eq_getElem hl] at h
 cases h; rfl
end Go.Pm
namespace Go.Proofs.YtghomjjffllkeaaGreatDoor
open Go.Lw Go.Gl Go.Pm Go.RowKit
theorem has1_f (p : Pc) (k : Cl) (hb : -1000 ≤ p.t ∧ p.t ≤ 1000 ∧ -1000 ≤ p.l ∧ p.l ≤ 1000 ∧ -1000 ≤ p.h ∧ p.h ≤ 1000 ∧ -1000 ≤ p.w ∧ p.w ≤ 1000) (V : View) (q : Addr) (hq : Cells V q (cle k)) : Fnc Tryz.prog 60 ([] ++ [pcv p] ++ [.pointer (some q)]) V fun r _ => r = .bool (decide (inP p k)) := by
 refine qf Tryz.func60 rfl Tryz.ntmps60 (Nat.le_of_ble_eq_true rfl) ?_
 intro w0 hw0
 refine At.nrm ?_
 refine At.zl (.n false 0 (.q 1 .done)) ?_
 refine AtT.jb ?_
 intro b2
 refine AtT.zf ?_
 refine AtT.done ?_
 refine At.nrm ?_
 refine At.zl (.q 0 (.q 1 (.n false 2 (.q 3 .done)))) ?_
 first | refine AtT.zD zS ?_ | refine AtT.zJ zS ?_ | refine AtT.zC zS ?_
 first | refine AtT.zD tk90 ?_ | refine AtT.zJ tk90 ?_ | refine AtT.zC tk90 ?_
 refine AtT.zq rfl rfl ok61 (has_f p k hb _) ?_
 rintro _ rfl
 refine AtT.zf ?_
 refine AtT.done ?_
 refine At.nrm ?_
 exact At.qb rfl (.tmp rfl) rfl
theorem checkPatches_f (s : Sh) (ps : List Pc) (V : View) (v u : Value) (hv : ShV V v s) (hu : Sl V pce 4 u ps) : Fnc Tryz.prog 17 [v, u] V fun r _ => r = .tuple #[iv (cpR s ps).1, iv (cpR s ps).2] := by
 obtain ⟨a, c, rfl, hs⟩ := id hv
 obtain ⟨a1, c1, rfl, k1, k2, _⟩ := id hu
 clear k1 k2
 have hlen := hu.je
 refine qf Tryz.func17 rfl Tryz.ntmps17 (Nat.le_of_ble_eq_true rfl) ?_
 intro w0 hw0
 refine At.nrm ?_
 refine At.zl (.n false 0 (.q 1 (.q 2 .done))) ?_
 refine AtT.jb ?_
 intro b2
 refine AtT.zf ?_
 refine AtT.zf ?_
 refine AtT.done ?_
 refine At.nrm ?_
 by_cases h0 : chE s = 0
 rotate_left
 ·refine At.zl (.q 0 (.n false 1 (.q 2 (.q 3 (.q 4 (.q 5 (.q 6 .done))))))) ?_
  first | refine AtT.zD zM ?_ | refine AtT.zJ zM ?_ | refine AtT.zC zM ?_
  refine AtT.qg rfl rfl ok57 (open_bad s h0 _ _ hv) ?_
  rintro v16 V16 hV16 rfl
  refine AtT.zh ?_
  refine AtT.zL ?_
  refine AtT.zL ?_
  refine AtT.zf ?_
  refine AtT.zf ?_
  refine AtT.done ?_
  refine At.nrm ?_
  refine At.nrm ?_
  refine At.zl (.q 0 (.q 1 (.q 2 .done))) ?_
  refine AtT.zh ?_
  refine AtT.qH ?_
  refine AtT.zf ?_
  refine AtT.done ?_
  refine At.nrm ?_
  refine At.qB rfl (decide_eq_true h0) ?_
  refine At.nrm ?_
  refine At.zl (.q 0 (.q 1 (.q 2 .done))) ?_
  refine AtT.zh ?_
  refine AtT.zf ?_
  refine AtT.zf ?_
  refine AtT.done ?_
  refine At.nrm ?_
  exact At.jh rfl (.tmp rfl) (.tmp rfl) (by unfold cpR; rw [if_pos h0])
 have hok := jo h0
 have hkn10 := hok.kn
 refine At.zl (.q 0 (.n false 1 (.q 2 (.q 3 (.q 4 (.q 5 (.q 6 .done))))))) ?_
 first | refine AtT.zD zM ?_ | refine AtT.zJ zM ?_ | refine AtT.zC zM ?_
 refine AtT.qg rfl rfl ok57 (open_ok s h0 _ _ hv) ?_
 rintro v16 V16 hV16 ⟨b, rfl, hb⟩
 refine AtT.zh ?_
 refine AtT.zL ?_
 refine AtT.zL ?_
 refine AtT.zf ?_
 refine AtT.zf ?_
 refine AtT.done ?_
 refine At.nrm ?_
 refine At.nrm ?_
 refine At.zl (.q 0 (.q 1 (.q 2 .done))) ?_
 refine AtT.zh ?_
 refine AtT.qH ?_
 refine AtT.zf ?_
 refine AtT.done ?_
 refine At.nrm ?_
 refine At.qW rfl rfl ?_
 refine At.nrm ?_
 refine At.zl (.q 0 (.q 1 (.q 2 (.q 3 .done)))) ?_
 refine AtT.zh ?_
 first | refine AtT.zY Tryz.underlying27 ?_ | refine AtT.zZ Tryz.underlying27 ?_
 refine AtT.qw ?_
 refine AtT.zf ?_
 refine AtT.done ?_
 refine At.nrm ?_
 refine At.qc rfl (fun hp => ?_) (fun hp => ?_)
 ·refine At.nrm ?_
  refine At.zl (.q 0 (.q 1 .done)) ?_
  refine AtT.zf ?_
  refine AtT.zf ?_
  refine AtT.done ?_
  refine At.nrm ?_
  exact At.jh rfl (.tmp rfl) (.tmp rfl) (by unfold cpR; rw [if_neg (by simpa using h0), if_pos (by omega)])
 refine At.nrm ?_
 refine At.zl (.q 0 .done) ?_
 refine AtT.zf ?_
 refine AtT.done ?_
 refine At.nrm ?_
 refine At.zl (.q 0 (.q 1 (.q 2 .done))) ?_
 refine AtT.zh ?_
 first | refine AtT.zY Tryz.underlying27 ?_ | refine AtT.zZ Tryz.underlying27 ?_
 refine AtT.zh ?_
 refine AtT.done ?_
 refine At.nrm ?_
 have hu2 := hu.le hV16
 refine At.lp (ι := Nat) (KS := fun k => [(1, .slice a1 ps.length c1), (6, .pointer (some ⟨b, 0, none⟩)), (8, iv (arL (ps.take k))), (27, .slice a1 ps.length c1), (28, iv ps.length), (29, iv k)]) (OS := fun _ => [])
  (VS := fun k V' => V' = V16 ∧ k ≤ ps.length ∧ ∀ q ∈ ps.take k, Lies (gdS s) q) (μ := fun k => ps.length - k) 0 ?_ ?_ ?_ ?_
 ·exact ⟨rfl, rfl, rfl, rfl, rfl, rfl, trivial⟩
 ·exact Pt.zO
 ·exact ⟨rfl, Nat.zero_le _, fun q hq => by simp at hq⟩
 rintro k V' ks' O' ⟨rfl, hkl, hlk⟩ hk hO hl2
 subst hk hO
 refine At.nrm ?_
 refine At.zl (.q 0 .done) ?_
 refine AtT.qa ?_
 refine AtT.done ?_
 refine At.nrm ?_
 refine At.qc rfl (fun hp2 => ?_) (fun hp2 => ?_)
 ·obtain ⟨p, hpk⟩ : ∃ p, ps[k]? = some p := ⟨_, List.getElem?_eq_getElem (by omega)⟩
  have htk := arL_take hpk
  refine At.nrm ?_
  refine At.zl (.q 0 (.q 1 (.n false 2 (.n true 3 .done)))) ?_
  refine AtT.qp Tryz.underlying27 zS ?_
  intro p31 e31 he31 hc31
  obtain rfl : p = e31 := by have : ps[k]? = some e31 := (by simpa using he31); rw [hpk] at this; simpa using this
  first | refine AtT.zD zS ?_ | refine AtT.zJ zS ?_ | refine AtT.zC zS ?_
  refine AtT.qx z26 ?_
  intro b10
  refine AtT.zW zS ?_
  refine AtT.done ?_
  refine At.nrm ?_
  refine At.nrm ?_
  refine At.zl (.q 0 (.q 1 (.n false 2 (.q 3 .done)))) ?_
  refine AtT.zh ?_
  first | refine AtT.zD zS ?_ | refine AtT.zJ zS ?_ | refine AtT.zC zS ?_
  refine AtT.zq rfl rfl ok58 (lies_f s hok p _ b hb) ?_
  rintro _ rfl
  refine AtT.zf ?_
  refine AtT.done ?_
  refine At.nrm ?_
  refine At.nrm ?_
  refine At.zl (.q 0 (.q 1 .done)) ?_
  refine AtT.zh ?_
  refine AtT.qH ?_
  refine AtT.done ?_
  refine At.nrm ?_
  refine At.qc rfl (fun he => ?_) (fun he => ?_)
  ·have hfr := frE_at hlk hpk he
   refine At.nrm ?_
   refine At.zl (.q 0 (.q 1 (.q 2 .done))) ?_
   refine AtT.zh ?_
   refine AtT.zf ?_
   refine AtT.zf ?_
   refine AtT.done ?_
   refine At.nrm ?_
   exact At.jh rfl (.tmp rfl) (.tmp rfl) (by unfold cpR; rw [if_neg (by simpa using h0), if_neg (by omega), hfr, if_pos he])
  have hpl := peE_iff.1 (Classical.not_not.1 he)
  have hbd := lies_bd hok hpl
  have hls : ∀ q ∈ ps.take (k + 1), Lies (gdS s) q := fun q hq => by
   rw [List.take_succ_eq_append_getElem (by omega)] at hq
   rcases List.mem_append.1 hq with h | h
   ·exact hlk q h
   ·have e := List.getElem?_eq_getElem (l := ps) (i := k) (by omega)
    rw [hpk] at e
    rw [List.mem_singleton.1 h, ← Option.some.inj e]; exact hpl
  have h1 := arL_bd (sh_gok hok) hlk
  have h2 := arL_bd (sh_gok hok) hls
  rw [List.length_take] at h1 h2
  have h3 := hpl.most
  have h4 := ar_pos hpl
  have h5 := (sh_gok hok).most
  have hap : arP p = p.h * p.w := rfl
  have hfit : Fit (p.h * p.w) := Fit.of (by omega) (by omega)
  have hfit2 : Fit (arL (ps.take k) + p.h * p.w) := Fit.of (by omega) (by omega)
  refine At.nrm ?_
  refine At.zl (.q 0 (.q 1 (.q 2 (.q 3 (.q 4 (.q 5 (.q 6 (.q 7 .done)))))))) ?_
  refine AtT.zh ?_
  first | refine AtT.zi zy ?_ | with_reducible refine AtT.zk zy ?_ | refine AtT.zn zy ?_
  first | refine AtT.zm tk3 ?_ | refine AtT.zo tk3 ?_
  first | refine AtT.zi zx ?_ | with_reducible refine AtT.zk zx ?_ | refine AtT.zn zx ?_
  first | refine AtT.zm tk3 ?_ | refine AtT.zo tk3 ?_
  first | refine AtT.kmul ?_ | refine AtT.kmulW ?_
  first | refine AtT.qi ?_ | refine AtT.zT ?_
  refine AtT.zf ?_
  refine AtT.done ?_
  refine At.nrm ?_
  refine At.nrm ?_
  refine At.zl (.q 0 (.q 1 .done)) ?_
  first | refine AtT.qi ?_ | refine AtT.zT ?_
  refine AtT.zh ?_
  refine AtT.done ?_
  refine At.nrm ?_
  refine At.round (k + 1) ?_ ?_ ?_ ?_
  ·show ps.length - (k + 1) < ps.length - k; omega
  ·exact ⟨rfl, by omega, hls⟩
  ·rw [htk]; exact ⟨rfl, rfl, rfl, rfl, rfl, ivs (by omega), trivial⟩
  ·exact Pt.zO
 obtain rfl : k = ps.length := by omega
 rw [List.take_length] at hlk
 have hf0 : frE (gdS s) ps = 0 := frE_ok.2 hlk
 obtain ⟨ab, cb, ak, ck, hc0, hc1, hc2, hc3, hsb, hsk⟩ := bn_get hb
 refine At.nrm ?_
 refine At.zl (.q 0 (.q 1 (.q 2 (.q 3 (.q 4 (.q 5 .done)))))) ?_
 refine AtT.zh ?_
 refine AtT.knil ?_
 first | refine AtT.zi qy ?_ | with_reducible refine AtT.zk qy ?_ | refine AtT.zn qy ?_
 first | refine AtT.zm tk84 ?_ | refine AtT.zo tk84 ?_
 first | refine AtT.zY Tryz.underlying84 ?_ | refine AtT.zZ Tryz.underlying84 ?_
 refine AtT.zh ?_
 refine AtT.done ?_
 refine At.nrm ?_
 refine At.lp (ι := Nat) (KS := fun k => [(1, .slice a1 ps.length c1), (8, iv (arL ps)), (50, .slice ak (knL s).length ck), (51, iv (knL s).length), (52, iv k)]) (OS := fun _ => [])
  (VS := fun k V2 => Le V' V2 ∧ k ≤ (knL s).length ∧ ((knL s).take k).all (hasB ps) = true) (μ := fun k => (knL s).length - k) 0 ?_ ?_ ?_ ?_
 ·rw [List.take_length]; exact ⟨rfl, rfl, rfl, rfl, rfl, trivial⟩
 ·exact Pt.zO
 ·exact ⟨Le.refl _, Nat.zero_le _, rfl⟩
 rintro k V2 ks' O' ⟨hV2, hkl, hal⟩ hk hO hl3
 subst hk hO
 have hsk2 := hsk.le hV2
 have hu3 := hu2.le hV2
 refine At.nrm ?_
 refine At.zl (.q 0 .done) ?_
 refine AtT.qa ?_
 refine AtT.done ?_
 refine At.nrm ?_
 refine At.qc rfl (fun hp3 => ?_) (fun hp3 => ?_)
 ·obtain ⟨x, hx⟩ : ∃ x, (knL s)[k]? = some x := ⟨_, List.getElem?_eq_getElem (by omega)⟩
  refine At.nrm ?_
  refine At.zl (.q 0 (.q 1 (.n false 2 (.n true 3 .done)))) ?_
  refine AtT.qp Tryz.underlying84 tk90 ?_
  intro p54 e54 he54 hc54
  obtain rfl : x = e54 := by have : (knL s)[k]? = some e54 := (by simpa using he54); rw [hx] at this; simpa using this
  first | refine AtT.zD tk90 ?_ | refine AtT.zJ tk90 ?_ | refine AtT.zC tk90 ?_
  refine AtT.qx z90 ?_
  intro b13
  refine AtT.zW tk90 ?_
  refine AtT.done ?_
  refine At.nrm ?_
  refine At.nrm ?_
  refine At.zl (.q 0 (.q 1 (.n false 2 (.q 3 .done)))) ?_
  refine AtT.zh ?_
  refine AtT.kfn ?_
  refine AtT.kcallL rfl rfl ok59 (fun VL hVL hOL => contains_p 60 [.pointer (some ⟨b13, 0, none⟩)] (fun p => decide (inP p x)) VL _ ps (hu3.le hVL) ok60 (fun p hp => has1_f p x (lies_bd hok (hlk p hp)) VL _ (qP (hOL b13 _ (List.mem_cons_self ..))))) ?_
  rintro _ rfl
  refine AtT.qZ ?_
  refine AtT.done ?_
  refine At.nrm ?_
  have htk : (knL s).take (k + 1) = (knL s).take k ++ [x] := by
   rw [List.take_succ_eq_append_getElem (by omega)]; congr 1; rw [List.getElem?_eq_getElem (by omega)] at hx; simpa using hx
  cases hh : hasB ps x with
  | false =>
   unfold hasB at hh
   rw [hh]
   refine At.qB rfl rfl ?_
   have hna : ¬ (knL s).all (hasB ps) = true := fun h => by
    have := List.all_eq_true.1 h x (List.mem_of_getElem? hx)
    unfold hasB at this; rw [hh] at this; cases this
   refine At.nrm ?_
   refine At.zl (.q 0 (.q 1 .done)) ?_
   refine AtT.zf ?_
   refine AtT.zf ?_
   refine AtT.done ?_
   refine At.nrm ?_
   exact At.jh rfl (.tmp rfl) (.tmp rfl) (by unfold cpR; rw [if_neg (by simpa using h0), if_neg (by omega), if_neg (by rw [hf0]; simp), if_neg hna])
  | true =>
   have hh' := hh
   unfold hasB at hh
   rw [hh]
   refine At.qW rfl rfl ?_
   refine At.nrm ?_
   refine At.zl (.q 0 (.q 1 .done)) ?_
   first | refine AtT.qi ?_ | refine AtT.zT ?_
   refine AtT.zh ?_
   refine AtT.done ?_
   refine At.nrm ?_
   refine At.round (k + 1) ?_ ?_ ?_ ?_
   ·show (knL s).length - (k + 1) < (knL s).length - k; omega
   ·exact ⟨hV2, by omega, by rw [htk, List.all_append, hal]; simp [hh']⟩
   ·exact ⟨rfl, rfl, rfl, rfl, ivs (by omega), trivial⟩
   ·exact Pt.zO
 obtain rfl : k = (knL s).length := by omega
 rw [List.take_length] at hal
 refine At.nrm ?_
 refine At.zl (.q 0 (.q 1 (.q 2 .done))) ?_
 refine AtT.zh ?_
 refine AtT.zf ?_
 refine AtT.zf ?_
 refine AtT.done ?_
 refine At.nrm ?_
 exact At.jh rfl (.tmp rfl) (.tmp rfl) (by unfold cpR; rw [if_neg (by simpa using h0), if_neg (by omega), if_neg (by rw [hf0]; simp), if_pos hal])
end Go.Proofs.YtghomjjffllkeaaGreatDoor
set_option linter.unusedVariables false
namespace Go.Proofs.YtghomjjffllkeaaGreatDoor
open Go.Lw Go.Gl Go.Pm Go.RowKit
theorem rcheckPatches_f (s : Sh) (ps : List Pc) (V : View) (v u : Value) (hv : ShV V v s) (hu : Sl V pce 4 u ps) : Fnc Tryz.prog 18 [v, u] V fun r _ => r = .tuple #[iv (cpR s ps).1, iv (cpR s ps).2] := by
 obtain ⟨a, c, rfl, hs⟩ := id hv
 obtain ⟨a1, c1, rfl, k1, k2, _⟩ := id hu
 clear k1 k2
 have hlen := hu.je
 refine qf Tryz.func18 rfl Tryz.ntmps18 (Nat.le_of_ble_eq_true rfl) ?_
 intro w0 hw0
 refine At.nrm ?_
 refine At.zl (.n false 0 (.q 1 (.q 2 .done))) ?_
 refine AtT.jb ?_
 intro b2
 refine AtT.zf ?_
 refine AtT.zf ?_
 refine AtT.done ?_
 refine At.nrm ?_
 refine At.zl (.q 0 (.n false 1 (.q 2 .done))) ?_
 first | refine AtT.zD zM ?_ | refine AtT.zJ zM ?_ | refine AtT.zC zM ?_
 refine AtT.zq rfl rfl ok20 (rsheet_f s _ _ hv) ?_
 rintro _ rfl
 refine AtT.qH ?_
 refine AtT.done ?_
 refine At.nrm ?_
 refine At.qc rfl (fun h0 => ?_) (fun h0 => ?_)
 ·refine At.nrm ?_
  refine At.zl (.q 0 (.n false 1 (.q 2 (.q 3 .done)))) ?_
  first | refine AtT.zD zM ?_ | refine AtT.zJ zM ?_ | refine AtT.zC zM ?_
  refine AtT.zq rfl rfl ok20 (rsheet_f s _ _ hv) ?_
  rintro _ rfl
  refine AtT.zf ?_
  refine AtT.zf ?_
  refine AtT.done ?_
  refine At.nrm ?_
  exact At.jh rfl (.tmp rfl) (.tmp rfl) (by unfold cpR; rw [if_pos h0])
 have hok := jo (Classical.not_not.1 h0)
 have hkn10 := hok.kn
 have hn6 := hok.n
 have hw6 := hok.w
 refine At.nrm ?_
 refine At.zl (.q 0 (.q 1 (.q 2 .done))) ?_
 refine AtT.zh ?_
 first | refine AtT.zY Tryz.underlying27 ?_ | refine AtT.zZ Tryz.underlying27 ?_
 refine AtT.qw ?_
 refine AtT.done ?_
 refine At.nrm ?_
 refine At.qc rfl (fun hp => ?_) (fun hp => ?_)
 ·refine At.nrm ?_
  refine At.zl (.q 0 (.q 1 .done)) ?_
  refine AtT.zf ?_
  refine AtT.zf ?_
  refine AtT.done ?_
  refine At.nrm ?_
  exact At.jh rfl (.tmp rfl) (.tmp rfl) (by unfold cpR; rw [if_neg (by simpa using h0), if_pos (by omega)])
 refine At.nrm ?_
 refine At.zl (.q 0 .done) ?_
 refine AtT.zf ?_
 refine AtT.done ?_
 refine At.nrm ?_
 refine At.zl (.q 0 .done) ?_
 refine AtT.zf ?_
 refine AtT.done ?_
 refine At.nrm ?_
 refine At.lp (ι := Nat) (KS := fun k => [(1, .slice a1 ps.length c1), (2, .pointer (some ⟨b2, 0, none⟩)), (6, iv (arL (ps.take k))), (7, iv k)]) (OS := fun _ => [.blk b2 (LC [.slice a s.rows.length c, iv s.most] 24)])
  (VS := fun k V' => V = V' ∧ k ≤ ps.length ∧ ∀ q ∈ ps.take k, Lies (gdS s) q) (μ := fun k => ps.length - k) 0 ?_ ?_ ?_ ?_
 ·exact ⟨rfl, rfl, rfl, rfl, trivial⟩
 ·exact Pt.zO
 ·exact ⟨rfl, Nat.zero_le _, fun q hq => by simp at hq⟩
 rintro k _ ks' O' ⟨rfl, hkl, hlk⟩ hk hO hl2
 subst hk hO
 refine At.nrm ?_
 refine At.zl (.q 0 (.q 1 (.q 2 (.q 3 .done)))) ?_
 refine AtT.zh ?_
 refine AtT.zh ?_
 first | refine AtT.zY Tryz.underlying27 ?_ | refine AtT.zZ Tryz.underlying27 ?_
 refine AtT.qa ?_
 refine AtT.done ?_
 refine At.nrm ?_
 refine At.qc rfl (fun hp2 => ?_) (fun hp2 => ?_)
 ·obtain ⟨p, hpk⟩ : ∃ p, ps[k]? = some p := ⟨_, List.getElem?_eq_getElem (by omega)⟩
  have htk := arL_take hpk
  refine At.nrm ?_
  refine At.jr (ι := Unit) (fun _ => [(1, .slice a1 ps.length c1), (2, .pointer (some ⟨b2, 0, none⟩)), (6, iv (arL (ps.take k))), (7, iv k), (32, .bool (decide (peE (gdS s) p ≠ 0)))]) (fun _ => [.blk b2 (LC [.slice a s.rows.length c, iv s.most] 24)]) (fun _ V'' => V = V'') ?_ ?_
  ·refine At.draw (.q 0 (.q 1 (.q 2 (.q 3 (.q 4 (.n false 5 (.q 6 .done))))))) ffm (by kernel_rfl) ?_
   first | refine AtT.zD zM ?_ | refine AtT.zJ zM ?_ | refine AtT.zC zM ?_
   refine AtT.zh ?_
   refine AtT.zh ?_
   refine AtT.qp Tryz.underlying27 zS ?_
   intro p29 e29 he29 hc29
   first | refine AtT.zD zS ?_ | refine AtT.zJ zS ?_ | refine AtT.zC zS ?_
   obtain rfl : p = e29 := by have : ps[k]? = some e29 := (by simpa using he29); rw [hpk] at this; simpa using this
   refine AtT.zq rfl rfl ok51 (rpe_f s hok p _ _ hv) ?_
   rintro _ rfl
   refine AtT.qH ?_
   refine AtT.done ?_
   refine At.nrm ?_
   all_goals (exact At.qC () rfl ⟨rfl, rfl, rfl, rfl, rfl, trivial⟩ Pt.zO)
  rintro _ _ ks' O' rfl hk hO hl3
  subst hk hO
  refine At.qc rfl (fun he => ?_) (fun he => ?_)
  ·have hfr := frE_at hlk hpk he
   refine At.nrm ?_
   refine At.draw (.q 0 (.q 1 (.q 2 (.q 3 (.q 4 (.n false 5 (.q 6 (.q 7 .done)))))))) ffm (by kernel_rfl) ?_
   first | refine AtT.zD zM ?_ | refine AtT.zJ zM ?_ | refine AtT.zC zM ?_
   refine AtT.zh ?_
   refine AtT.zh ?_
   refine AtT.qp Tryz.underlying27 zS ?_
   intro p36 e36 he36 hc36
   first | refine AtT.zD zS ?_ | refine AtT.zJ zS ?_ | refine AtT.zC zS ?_
   obtain rfl : p = e36 := by have : ps[k]? = some e36 := (by simpa using he36); rw [hpk] at this; simpa using this
   refine AtT.zq rfl rfl ok51 (rpe_f s hok p _ _ hv) ?_
   rintro _ rfl
   refine AtT.zf ?_
   refine AtT.zf ?_
   refine AtT.done ?_
   refine At.nrm ?_
   all_goals (exact At.jh rfl (.tmp rfl) (.tmp rfl) (by unfold cpR; rw [if_neg (by simpa using h0), if_neg (by omega), hfr, if_pos he]))
  have hpl := peE_iff.1 (Classical.not_not.1 he)
  have hbd := lies_bd hok hpl
  have hls : ∀ q ∈ ps.take (k + 1), Lies (gdS s) q := fun q hq => by
   rw [List.take_succ_eq_append_getElem (by omega)] at hq
   rcases List.mem_append.1 hq with h | h
   ·exact hlk q h
   ·have e := List.getElem?_eq_getElem (l := ps) (i := k) (by omega)
    rw [hpk] at e
    rw [List.mem_singleton.1 h, ← Option.some.inj e]; exact hpl
  have h1 := arL_bd (sh_gok hok) hlk
  have h2 := arL_bd (sh_gok hok) hls
  rw [List.length_take] at h1 h2
  have h3 := hpl.most
  have h4 := ar_pos hpl
  have h5 := (sh_gok hok).most
  have hap : arP p = p.h * p.w := rfl
  have hfit : Fit (p.h * p.w) := Fit.of (by omega) (by omega)
  have hfit2 : Fit (arL (ps.take k) + p.h * p.w) := Fit.of (by omega) (by omega)
  refine At.nrm ?_
  refine At.jr (ι := Unit) (fun _ => [(1, .slice a1 ps.length c1), (2, .pointer (some ⟨b2, 0, none⟩)), (6, iv (arL (ps.take (k + 1)))), (7, iv k)]) (fun _ => [.blk b2 (LC [.slice a s.rows.length c, iv s.most] 24)]) (fun _ V'' => V = V'') ?_ ?_
  ·rw [htk]
   refine At.draw (.q 0 (.q 1 (.q 2 (.q 3 (.q 4 (.q 5 (.q 6 (.q 7 (.q 8 (.q 9 (.q 10 (.q 11 (.q 12 (.q 13 .done)))))))))))))) ffm (by kernel_rfl) ?_
   refine AtT.zh ?_
   refine AtT.zh ?_
   refine AtT.zh ?_
   refine AtT.qp Tryz.underlying27 zS ?_
   intro p42 e42 he42 hc42
   first | refine AtT.zi zy ?_ | with_reducible refine AtT.zk zy ?_ | refine AtT.zn zy ?_
   obtain rfl : p = e42 := by have : ps[k]? = some e42 := (by simpa using he42); rw [hpk] at this; simpa using this
   first | refine AtT.zm tk3 ?_ | refine AtT.zo tk3 ?_
   refine AtT.zh ?_
   refine AtT.zh ?_
   refine AtT.qp Tryz.underlying27 zS ?_
   intro p47 e47 he47 hc47
   first | refine AtT.zi zx ?_ | with_reducible refine AtT.zk zx ?_ | refine AtT.zn zx ?_
   obtain rfl : p = e47 := by have : ps[k]? = some e47 := (by simpa using he47); rw [hpk] at this; simpa using this
   first | refine AtT.zm tk3 ?_ | refine AtT.zo tk3 ?_
   first | refine AtT.kmul ?_ | refine AtT.kmulW ?_
   first | refine AtT.qi ?_ | refine AtT.zT ?_
   refine AtT.zf ?_
   refine AtT.done ?_
   refine At.nrm ?_
   all_goals (exact At.qC () rfl ⟨rfl, rfl, rfl, rfl, trivial⟩ Pt.zO)
  rintro _ _ ks' O' rfl hk hO hl3
  subst hk hO
  refine At.nrm ?_
  refine At.zl (.q 0 (.q 1 (.q 2 .done))) ?_
  refine AtT.zh ?_
  first | refine AtT.qi ?_ | refine AtT.zT ?_
  refine AtT.zf ?_
  refine AtT.done ?_
  refine At.nrm ?_
  refine At.round (k + 1) ?_ ?_ ?_ ?_
  ·show ps.length - (k + 1) < ps.length - k; omega
  ·exact ⟨rfl, by omega, hls⟩
  ·exact ⟨rfl, rfl, rfl, ivs (by omega), trivial⟩
  ·exact Pt.zO
 obtain rfl : k = ps.length := by omega
 rw [List.take_length] at hlk ⊢
 have hf0 : frE (gdS s) ps = 0 := frE_ok.2 hlk
 refine At.nrm ?_
 refine At.zl (.q 0 (.n false 1 (.q 2 .done))) ?_
 first | refine AtT.zD zM ?_ | refine AtT.zJ zM ?_ | refine AtT.zC zM ?_
 refine AtT.qg rfl rfl ok44 (knotsOf_f s (by omega) (fun r hr => by have := hok.sz r hr; omega) _ _ hv) ?_
 rintro v53 V53 hV53 hs53; obtain ⟨ak, ck, rfl, _⟩ := id hs53
 refine AtT.zf ?_
 refine AtT.done ?_
 refine At.nrm ?_
 have hu2 := hu.le hV53
 refine At.zl (.q 0 .done) ?_
 refine AtT.zf ?_
 refine AtT.done ?_
 refine At.nrm ?_
 refine At.lp (ι := Nat) (KS := fun k => [(1, .slice a1 ps.length c1), (6, iv (arL ps)), (8, .slice ak (knL s).length ck), (9, iv k)]) (OS := fun _ => [])
  (VS := fun k V2 => Le V53 V2 ∧ k ≤ (knL s).length ∧ ((knL s).take k).all (hasB ps) = true) (μ := fun k => (knL s).length - k) 0 ?_ ?_ ?_ ?_
 ·exact ⟨rfl, rfl, rfl, rfl, trivial⟩
 ·exact Pt.zO
 ·exact ⟨Le.refl _, Nat.zero_le _, rfl⟩
 rintro k V2 ks' O' ⟨hV2, hkl, hal⟩ hk hO hl3
 subst hk hO
 have hsk2 := hs53.le hV2
 have hu3 := hu2.le hV2
 refine At.nrm ?_
 refine At.zl (.q 0 (.q 1 (.q 2 (.q 3 .done)))) ?_
 refine AtT.zh ?_
 refine AtT.zh ?_
 first | refine AtT.zY Tryz.underlying58 ?_ | refine AtT.zZ Tryz.underlying58 ?_
 refine AtT.qa ?_
 refine AtT.done ?_
 refine At.nrm ?_
 refine At.qc rfl (fun hp3 => ?_) (fun hp3 => ?_)
 ·obtain ⟨x, hx⟩ : ∃ x, (knL s)[k]? = some x := ⟨_, List.getElem?_eq_getElem (by omega)⟩
  have htk : (knL s).take (k + 1) = (knL s).take k ++ [x] := by
   rw [List.take_succ_eq_append_getElem (by omega)]; congr 1; rw [List.getElem?_eq_getElem (by omega)] at hx; simpa using hx
  refine At.nrm ?_
  refine At.zl (.q 0 .done) ?_
  refine AtT.zf ?_
  refine AtT.done ?_
  refine At.nrm ?_
  refine At.zl (.q 0 .done) ?_
  refine AtT.zf ?_
  refine AtT.done ?_
  refine At.nrm ?_
  refine At.lp (ι := Nat) (KS := fun j => [(1, .slice a1 ps.length c1), (6, iv (arL ps)), (8, .slice ak (knL s).length ck), (9, iv k), (10, .bool (hasB (ps.take j) x)), (11, iv j)]) (OS := fun _ => [])
   (VS := fun j V3 => V2 = V3 ∧ j ≤ ps.length) (μ := fun j => ps.length - j) 0 ?_ ?_ ?_ ?_
  ·exact ⟨rfl, rfl, rfl, rfl, rfl, rfl, trivial⟩
  ·exact Pt.zO
  ·exact ⟨rfl, Nat.zero_le _⟩
  rintro j _ ks' O' ⟨rfl, hjl⟩ hk hO hl4
  subst hk hO
  refine At.nrm ?_
  refine At.zl (.q 0 (.q 1 (.q 2 (.q 3 .done)))) ?_
  refine AtT.zh ?_
  refine AtT.zh ?_
  first | refine AtT.zY Tryz.underlying27 ?_ | refine AtT.zZ Tryz.underlying27 ?_
  refine AtT.qa ?_
  refine AtT.done ?_
  refine At.nrm ?_
  refine At.qc rfl (fun hp4 => ?_) (fun hp4 => ?_)
  ·obtain ⟨p, hpj⟩ : ∃ p, ps[j]? = some p := ⟨_, List.getElem?_eq_getElem (by omega)⟩
   have hbd := lies_bd hok (hlk p (List.mem_of_getElem? hpj))
   have hnx : hasB (ps.take (j + 1)) x = (hasB (ps.take j) x || decide (inP p x)) := by
    have e : ps.take (j + 1) = ps.take j ++ [p] := by
     rw [List.take_succ_eq_append_getElem (by omega)]; congr 1; rw [List.getElem?_eq_getElem (by omega)] at hpj; simpa using hpj
    unfold hasB; rw [e, List.any_append]; simp
   refine At.nrm ?_
   refine At.jr (ι := Unit) (fun _ => [(1, .slice a1 ps.length c1), (6, iv (arL ps)), (8, .slice ak (knL s).length ck), (9, iv k), (10, .bool (hasB (ps.take (j + 1)) x)), (11, iv j)]) (fun _ => []) (fun _ V'' => V2 = V'') ?_ ?_
   ·rw [hnx]
    cases hh : hasB (ps.take j) x with
    | true =>
     refine At.draw (.q 0 (.q 1 (.q 2 (.q 3 (.q 4 (.q 5 (.q 6 (.q 7 (.q 8 (.q 9 (.n false 10 (.q 11 (.q 12 .done))))))))))))) ffm (by kernel_rfl) ?_
     refine AtT.zh ?_
     refine AtT.zh ?_
     all_goals (first | refine AtT.kL 67 ?_ | refine AtT.zB (d := 67) rfl (fun hg67 => ?_) (fun hg67 => ?_) | refine AtT.zA (d := 67) rfl (fun hg67 => ?_) (fun hg67 => ?_))
     all_goals first|refine AtT.zg ?_|refine AtT.ze ?_|(refine AtT.zh ?_)
     all_goals first|refine AtT.zg ?_|refine AtT.ze ?_|(refine AtT.zh ?_)
     all_goals first|refine AtT.zg ?_|refine AtT.ze ?_|(refine AtT.qp Tryz.underlying27 zS ?_) ; (intro p70 e70 he70 hc70)
     all_goals first|refine AtT.zg ?_|refine AtT.ze ?_|(first | refine AtT.zD zS ?_ | refine AtT.zJ zS ?_ | refine AtT.zC zS ?_)
     all_goals first|refine AtT.zg ?_|refine AtT.ze ?_|(refine AtT.zh ?_)
     all_goals first|refine AtT.zg ?_|refine AtT.ze ?_|(refine AtT.zh ?_)
     all_goals first|refine AtT.zg ?_|refine AtT.ze ?_|(refine AtT.qp Tryz.underlying58 tk67 ?_) ; (intro p74 e74 he74 hc74)
     all_goals first|refine AtT.zg ?_|refine AtT.ze ?_|(first | refine AtT.zD tk67 ?_ | refine AtT.zJ tk67 ?_ | refine AtT.zC tk67 ?_)
     all_goals first|refine AtT.zP ?_|refine AtT.zI ?_|((fail))
     all_goals (refine AtT.zz ?_)
     all_goals (refine AtT.zf ?_)
     all_goals refine AtT.done ?_
     all_goals (refine At.nrm ?_)
     all_goals (exact At.qC () rfl ⟨rfl, rfl, rfl, rfl, rfl, rfl, trivial⟩ Pt.zO)
    | false =>
     refine At.draw (.q 0 (.q 1 (.q 2 (.q 3 (.q 4 (.q 5 (.q 6 (.q 7 (.q 8 (.q 9 (.n false 10 (.q 11 (.q 12 .done))))))))))))) ffm (by kernel_rfl) ?_
     refine AtT.zh ?_
     refine AtT.zh ?_
     all_goals (first | refine AtT.kL 67 ?_ | refine AtT.zB (d := 67) rfl (fun hg67 => ?_) (fun hg67 => ?_) | refine AtT.zA (d := 67) rfl (fun hg67 => ?_) (fun hg67 => ?_))
     all_goals first|refine AtT.zg ?_|refine AtT.ze ?_|(refine AtT.zh ?_)
     all_goals first|refine AtT.zg ?_|refine AtT.ze ?_|(refine AtT.zh ?_)
     all_goals first|refine AtT.zg ?_|refine AtT.ze ?_|(refine AtT.qp Tryz.underlying27 zS ?_) ; (intro p70 e70 he70 hc70)
     all_goals first|refine AtT.zg ?_|refine AtT.ze ?_|(first | refine AtT.zD zS ?_ | refine AtT.zJ zS ?_ | refine AtT.zC zS ?_)
     all_goals (obtain rfl : p = e70 := by have : ps[j]? = some e70 := (by simpa using he70); rw [hpj] at this; simpa using this)
     all_goals first|refine AtT.zg ?_|refine AtT.ze ?_|(refine AtT.zh ?_)
     all_goals first|refine AtT.zg ?_|refine AtT.ze ?_|(refine AtT.zh ?_)
     all_goals first|refine AtT.zg ?_|refine AtT.ze ?_|(refine AtT.qp Tryz.underlying58 tk67 ?_) ; (intro p74 e74 he74 hc74)
     all_goals first|refine AtT.zg ?_|refine AtT.ze ?_|(first | refine AtT.zD tk67 ?_ | refine AtT.zJ tk67 ?_ | refine AtT.zC tk67 ?_)
     all_goals (obtain rfl : x = e74 := by have : (knL s)[k]? = some e74 := (by simpa using he74); rw [hx] at this; simpa using this)
     all_goals first|refine AtT.zP ?_|refine AtT.zI ?_|((refine AtT.zq rfl rfl ok48 (rhas_f p x hbd _) ?_) ; (rintro _ rfl))
     all_goals (refine AtT.zz ?_)
     all_goals (refine AtT.zf ?_)
     all_goals refine AtT.done ?_
     all_goals (refine At.nrm ?_)
     all_goals (exact At.qC () rfl ⟨rfl, rfl, rfl, rfl, rfl, rfl, trivial⟩ Pt.zO)
   rintro _ _ ks' O' rfl hk hO hl5
   subst hk hO
   refine At.nrm ?_
   refine At.zl (.q 0 (.q 1 (.q 2 .done))) ?_
   refine AtT.zh ?_
   first | refine AtT.qi ?_ | refine AtT.zT ?_
   refine AtT.zf ?_
   refine AtT.done ?_
   refine At.nrm ?_
   refine At.round (j + 1) ?_ ?_ ?_ ?_
   ·show ps.length - (j + 1) < ps.length - j; omega
   ·exact ⟨rfl, by omega⟩
   ·exact ⟨rfl, rfl, rfl, rfl, rfl, ivs (by omega), trivial⟩
   ·exact Pt.zO
  obtain rfl : j = ps.length := by omega
  rw [List.take_length]
  refine At.nrm ?_
  refine At.zl (.q 0 (.q 1 .done)) ?_
  refine AtT.zh ?_
  refine AtT.qZ ?_
  refine AtT.done ?_
  refine At.nrm ?_
  cases hh : hasB ps x with
  | false =>
   refine At.qB rfl rfl ?_
   have hna : ¬ (knL s).all (hasB ps) = true := fun h => by
    have := List.all_eq_true.1 h x (List.mem_of_getElem? hx)
    rw [hh] at this; cases this
   refine At.nrm ?_
   refine At.zl (.q 0 (.q 1 .done)) ?_
   refine AtT.zf ?_
   refine AtT.zf ?_
   refine AtT.done ?_
   refine At.nrm ?_
   exact At.jh rfl (.tmp rfl) (.tmp rfl) (by unfold cpR; rw [if_neg (by simpa using h0), if_neg (by omega), if_neg (by rw [hf0]; simp), if_neg hna])
  | true =>
   refine At.qW rfl rfl ?_
   refine At.nrm ?_
   refine At.zl (.q 0 (.q 1 (.q 2 .done))) ?_
   refine AtT.zh ?_
   first | refine AtT.qi ?_ | refine AtT.zT ?_
   refine AtT.zf ?_
   refine AtT.done ?_
   refine At.nrm ?_
   refine At.round (k + 1) ?_ ?_ ?_ ?_
   ·show (knL s).length - (k + 1) < (knL s).length - k; omega
   ·exact ⟨hV2, by omega, by rw [htk, List.all_append, hal]; simp [hh]⟩
   ·exact ⟨rfl, rfl, rfl, ivs (by omega), trivial⟩
   ·exact Pt.zO
 obtain rfl : k = (knL s).length := by omega
 rw [List.take_length] at hal
 refine At.nrm ?_
 refine At.zl (.q 0 (.q 1 (.q 2 .done))) ?_
 refine AtT.zh ?_
 refine AtT.zf ?_
 refine AtT.zf ?_
 refine AtT.done ?_
 refine At.nrm ?_
 exact At.jh rfl (.tmp rfl) (.tmp rfl) (by unfold cpR; rw [if_neg (by simpa using h0), if_neg (by omega), if_neg (by rw [hf0]; simp), if_pos hal])
end Go.Proofs.YtghomjjffllkeaaGreatDoor
set_option linter.unusedVariables false
namespace Go.Pm
open Go.Gl Go.Lw
theorem selK_lt {α : Type} {K : List α} {b i : Nat} (hb : b.testBit i = false) : ∀ n, i < n → (qR K b n).length + 1 ≤ n
 | n + 1, h => by
  have hle : ∀ m, (qR K b m).length ≤ m := by
   intro m
   induction m with
   | zero => exact Nat.le_refl _
   | succ m ih =>
    cases c : K[m]? with
    | none => simp only [qR, c]; omega
    | some x =>
     rw [selK_at c]
     split
     ·rw [List.length_append, List.length_singleton]; omega
     ·omega
  by_cases e : i = n
  ·subst e
   have := hle i
   cases c : K[i]? with
   | none => simp only [qR, c]; omega
   | some x => rw [selK_at c, if_neg (by rw [hb]; simp)]; omega
  ·have ih := selK_lt (K := K) hb n (by omega)
   cases c : K[n]? with
   | none => simp only [qR, c]; omega
   | some x =>
    rw [selK_at c]
    split
    ·rw [List.length_append, List.length_singleton]; omega
    ·omega
structure InI (g : Gd) (K : List Cl) (b i : Nat) (W : Nat → Nat × Int) (top : Int) (part : Nat) (f c : Int) (q0 : Nat) : Prop where
 le : ∀ q, Cand g K b i q → part < q → f < ((W (qN b q)).1 : Int) + 1 ∨ f = ((W (qN b q)).1 : Int) + 1 ∧ c ≤ (W (qN b q)).2 + arP (bbx (sel K q))
 ex : (f = top ∧ c = 0) ∨ (Cand g K b i q0 ∧ f = ((W (qN b q0)).1 : Int) + 1 ∧ c = (W (qN b q0)).2 + arP (bbx (sel K q0)))
variable {g : Gd} {K : List Cl} {b i : Nat} {W : Nat → Nat × Int} {top : Int} {part : Nat} {f c : Int} {q0 : Nat}
theorem in_start : InI g K b i W top b top 0 q0 := ⟨fun q h hq => absurd (sub_le h.sub) (by omega), .inl ⟨rfl, rfl⟩⟩
theorem in_past (h : ∀ q, Cand g K b i q → part < q → f < ((W (qN b q)).1 : Int) + 1 ∨ f = ((W (qN b q)).1 : Int) + 1 ∧ c ≤ (W (qN b q)).2 + arP (bbx (sel K q)))
  (hp : SubB part b) (hq : Cand g K b i part → f < ((W (qN b part)).1 : Int) + 1 ∨ f = ((W (qN b part)).1 : Int) + 1 ∧ c ≤ (W (qN b part)).2 + arP (bbx (sel K part))) :
  ∀ q, Cand g K b i q → (part - 1) &&& b < q → f < ((W (qN b q)).1 : Int) + 1 ∨ f = ((W (qN b q)).1 : Int) + 1 ∧ c ≤ (W (qN b q)).2 + arP (bbx (sel K q)) := fun q hc hlt => by
 by_cases e : part < q
 ·exact h q hc e
 ·by_cases e2 : q = part
  ·subst e2; exact hq hc
  ·have := next_part hc.sub hp (by omega)
   omega
theorem in_skip (h : InI g K b i W top part f c q0) (hp : SubB part b) (hn : ¬ Cand g K b i part) : InI g K b i W top ((part - 1) &&& b) f c q0 := ⟨in_past h.le hp fun hc => absurd hc hn, h.ex⟩
theorem in_keep (h : InI g K b i W top part f c q0) (hp : SubB part b) (hk : ¬ (((W (qN b part)).1 : Int) + 1 < f ∨ ((W (qN b part)).1 : Int) + 1 = f ∧ (W (qN b part)).2 + arP (bbx (sel K part)) < c)) : InI g K b i W top ((part - 1) &&& b) f c q0 :=
 ⟨in_past h.le hp fun _ => by omega, h.ex⟩
theorem in_new (h : InI g K b i W top part f c q0) (hp : SubB part b) (hc : Cand g K b i part) (hk : ((W (qN b part)).1 : Int) + 1 < f ∨ ((W (qN b part)).1 : Int) + 1 = f ∧ (W (qN b part)).2 + arP (bbx (sel K part)) < c) :
  InI g K b i W top ((part - 1) &&& b) (((W (qN b part)).1 : Int) + 1) ((W (qN b part)).2 + arP (bbx (sel K part))) part :=
 ⟨in_past (fun q hq hlt => by have := h.le q hq hlt; omega) hp fun _ => .inr ⟨rfl, Int.le_refl _⟩, .inr ⟨hc, rfl, rfl⟩⟩
theorem in_end (hg : GOk g) (hon : ∀ k ∈ K, OnG g k) (hf : ∀ k ∈ K, g.fig k.r k.c = false) (hK : K.length ≤ 10) (hlt : b < 2 ^ K.length) (h1 : b.testBit i = true) (hW : ∀ r, r < b → jy g (sel K r) (W r).1 (W r).2)
  (htop : (K.length : Int) < top) (h : InI g K b i W top 0 f c q0) : Cand g K b i q0 ∧ ∃ n : Nat, f = n ∧ jy g (sel K b) n c ∧ n = (W (qN b q0)).1 + 1 ∧ c = (W (qN b q0)).2 + arP (bbx (sel K q0)) := by
 have h10 : 2 ^ K.length ≤ 1024 := Nat.pow_le_pow_right (n := 2) (by decide) hK
 have hil := bit_lt hlt h1
 obtain ⟨k, hk⟩ : ∃ k, K[i]? = some k := ⟨_, List.getElem?_eq_getElem hil⟩
 have hsub : SubB (2 ^ i) b := fun j hj => by
  rw [Nat.testBit_two_pow, decide_eq_true_eq] at hj; subst hj; exact h1
 have hp0 : 2 ^ i ≠ 0 := by have := Nat.two_pow_pos i; omega
 have hpl : 2 ^ i < 1024 := by have := sub_le hsub; omega
 have hne : sel K (2 ^ i) ≠ [] := fun e => by
  have := (sel_one hk k).2 rfl
  rw [e] at this; cases this
 have hone : Cand g K b i (2 ^ i) := ⟨hsub, Nat.testBit_two_pow_self, by
  have hkm := List.mem_of_getElem? hk
  rw [bbx_mem hne (m := [k]) (by simp) (fun x hx => on_bd hg (hon x (sel_in hx))) (fun x => by rw [sel_one hk, List.mem_singleton])]
  exact lies_one hg (hon k hkm) (hf k hkm)⟩
 have hrl := rest_lt (b := b) (p := 2 ^ i) (by omega) hpl hsub hp0
 have hbr := hW _ hrl
 have hlen : (W (qN b (2 ^ i))).1 + 1 ≤ K.length := by
  have h2 := best_le_len hg (fun x hx => hon x (sel_in hx)) (fun x hx => hf x (sel_in hx)) hbr
  have h3 := selK_lt (K := K) (b := qN b (2 ^ i)) (i := i) (by rw [rest_bit (by omega) hpl, h1, Nat.testBit_two_pow_self]; rfl) K.length hil
  unfold sel at h2
  omega
 have hle := h.le _ hone (Nat.two_pow_pos i)
 rcases h.ex with ⟨h2, _⟩ | ⟨h2, h3, h4⟩
 ·omega
 ·refine ⟨h2, (W (qN b q0)).1 + 1, by omega, ?_, rfl, h4⟩
  refine best_bits hg hon hK hlt h1 hW ⟨q0, h2, rfl, h4⟩ fun q hq => ?_
  have hq0 : 0 < q := by
   have := big_bit hq.low; omega
  have := h.le q hq hq0
  omega
theorem best_bd (hg : GOk g) (hon : ∀ k ∈ K, OnG g k) (hf : ∀ k ∈ K, g.fig k.r k.c = false) {n : Nat} (h : jy g K n c) : n ≤ K.length ∧ 0 ≤ c ∧ c ≤ 36 * K.length := by
 have h1 := best_le_len hg hon hf h
 obtain ⟨ps, hp, h2, h3⟩ := h.ex
 have := arL_bd hg hp.lies
 omega
theorem sel_len (b : Nat) : (sel K b).length ≤ K.length := by
 have : ∀ m, (qR K b m).length ≤ m := by
  intro m
  induction m with
  | zero => exact Nat.le_refl _
  | succ m ih =>
   cases c : K[m]? with
   | none => simp only [qR, c]; omega
   | some x =>
    rw [selK_at c]
    split
    ·rw [List.length_append, List.length_singleton]; omega
    ·omega
 exact this _
structure DpI (g : Gd) (K : List Cl) (F C : List Int) (b : Nat) : Prop where
 lf : F.length = 2 ^ K.length
 lc : C.length = 2 ^ K.length
 ok : ∀ r, r < b → r < 2 ^ K.length → ∃ (n : Nat) (c : Int), F[r]? = some (n : Int) ∧ C[r]? = some c ∧ jy g (sel K r) n c
 rest : ∀ r, b ≤ r → r < 2 ^ K.length → C[r]? = some 0
theorem sel_zero : sel K 0 = [] := by
 apply List.eq_nil_iff_forall_not_mem.2
 intro x hx
 obtain ⟨j, _, h⟩ := ja.1 hx
 rw [Nat.zero_testBit] at h; cases h
end Go.Pm

