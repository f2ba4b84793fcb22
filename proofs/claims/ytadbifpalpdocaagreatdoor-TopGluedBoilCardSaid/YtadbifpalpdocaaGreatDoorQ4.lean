/- Texts that the last one of this claim imports. -/
import Derived.ProofKit
import Derived.OpenShut
import Derived.Carry
import Derived.Lib.SmallJoins
import Derived.Deep.Slices
import Derived.Handed
import Derived.LaidLaws
import Derived.Stop.Joined
import Derived.Test.YtadbifpalpdocaaGreatDoorProg
import Derived.Test.YtadbifpalpdocaaGreatDoorQ1
import Derived.Test.YtadbifpalpdocaaGreatDoorQ3
set_option linter.unusedVariables false
set_option linter.unusedSimpArgs false
set_option linter.unusedSectionVars false
section
set_option linter.unusedVariables false
namespace Go.Proofs.YtadbifpalpdocaaGreatDoor.Q
open Go.Lw Go.Gl Go.RowKit
theorem rrng_f (lo hi : Int) (V : View) : Fnc Tryz.prog 58 [.agg #[iv lo, iv hi]] V fun v _ => v = .bool (rngB lo hi) := by
 refine zT Tryz.func58 rfl Tryz.ntmps58 (Nat.le_of_ble_eq_true rfl) ?_
 intro w0 hw0
 refine At.nrm ?_
 refine At.zg (.n false 0 (.q 1 .done)) ?_
 refine AtT.kbox ?_
 intro b1
 refine AtT.zf ?_
 refine AtT.done ?_
 refine At.nrm ?_
 refine At.zg (.q 0 (.q 1 (.q 2 (.q 3 (.q 4 (.q 5 (.q 6 (.q 7 (.q 8 (.q 9 (.q 10 (.q 11 (.q 12 (.q 13 (.q 14 (.q 15 .done)))))))))))))))) ?_
 first | refine AtT.zk qG ?_ | with_reducible refine AtT.zm qG ?_ | refine AtT.zo qG ?_
 first | refine AtT.zu tk2 ?_ | refine AtT.zF tk2 ?_
 refine AtT.kgeq ?_
 refine AtT.ze ?_
 all_goals (first | refine AtT.kL 6 ?_ | refine AtT.zL (d := 6) rfl (fun hg6 => ?_) (fun hg6 => ?_) | refine AtT.zK (d := 6) rfl (fun hg6 => ?_) (fun hg6 => ?_))
 all_goals first|refine AtT.zi ?_|refine AtT.zh ?_|(first | refine AtT.zk qG ?_ | with_reducible refine AtT.zm qG ?_ | refine AtT.zo qG ?_)
 all_goals first|refine AtT.zi ?_|refine AtT.zh ?_|(first | refine AtT.zu tk2 ?_ | refine AtT.zF tk2 ?_)
 all_goals first|refine AtT.zi ?_|refine AtT.zh ?_|(first | refine AtT.zk jk ?_ | with_reducible refine AtT.zm jk ?_ | refine AtT.zo jk ?_)
 all_goals first|refine AtT.zi ?_|refine AtT.zh ?_|(first | refine AtT.zu tk2 ?_ | refine AtT.zF tk2 ?_)
 all_goals first|refine AtT.zi ?_|refine AtT.zh ?_|(refine AtT.kleq ?_)
 all_goals (refine AtT.zM ?_)
 all_goals (refine AtT.ze ?_)
 all_goals (first | refine AtT.kL 13 ?_ | refine AtT.zL (d := 13) rfl (fun hg13 => ?_) (fun hg13 => ?_) | refine AtT.zK (d := 13) rfl (fun hg13 => ?_) (fun hg13 => ?_))
 all_goals first|refine AtT.zi ?_|refine AtT.zh ?_|(first | refine AtT.zk jk ?_ | with_reducible refine AtT.zm jk ?_ | refine AtT.zo jk ?_)
 all_goals first|refine AtT.zi ?_|refine AtT.zh ?_|(first | refine AtT.zu tk2 ?_ | refine AtT.zF tk2 ?_)
 all_goals first|refine AtT.zi ?_|refine AtT.zh ?_|(refine AtT.kleq ?_)
 all_goals (refine AtT.zM ?_)
 all_goals (refine AtT.zf ?_)
 all_goals refine AtT.done ?_
 all_goals (refine At.nrm ?_)
 all_goals (refine At.zV rfl (.tmp rfl) ?_)
 all_goals (simp_all [rngB])
 all_goals (try omega)
theorem rday_f (d : Dy) (V : View) : Fnc Tryz.prog 26 [dyv d] V fun v _ => v = iv (dayE d) := by
 refine zT Tryz.func26 rfl Tryz.ntmps26 (Nat.le_of_ble_eq_true rfl) ?_
 intro w0 hw0
 refine At.nrm ?_
 refine At.zg (.n false 0 (.q 1 .done)) ?_
 refine AtT.kbox ?_
 intro b1
 refine AtT.zf ?_
 refine AtT.done ?_
 refine At.nrm ?_
 by_cases h1 : rngB d.lo d.hi = true
 ·by_cases h2 : d.pot < 1
  ·refine At.zg (.q 0 (.q 1 (.n false 2 (.q 3 (.q 4 (.q 5 (.q 6 (.q 7 (.q 8 (.q 9 (.q 10 (.q 11 (.q 12 (.q 13 .done)))))))))))))) ?_
   first | refine AtT.zk ji ?_ | with_reducible refine AtT.zm ji ?_ | refine AtT.zo ji ?_
   first | refine AtT.zx jX ?_ | refine AtT.zD jX ?_ | refine AtT.zw jX ?_
   refine AtT.zC rfl rfl ok58 (rrng_f d.lo d.hi _) ?_
   rintro _ rfl; rw [h1]
   refine AtT.knot ?_
   refine AtT.ze ?_
   all_goals (first | refine AtT.kL 7 ?_ | refine AtT.zL (d := 7) rfl (fun hg7 => ?_) (fun hg7 => ?_) | refine AtT.zK (d := 7) rfl (fun hg7 => ?_) (fun hg7 => ?_))
   all_goals first|refine AtT.zi ?_|refine AtT.zh ?_|(first | refine AtT.zk qx ?_ | with_reducible refine AtT.zm qx ?_ | refine AtT.zo qx ?_)
   all_goals first|refine AtT.zi ?_|refine AtT.zh ?_|(first | refine AtT.zu tk2 ?_ | refine AtT.zF tk2 ?_)
   all_goals first|refine AtT.zi ?_|refine AtT.zh ?_|(refine AtT.qW ?_)
   all_goals (refine AtT.setT (d := 10) rfl (h2) ?_)
   all_goals (refine AtT.zM ?_)
   all_goals (refine AtT.ze ?_)
   all_goals (first | refine AtT.kL 12 ?_ | refine AtT.zL (d := 12) rfl (fun hg12 => ?_) (fun hg12 => ?_) | refine AtT.zK (d := 12) rfl (fun hg12 => ?_) (fun hg12 => ?_))
   all_goals first|refine AtT.zi ?_|refine AtT.zh ?_|(first | refine AtT.zk qx ?_ | with_reducible refine AtT.zm qx ?_ | refine AtT.zo qx ?_)
   all_goals first|refine AtT.zi ?_|refine AtT.zh ?_|(first | refine AtT.zu tk2 ?_ | refine AtT.zF tk2 ?_)
   all_goals first|refine AtT.zi ?_|refine AtT.zh ?_|(refine AtT.jv ?_)
   all_goals (refine AtT.zM ?_)
   all_goals refine AtT.done ?_
   all_goals (refine At.nrm ?_)
   refine At.qQ rfl rfl ?_
   refine At.nrm ?_
   refine At.zg (.q 0 .done) ?_
   refine AtT.zf ?_
   refine AtT.done ?_
   refine At.nrm ?_
   refine At.zV rfl (.tmp rfl) ?_
   simp [dayE, dayB, h1, potB]; omega
  ·by_cases h3 : 200 < d.pot
   ·refine At.zg (.q 0 (.q 1 (.n false 2 (.q 3 (.q 4 (.q 5 (.q 6 (.q 7 (.q 8 (.q 9 (.q 10 (.q 11 (.q 12 (.q 13 .done)))))))))))))) ?_
    first | refine AtT.zk ji ?_ | with_reducible refine AtT.zm ji ?_ | refine AtT.zo ji ?_
    first | refine AtT.zx jX ?_ | refine AtT.zD jX ?_ | refine AtT.zw jX ?_
    refine AtT.zC rfl rfl ok58 (rrng_f d.lo d.hi _) ?_
    rintro _ rfl; rw [h1]
    refine AtT.knot ?_
    refine AtT.ze ?_
    all_goals (first | refine AtT.kL 7 ?_ | refine AtT.zL (d := 7) rfl (fun hg7 => ?_) (fun hg7 => ?_) | refine AtT.zK (d := 7) rfl (fun hg7 => ?_) (fun hg7 => ?_))
    all_goals first|refine AtT.zi ?_|refine AtT.zh ?_|(first | refine AtT.zk qx ?_ | with_reducible refine AtT.zm qx ?_ | refine AtT.zo qx ?_)
    all_goals first|refine AtT.zi ?_|refine AtT.zh ?_|(first | refine AtT.zu tk2 ?_ | refine AtT.zF tk2 ?_)
    all_goals first|refine AtT.zi ?_|refine AtT.zh ?_|(refine AtT.qW ?_)
    all_goals (refine AtT.jA (d := 10) rfl (h2) ?_)
    all_goals (refine AtT.zM ?_)
    all_goals (refine AtT.ze ?_)
    all_goals (first | refine AtT.kL 12 ?_ | refine AtT.zL (d := 12) rfl (fun hg12 => ?_) (fun hg12 => ?_) | refine AtT.zK (d := 12) rfl (fun hg12 => ?_) (fun hg12 => ?_))
    all_goals first|refine AtT.zi ?_|refine AtT.zh ?_|(first | refine AtT.zk qx ?_ | with_reducible refine AtT.zm qx ?_ | refine AtT.zo qx ?_)
    all_goals first|refine AtT.zi ?_|refine AtT.zh ?_|(first | refine AtT.zu tk2 ?_ | refine AtT.zF tk2 ?_)
    all_goals first|refine AtT.zi ?_|refine AtT.zh ?_|(refine AtT.jv ?_)
    all_goals (refine AtT.setT (d := 15) rfl (h3) ?_)
    all_goals (refine AtT.zM ?_)
    all_goals refine AtT.done ?_
    all_goals (refine At.nrm ?_)
    refine At.qQ rfl rfl ?_
    refine At.nrm ?_
    refine At.zg (.q 0 .done) ?_
    refine AtT.zf ?_
    refine AtT.done ?_
    refine At.nrm ?_
    refine At.zV rfl (.tmp rfl) ?_
    simp [dayE, dayB, h1, potB]; omega
   ·refine At.zg (.q 0 (.q 1 (.n false 2 (.q 3 (.q 4 (.q 5 (.q 6 (.q 7 (.q 8 (.q 9 (.q 10 (.q 11 (.q 12 (.q 13 .done)))))))))))))) ?_
    first | refine AtT.zk ji ?_ | with_reducible refine AtT.zm ji ?_ | refine AtT.zo ji ?_
    first | refine AtT.zx jX ?_ | refine AtT.zD jX ?_ | refine AtT.zw jX ?_
    refine AtT.zC rfl rfl ok58 (rrng_f d.lo d.hi _) ?_
    rintro _ rfl; rw [h1]
    refine AtT.knot ?_
    refine AtT.ze ?_
    all_goals (first | refine AtT.kL 7 ?_ | refine AtT.zL (d := 7) rfl (fun hg7 => ?_) (fun hg7 => ?_) | refine AtT.zK (d := 7) rfl (fun hg7 => ?_) (fun hg7 => ?_))
    all_goals first|refine AtT.zi ?_|refine AtT.zh ?_|(first | refine AtT.zk qx ?_ | with_reducible refine AtT.zm qx ?_ | refine AtT.zo qx ?_)
    all_goals first|refine AtT.zi ?_|refine AtT.zh ?_|(first | refine AtT.zu tk2 ?_ | refine AtT.zF tk2 ?_)
    all_goals first|refine AtT.zi ?_|refine AtT.zh ?_|(refine AtT.qW ?_)
    all_goals (refine AtT.jA (d := 10) rfl (h2) ?_)
    all_goals (refine AtT.zM ?_)
    all_goals (refine AtT.ze ?_)
    all_goals (first | refine AtT.kL 12 ?_ | refine AtT.zL (d := 12) rfl (fun hg12 => ?_) (fun hg12 => ?_) | refine AtT.zK (d := 12) rfl (fun hg12 => ?_) (fun hg12 => ?_))
    all_goals first|refine AtT.zi ?_|refine AtT.zh ?_|(first | refine AtT.zk qx ?_ | with_reducible refine AtT.zm qx ?_ | refine AtT.zo qx ?_)
    all_goals first|refine AtT.zi ?_|refine AtT.zh ?_|(first | refine AtT.zu tk2 ?_ | refine AtT.zF tk2 ?_)
    all_goals first|refine AtT.zi ?_|refine AtT.zh ?_|(refine AtT.jv ?_)
    all_goals (refine AtT.jA (d := 15) rfl (h3) ?_)
    all_goals (refine AtT.zM ?_)
    all_goals refine AtT.done ?_
    all_goals (refine At.nrm ?_)
    refine At.qB rfl rfl ?_
    refine At.nrm ?_
    refine At.zg (.q 0 .done) ?_
    refine AtT.zf ?_
    refine AtT.done ?_
    refine At.nrm ?_
    refine At.zV rfl (.tmp rfl) ?_
    simp [dayE, dayB, h1, potB]; omega
 ·have h1' : rngB d.lo d.hi = false := by simpa using h1
  refine At.zg (.q 0 (.q 1 (.n false 2 (.q 3 (.q 4 (.q 5 (.q 6 (.q 7 (.q 8 (.q 9 (.q 10 (.q 11 (.q 12 (.q 13 .done)))))))))))))) ?_
  first | refine AtT.zk ji ?_ | with_reducible refine AtT.zm ji ?_ | refine AtT.zo ji ?_
  first | refine AtT.zx jX ?_ | refine AtT.zD jX ?_ | refine AtT.zw jX ?_
  refine AtT.zC rfl rfl ok58 (rrng_f d.lo d.hi _) ?_
  rintro _ rfl; rw [h1']
  refine AtT.knot ?_
  refine AtT.ze ?_
  all_goals (first | refine AtT.kL 7 ?_ | refine AtT.zL (d := 7) rfl (fun hg7 => ?_) (fun hg7 => ?_) | refine AtT.zK (d := 7) rfl (fun hg7 => ?_) (fun hg7 => ?_))
  all_goals first|refine AtT.zi ?_|refine AtT.zh ?_|(first | refine AtT.zk qx ?_ | with_reducible refine AtT.zm qx ?_ | refine AtT.zo qx ?_)
  all_goals first|refine AtT.zi ?_|refine AtT.zh ?_|(first | refine AtT.zu tk2 ?_ | refine AtT.zF tk2 ?_)
  all_goals first|refine AtT.zi ?_|refine AtT.zh ?_|(refine AtT.qW ?_)
  all_goals (refine AtT.zM ?_)
  all_goals (refine AtT.ze ?_)
  all_goals (first | refine AtT.kL 12 ?_ | refine AtT.zL (d := 12) rfl (fun hg12 => ?_) (fun hg12 => ?_) | refine AtT.zK (d := 12) rfl (fun hg12 => ?_) (fun hg12 => ?_))
  all_goals first|refine AtT.zi ?_|refine AtT.zh ?_|(first | refine AtT.zk qx ?_ | with_reducible refine AtT.zm qx ?_ | refine AtT.zo qx ?_)
  all_goals first|refine AtT.zi ?_|refine AtT.zh ?_|(first | refine AtT.zu tk2 ?_ | refine AtT.zF tk2 ?_)
  all_goals first|refine AtT.zi ?_|refine AtT.zh ?_|(refine AtT.jv ?_)
  all_goals (refine AtT.zM ?_)
  all_goals refine AtT.done ?_
  all_goals (refine At.nrm ?_)
  refine At.qQ rfl rfl ?_
  refine At.nrm ?_
  refine At.zg (.q 0 .done) ?_
  refine AtT.zf ?_
  refine AtT.done ?_
  refine At.nrm ?_
  refine At.zV rfl (.tmp rfl) ?_
  simp [dayE, dayB, h1']
theorem pn_rng {V : View} {p : Addr} {x : Pn} (h : Cells V p (pne x)) : Cells V (p.add 0) [iv x.lo, iv x.hi] := h.at (k := 0) fun j u hj => by
 match j, hj with
 | 0, hj => exact hj
 | 1, hj => exact hj
theorem rpan_f (ps : List Pn) (V : View) (v : Value) (hs : Sl V pne 3 v ps) : Fnc Tryz.prog 27 [v] V fun r _ => r = iv (panE ps) := by
 have hs' := hs
 obtain ⟨a, c, rfl, h1, h2, _⟩ := id hs
 clear h1 h2
 refine zT Tryz.func27 rfl Tryz.ntmps27 (Nat.le_of_ble_eq_true rfl) ?_
 intro w0 hw0
 refine At.nrm ?_
 refine At.zg (.q 0 .done) ?_
 refine AtT.zf ?_
 refine AtT.done ?_
 refine At.nrm ?_
 refine At.zg (.q 0 (.q 1 (.q 2 .done))) ?_
 refine AtT.ze ?_
 first | refine AtT.zP Tryz.underlying26 ?_ | refine AtT.zQ Tryz.underlying26 ?_
 refine AtT.jv ?_
 refine AtT.done ?_
 refine At.nrm ?_
 refine At.zW rfl (fun hb => ?_) (fun hb => ?_)
 ·refine At.nrm ?_
  refine At.zg (.q 0 .done) ?_
  refine AtT.zf ?_
  refine AtT.done ?_
  refine At.nrm ?_
  refine At.zV rfl (.tmp rfl) ?_
  rw [panE, if_pos (by omega)]
 have hb' : ¬ 10 < ps.length := by omega
 refine At.nrm ?_
 refine At.zg (.q 0 .done) ?_
 refine AtT.zf ?_
 refine AtT.done ?_
 refine At.nrm ?_
 refine At.lp (ι := Nat) (KS := fun k => [(0, .slice a ps.length c), (3, iv k)]) (OS := fun _ => []) (VS := fun k V' => V' = V ∧ k ≤ ps.length ∧ (ps.take k).any strayB = false) (μ := fun k => ps.length - k) 0 ?_ ?_ ?_ ?_
 ·exact ⟨rfl, rfl, trivial⟩
 ·exact Pt.zy
 ·exact ⟨rfl, Nat.zero_le _, rfl⟩
 ·rintro k V' ks' O' ⟨rfl, hkl, hany⟩ hk hO hl
  subst hk hO
  refine At.nrm ?_
  refine At.zg (.q 0 (.q 1 (.q 2 (.q 3 .done)))) ?_
  refine AtT.ze ?_
  refine AtT.ze ?_
  first | refine AtT.zP Tryz.underlying26 ?_ | refine AtT.zQ Tryz.underlying26 ?_
  refine AtT.qW ?_
  refine AtT.done ?_
  refine At.nrm ?_
  refine At.zW rfl (fun hp => ?_) (fun hp => ?_)
  ·obtain ⟨x, hx⟩ : ∃ x, ps[k]? = some x := ⟨_, List.getElem?_eq_getElem (by omega)⟩
   have hnx := take_snoc' hx
   refine At.nrm ?_
   by_cases hr' : rngB x.lo x.hi = false
   ·have hr := hr'
    refine At.zg (.q 0 (.q 1 (.q 2 (.q 3 (.q 4 (.n false 5 (.q 6 (.q 7 (.q 8 (.q 9 (.q 10 (.q 11 (.q 12 (.q 13 (.q 14 (.q 15 (.q 16 (.q 17 (.q 18 (.q 19 (.q 20 (.q 21 (.q 22 .done))))))))))))))))))))))) ?_
    refine AtT.ze ?_
    refine AtT.ze ?_
    refine AtT.qK Tryz.underlying26 tk100 ?_
    intro p15 e15 he15 hc15
    obtain rfl : e15 = x := by have : ps[k]? = some e15 := (by simpa using he15); rw [hx] at this; simpa using this.symm
    have hc17 := pn_rng hc15
    first | refine AtT.zk qM ?_ | with_reducible refine AtT.zm qM ?_ | refine AtT.zo qM ?_
    first | refine AtT.zx jX ?_ | refine AtT.zD jX ?_ | refine AtT.zw jX ?_
    refine AtT.zC rfl rfl ok58 (rrng_f _ _ _) ?_
    rintro _ rfl; rw [hr]
    refine AtT.knot ?_
    refine AtT.ze ?_
    all_goals (first | refine AtT.kL 20 ?_ | refine AtT.zL (d := 20) rfl (fun hg20 => ?_) (fun hg20 => ?_) | refine AtT.zK (d := 20) rfl (fun hg20 => ?_) (fun hg20 => ?_))
    all_goals first|refine AtT.zi ?_|refine AtT.zh ?_|(refine AtT.ze ?_)
    all_goals first|refine AtT.zi ?_|refine AtT.zh ?_|(refine AtT.ze ?_)
    all_goals first|refine AtT.zi ?_|refine AtT.zh ?_|(refine AtT.qK Tryz.underlying26 tk100 ?_) ; (intro p23 e23 he23 hc23)
    all_goals first|refine AtT.zi ?_|refine AtT.zh ?_|(first | refine AtT.zk zZ ?_ | with_reducible refine AtT.zm zZ ?_ | refine AtT.zo zZ ?_)
    all_goals first|refine AtT.zi ?_|refine AtT.zh ?_|(first | refine AtT.zu tk2 ?_ | refine AtT.zF tk2 ?_)
    all_goals first|refine AtT.zi ?_|refine AtT.zh ?_|(refine AtT.qW ?_)
    all_goals (refine AtT.zM ?_)
    all_goals (refine AtT.ze ?_)
    all_goals (first | refine AtT.kL 28 ?_ | refine AtT.zL (d := 28) rfl (fun hg28 => ?_) (fun hg28 => ?_) | refine AtT.zK (d := 28) rfl (fun hg28 => ?_) (fun hg28 => ?_))
    all_goals first|refine AtT.zi ?_|refine AtT.zh ?_|(refine AtT.ze ?_)
    all_goals first|refine AtT.zi ?_|refine AtT.zh ?_|(refine AtT.ze ?_)
    all_goals first|refine AtT.zi ?_|refine AtT.zh ?_|(refine AtT.qK Tryz.underlying26 tk100 ?_) ; (intro p31 e31 he31 hc31)
    all_goals first|refine AtT.zi ?_|refine AtT.zh ?_|(first | refine AtT.zk zZ ?_ | with_reducible refine AtT.zm zZ ?_ | refine AtT.zo zZ ?_)
    all_goals first|refine AtT.zi ?_|refine AtT.zh ?_|(first | refine AtT.zu tk2 ?_ | refine AtT.zF tk2 ?_)
    all_goals first|refine AtT.zi ?_|refine AtT.zh ?_|(refine AtT.jv ?_)
    all_goals (refine AtT.zM ?_)
    all_goals refine AtT.done ?_
    all_goals (refine At.nrm ?_)
    refine At.qQ rfl rfl ?_
    refine At.nrm ?_
    refine At.zg (.q 0 .done) ?_
    refine AtT.zf ?_
    refine AtT.done ?_
    refine At.nrm ?_
    refine At.zV rfl (.tmp rfl) ?_
    rw [panE, if_neg hb', if_pos (List.any_eq_true.2 ⟨_, List.mem_of_getElem? hx, by simp [strayB, potB, hr]; try omega⟩)]
   have hr : rngB x.lo x.hi = true := by simpa using hr'
   by_cases h1 : x.sp < 1
   ·skip
    refine At.zg (.q 0 (.q 1 (.q 2 (.q 3 (.q 4 (.n false 5 (.q 6 (.q 7 (.q 8 (.q 9 (.q 10 (.q 11 (.q 12 (.q 13 (.q 14 (.q 15 (.q 16 (.q 17 (.q 18 (.q 19 (.q 20 (.q 21 (.q 22 .done))))))))))))))))))))))) ?_
    refine AtT.ze ?_
    refine AtT.ze ?_
    refine AtT.qK Tryz.underlying26 tk100 ?_
    intro p15 e15 he15 hc15
    obtain rfl : e15 = x := by have : ps[k]? = some e15 := (by simpa using he15); rw [hx] at this; simpa using this.symm
    have hc17 := pn_rng hc15
    first | refine AtT.zk qM ?_ | with_reducible refine AtT.zm qM ?_ | refine AtT.zo qM ?_
    first | refine AtT.zx jX ?_ | refine AtT.zD jX ?_ | refine AtT.zw jX ?_
    refine AtT.zC rfl rfl ok58 (rrng_f _ _ _) ?_
    rintro _ rfl; rw [hr]
    refine AtT.knot ?_
    refine AtT.ze ?_
    all_goals (first | refine AtT.kL 20 ?_ | refine AtT.zL (d := 20) rfl (fun hg20 => ?_) (fun hg20 => ?_) | refine AtT.zK (d := 20) rfl (fun hg20 => ?_) (fun hg20 => ?_))
    all_goals first|refine AtT.zi ?_|refine AtT.zh ?_|(refine AtT.ze ?_)
    all_goals first|refine AtT.zi ?_|refine AtT.zh ?_|(refine AtT.ze ?_)
    all_goals first|refine AtT.zi ?_|refine AtT.zh ?_|(refine AtT.qK Tryz.underlying26 tk100 ?_) ; (intro p23 e23 he23 hc23)
    all_goals (obtain rfl : e23 = e15 := by have : ps[k]? = some e23 := (by simpa using he23); rw [hx] at this; simpa using this.symm)
    all_goals first|refine AtT.zi ?_|refine AtT.zh ?_|(first | refine AtT.zk zZ ?_ | with_reducible refine AtT.zm zZ ?_ | refine AtT.zo zZ ?_)
    all_goals first|refine AtT.zi ?_|refine AtT.zh ?_|(first | refine AtT.zu tk2 ?_ | refine AtT.zF tk2 ?_)
    all_goals first|refine AtT.zi ?_|refine AtT.zh ?_|(refine AtT.qW ?_)
    all_goals (refine AtT.setT (d := 26) rfl (h1) ?_)
    all_goals (refine AtT.zM ?_)
    all_goals (refine AtT.ze ?_)
    all_goals (first | refine AtT.kL 28 ?_ | refine AtT.zL (d := 28) rfl (fun hg28 => ?_) (fun hg28 => ?_) | refine AtT.zK (d := 28) rfl (fun hg28 => ?_) (fun hg28 => ?_))
    all_goals first|refine AtT.zi ?_|refine AtT.zh ?_|(refine AtT.ze ?_)
    all_goals first|refine AtT.zi ?_|refine AtT.zh ?_|(refine AtT.ze ?_)
    all_goals first|refine AtT.zi ?_|refine AtT.zh ?_|(refine AtT.qK Tryz.underlying26 tk100 ?_) ; (intro p31 e31 he31 hc31)
    all_goals first|refine AtT.zi ?_|refine AtT.zh ?_|(first | refine AtT.zk zZ ?_ | with_reducible refine AtT.zm zZ ?_ | refine AtT.zo zZ ?_)
    all_goals first|refine AtT.zi ?_|refine AtT.zh ?_|(first | refine AtT.zu tk2 ?_ | refine AtT.zF tk2 ?_)
    all_goals first|refine AtT.zi ?_|refine AtT.zh ?_|(refine AtT.jv ?_)
    all_goals (refine AtT.zM ?_)
    all_goals refine AtT.done ?_
    all_goals (refine At.nrm ?_)
    refine At.qQ rfl rfl ?_
    refine At.nrm ?_
    refine At.zg (.q 0 .done) ?_
    refine AtT.zf ?_
    refine AtT.done ?_
    refine At.nrm ?_
    refine At.zV rfl (.tmp rfl) ?_
    rw [panE, if_neg hb', if_pos (List.any_eq_true.2 ⟨_, List.mem_of_getElem? hx, by simp [strayB, potB, hr]; try omega⟩)]
   by_cases h2 : 200 < x.sp
   ·skip
    refine At.zg (.q 0 (.q 1 (.q 2 (.q 3 (.q 4 (.n false 5 (.q 6 (.q 7 (.q 8 (.q 9 (.q 10 (.q 11 (.q 12 (.q 13 (.q 14 (.q 15 (.q 16 (.q 17 (.q 18 (.q 19 (.q 20 (.q 21 (.q 22 .done))))))))))))))))))))))) ?_
    refine AtT.ze ?_
    refine AtT.ze ?_
    refine AtT.qK Tryz.underlying26 tk100 ?_
    intro p15 e15 he15 hc15
    obtain rfl : e15 = x := by have : ps[k]? = some e15 := (by simpa using he15); rw [hx] at this; simpa using this.symm
    have hc17 := pn_rng hc15
    first | refine AtT.zk qM ?_ | with_reducible refine AtT.zm qM ?_ | refine AtT.zo qM ?_
    first | refine AtT.zx jX ?_ | refine AtT.zD jX ?_ | refine AtT.zw jX ?_
    refine AtT.zC rfl rfl ok58 (rrng_f _ _ _) ?_
    rintro _ rfl; rw [hr]
    refine AtT.knot ?_
    refine AtT.ze ?_
    all_goals (first | refine AtT.kL 20 ?_ | refine AtT.zL (d := 20) rfl (fun hg20 => ?_) (fun hg20 => ?_) | refine AtT.zK (d := 20) rfl (fun hg20 => ?_) (fun hg20 => ?_))
    all_goals first|refine AtT.zi ?_|refine AtT.zh ?_|(refine AtT.ze ?_)
    all_goals first|refine AtT.zi ?_|refine AtT.zh ?_|(refine AtT.ze ?_)
    all_goals first|refine AtT.zi ?_|refine AtT.zh ?_|(refine AtT.qK Tryz.underlying26 tk100 ?_) ; (intro p23 e23 he23 hc23)
    all_goals (obtain rfl : e23 = e15 := by have : ps[k]? = some e23 := (by simpa using he23); rw [hx] at this; simpa using this.symm)
    all_goals first|refine AtT.zi ?_|refine AtT.zh ?_|(first | refine AtT.zk zZ ?_ | with_reducible refine AtT.zm zZ ?_ | refine AtT.zo zZ ?_)
    all_goals first|refine AtT.zi ?_|refine AtT.zh ?_|(first | refine AtT.zu tk2 ?_ | refine AtT.zF tk2 ?_)
    all_goals first|refine AtT.zi ?_|refine AtT.zh ?_|(refine AtT.qW ?_)
    all_goals (refine AtT.jA (d := 26) rfl (h1) ?_)
    all_goals (refine AtT.zM ?_)
    all_goals (refine AtT.ze ?_)
    all_goals (first | refine AtT.kL 28 ?_ | refine AtT.zL (d := 28) rfl (fun hg28 => ?_) (fun hg28 => ?_) | refine AtT.zK (d := 28) rfl (fun hg28 => ?_) (fun hg28 => ?_))
    all_goals first|refine AtT.zi ?_|refine AtT.zh ?_|(refine AtT.ze ?_)
    all_goals first|refine AtT.zi ?_|refine AtT.zh ?_|(refine AtT.ze ?_)
    all_goals first|refine AtT.zi ?_|refine AtT.zh ?_|(refine AtT.qK Tryz.underlying26 tk100 ?_) ; (intro p31 e31 he31 hc31)
    all_goals (obtain rfl : e31 = e23 := by have : ps[k]? = some e31 := (by simpa using he31); rw [hx] at this; simpa using this.symm)
    all_goals first|refine AtT.zi ?_|refine AtT.zh ?_|(first | refine AtT.zk zZ ?_ | with_reducible refine AtT.zm zZ ?_ | refine AtT.zo zZ ?_)
    all_goals first|refine AtT.zi ?_|refine AtT.zh ?_|(first | refine AtT.zu tk2 ?_ | refine AtT.zF tk2 ?_)
    all_goals first|refine AtT.zi ?_|refine AtT.zh ?_|(refine AtT.jv ?_)
    all_goals (refine AtT.setT (d := 34) rfl (h2) ?_)
    all_goals (refine AtT.zM ?_)
    all_goals refine AtT.done ?_
    all_goals (refine At.nrm ?_)
    refine At.qQ rfl rfl ?_
    refine At.nrm ?_
    refine At.zg (.q 0 .done) ?_
    refine AtT.zf ?_
    refine AtT.done ?_
    refine At.nrm ?_
    refine At.zV rfl (.tmp rfl) ?_
    rw [panE, if_neg hb', if_pos (List.any_eq_true.2 ⟨_, List.mem_of_getElem? hx, by simp [strayB, potB, hr]; try omega⟩)]
   ·skip
    refine At.zg (.q 0 (.q 1 (.q 2 (.q 3 (.q 4 (.n false 5 (.q 6 (.q 7 (.q 8 (.q 9 (.q 10 (.q 11 (.q 12 (.q 13 (.q 14 (.q 15 (.q 16 (.q 17 (.q 18 (.q 19 (.q 20 (.q 21 (.q 22 .done))))))))))))))))))))))) ?_
    refine AtT.ze ?_
    refine AtT.ze ?_
    refine AtT.qK Tryz.underlying26 tk100 ?_
    intro p15 e15 he15 hc15
    obtain rfl : e15 = x := by have : ps[k]? = some e15 := (by simpa using he15); rw [hx] at this; simpa using this.symm
    have hc17 := pn_rng hc15
    first | refine AtT.zk qM ?_ | with_reducible refine AtT.zm qM ?_ | refine AtT.zo qM ?_
    first | refine AtT.zx jX ?_ | refine AtT.zD jX ?_ | refine AtT.zw jX ?_
    refine AtT.zC rfl rfl ok58 (rrng_f _ _ _) ?_
    rintro _ rfl; rw [hr]
    refine AtT.knot ?_
    refine AtT.ze ?_
    all_goals (first | refine AtT.kL 20 ?_ | refine AtT.zL (d := 20) rfl (fun hg20 => ?_) (fun hg20 => ?_) | refine AtT.zK (d := 20) rfl (fun hg20 => ?_) (fun hg20 => ?_))
    all_goals first|refine AtT.zi ?_|refine AtT.zh ?_|(refine AtT.ze ?_)
    all_goals first|refine AtT.zi ?_|refine AtT.zh ?_|(refine AtT.ze ?_)
    all_goals first|refine AtT.zi ?_|refine AtT.zh ?_|(refine AtT.qK Tryz.underlying26 tk100 ?_) ; (intro p23 e23 he23 hc23)
    all_goals (obtain rfl : e23 = e15 := by have : ps[k]? = some e23 := (by simpa using he23); rw [hx] at this; simpa using this.symm)
    all_goals first|refine AtT.zi ?_|refine AtT.zh ?_|(first | refine AtT.zk zZ ?_ | with_reducible refine AtT.zm zZ ?_ | refine AtT.zo zZ ?_)
    all_goals first|refine AtT.zi ?_|refine AtT.zh ?_|(first | refine AtT.zu tk2 ?_ | refine AtT.zF tk2 ?_)
    all_goals first|refine AtT.zi ?_|refine AtT.zh ?_|(refine AtT.qW ?_)
    all_goals (refine AtT.jA (d := 26) rfl (h1) ?_)
    all_goals (refine AtT.zM ?_)
    all_goals (refine AtT.ze ?_)
    all_goals (first | refine AtT.kL 28 ?_ | refine AtT.zL (d := 28) rfl (fun hg28 => ?_) (fun hg28 => ?_) | refine AtT.zK (d := 28) rfl (fun hg28 => ?_) (fun hg28 => ?_))
    all_goals first|refine AtT.zi ?_|refine AtT.zh ?_|(refine AtT.ze ?_)
    all_goals first|refine AtT.zi ?_|refine AtT.zh ?_|(refine AtT.ze ?_)
    all_goals first|refine AtT.zi ?_|refine AtT.zh ?_|(refine AtT.qK Tryz.underlying26 tk100 ?_) ; (intro p31 e31 he31 hc31)
    all_goals (obtain rfl : e31 = e23 := by have : ps[k]? = some e31 := (by simpa using he31); rw [hx] at this; simpa using this.symm)
    all_goals first|refine AtT.zi ?_|refine AtT.zh ?_|(first | refine AtT.zk zZ ?_ | with_reducible refine AtT.zm zZ ?_ | refine AtT.zo zZ ?_)
    all_goals first|refine AtT.zi ?_|refine AtT.zh ?_|(first | refine AtT.zu tk2 ?_ | refine AtT.zF tk2 ?_)
    all_goals first|refine AtT.zi ?_|refine AtT.zh ?_|(refine AtT.jv ?_)
    all_goals (refine AtT.jA (d := 34) rfl (h2) ?_)
    all_goals (refine AtT.zM ?_)
    all_goals refine AtT.done ?_
    all_goals (refine At.nrm ?_)
    refine At.qB rfl rfl ?_
    refine At.nrm ?_
    refine At.zg (.q 0 (.q 1 (.q 2 .done))) ?_
    refine AtT.ze ?_
    first | refine AtT.qo ?_ | refine AtT.zS ?_
    refine AtT.zf ?_
    refine AtT.done ?_
    refine At.nrm ?_
    refine At.round (k + 1) ?_ ?_ ?_ ?_
    ·show ps.length - (k + 1) < ps.length - k; omega
    ·refine ⟨rfl, by omega, ?_⟩
     rw [hnx, List.any_append, hany]; simp [strayB, potB, hr]; omega
    ·exact ⟨rfl, ivs (by omega), trivial⟩
    ·exact Pt.zy
  ·obtain rfl : k = ps.length := by omega
   rw [List.take_length] at hany
   refine At.nrm ?_
   refine At.zg (.q 0 .done) ?_
   refine AtT.zf ?_
   refine AtT.done ?_
   refine At.nrm ?_
   refine At.zV rfl (.tmp rfl) ?_
   rw [panE, if_neg hb', if_neg (by rw [hany]; simp)]
end Go.Proofs.YtadbifpalpdocaaGreatDoor.Q
end
section
set_option linter.unusedVariables false
namespace Go.Proofs.YtadbifpalpdocaaGreatDoor.Q
open Go.Lw Go.Gl Go.RowKit
theorem both_f (d : Dy) (ps : List Pn) (V : View) (v : Value) (hs : Sl V pne 3 v ps) : Fnc Tryz.prog 12 [dyv d, v] V fun r _ => r = iv (bothE d ps) := by
 refine zT Tryz.func12 rfl Tryz.ntmps12 (Nat.le_of_ble_eq_true rfl) ?_
 intro w0 hw0
 refine At.nrm ?_
 refine At.zg (.n false 0 (.q 1 .done)) ?_
 refine AtT.kbox ?_
 intro b2
 refine AtT.zf ?_
 refine AtT.done ?_
 refine At.nrm ?_
 refine At.zg (.q 0 (.n false 1 (.q 2 .done))) ?_
 first | refine AtT.zx qp ?_ | refine AtT.zD qp ?_ | refine AtT.zw qp ?_
 refine AtT.zC rfl rfl ok26 (rday_f d _) ?_
 rintro _ rfl
 refine AtT.kneI ?_
 refine AtT.done ?_
 refine At.nrm ?_
 refine At.zW rfl (fun hb => ?_) (fun hb => ?_)
 ·refine At.nrm ?_
  refine At.zg (.q 0 (.n false 1 (.q 2 .done))) ?_
  first | refine AtT.zx qp ?_ | refine AtT.zD qp ?_ | refine AtT.zw qp ?_
  refine AtT.zC rfl rfl ok26 (rday_f d _) ?_
  rintro _ rfl
  refine AtT.zf ?_
  refine AtT.done ?_
  refine At.nrm ?_
  refine At.zV rfl (.tmp rfl) ?_
  rw [bothE, if_pos hb]
 ·refine At.nrm ?_
  refine At.zg (.q 0 (.n false 1 (.q 2 .done))) ?_
  refine AtT.ze ?_
  refine AtT.zC rfl rfl ok27 (rpan_f ps _ _ hs) ?_
  rintro _ rfl
  refine AtT.zf ?_
  refine AtT.done ?_
  refine At.nrm ?_
  refine At.zV rfl (.tmp rfl) ?_
  rw [bothE, if_neg hb]
theorem timeOf_f (p : Pn) (sure : Bool) (V : View) : Fnc Tryz.prog 59 [pnv p, .bool sure] V fun r _ => r = iv (timeOf p sure) := by
 refine zT Tryz.func59 rfl Tryz.ntmps59 (Nat.le_of_ble_eq_true rfl) ?_
 intro w0 hw0
 refine At.nrm ?_
 refine At.zg (.n false 0 (.q 1 .done)) ?_
 refine AtT.kbox ?_
 intro b2
 refine AtT.zf ?_
 refine AtT.done ?_
 refine At.nrm ?_
 refine At.zg (.q 0 .done) ?_
 refine AtT.ze ?_
 refine AtT.done ?_
 refine At.nrm ?_
 refine At.cond rfl (fun hm => ?_) (fun hm => ?_)
 ·subst hm
  refine At.nrm ?_
  refine At.zg (.q 0 (.q 1 (.q 2 (.q 3 .done)))) ?_
  first | refine AtT.zk qM ?_ | with_reducible refine AtT.zm qM ?_ | refine AtT.zo qM ?_
  first | refine AtT.zk jk ?_ | with_reducible refine AtT.zm jk ?_ | refine AtT.zo jk ?_
  first | refine AtT.zu tk2 ?_ | refine AtT.zF tk2 ?_
  refine AtT.zf ?_
  refine AtT.done ?_
  refine At.nrm ?_
  exact At.zV rfl (.tmp rfl) rfl
 ·subst hm
  refine At.nrm ?_
  refine At.zg (.q 0 (.q 1 (.q 2 (.q 3 .done)))) ?_
  first | refine AtT.zk qM ?_ | with_reducible refine AtT.zm qM ?_ | refine AtT.zo qM ?_
  first | refine AtT.zk qG ?_ | with_reducible refine AtT.zm qG ?_ | refine AtT.zo qG ?_
  first | refine AtT.zu tk2 ?_ | refine AtT.zF tk2 ?_
  refine AtT.zf ?_
  refine AtT.done ?_
  refine At.nrm ?_
  exact At.zV rfl (.tmp rfl) rfl
theorem worksOf_f (d : Dy) (sure : Bool) (V : View) : Fnc Tryz.prog 29 [dyv d, .bool sure] V fun r _ => r = iv (worksOf d sure) := by
 refine zT Tryz.func29 rfl Tryz.ntmps29 (Nat.le_of_ble_eq_true rfl) ?_
 intro w0 hw0
 refine At.nrm ?_
 refine At.zg (.n false 0 (.q 1 .done)) ?_
 refine AtT.kbox ?_
 intro b2
 refine AtT.zf ?_
 refine AtT.done ?_
 refine At.nrm ?_
 refine At.zg (.q 0 .done) ?_
 refine AtT.ze ?_
 refine AtT.done ?_
 refine At.nrm ?_
 refine At.cond rfl (fun hm => ?_) (fun hm => ?_)
 ·subst hm
  refine At.nrm ?_
  refine At.zg (.q 0 (.q 1 (.q 2 (.q 3 .done)))) ?_
  first | refine AtT.zk ji ?_ | with_reducible refine AtT.zm ji ?_ | refine AtT.zo ji ?_
  first | refine AtT.zk qG ?_ | with_reducible refine AtT.zm qG ?_ | refine AtT.zo qG ?_
  first | refine AtT.zu tk2 ?_ | refine AtT.zF tk2 ?_
  refine AtT.zf ?_
  refine AtT.done ?_
  refine At.nrm ?_
  exact At.zV rfl (.tmp rfl) rfl
 ·subst hm
  refine At.nrm ?_
  refine At.zg (.q 0 (.q 1 (.q 2 (.q 3 .done)))) ?_
  first | refine AtT.zk ji ?_ | with_reducible refine AtT.zm ji ?_ | refine AtT.zo ji ?_
  first | refine AtT.zk jk ?_ | with_reducible refine AtT.zm jk ?_ | refine AtT.zo jk ?_
  first | refine AtT.zu tk2 ?_ | refine AtT.zF tk2 ?_
  refine AtT.zf ?_
  refine AtT.done ?_
  refine At.nrm ?_
  exact At.zV rfl (.tmp rfl) rfl
def BnV (V : View) (p : Addr) (B : Bn) : Prop := ∃ a c, Cells V p [iv B.w, iv B.p, .slice a B.each.length c] ∧ Sl V sme 2 (.slice a B.each.length c) B.each
theorem BnV.le {V V' : View} {p : Addr} {B : Bn} (h : BnV V p B) (hl : Le V V') : BnV V' p B := by
 obtain ⟨a, c, h1, h2⟩ := h
 exact ⟨a, c, h1.le hl, h2.le hl⟩
theorem BnV.each {V : View} {p : Addr} {B : Bn} (h : BnV V p B) : ∃ a c, Cells V p [iv B.w, iv B.p, .slice a B.each.length c] ∧ Sl V sme 2 (.slice a B.each.length c) B.each := h
end Go.Proofs.YtadbifpalpdocaaGreatDoor.Q
end
section
set_option linter.unusedVariables false
namespace Go.Proofs.YtadbifpalpdocaaGreatDoor.Q
open Go.Lw Go.Gl Go.RowKit
def InB (B : Bn) (l : List Int) : Prop := ∀ i ∈ l, 0 ≤ i ∧ i < (B.each.length : Int)
end Go.Proofs.YtadbifpalpdocaaGreatDoor.Q
end
section
set_option linter.unusedVariables false
namespace Go.Proofs.YtadbifpalpdocaaGreatDoor.Q
open Go.Lw Go.Gl Go.RowKit
theorem each_bn {d : Dy} {ps : List Pn} {sure : Bool} {i : Int} {q : Pn} (h : ps[i.toNat]? = some q) : jP (bn d ps sure) i = smOf sure q := by
 simp [jP, bn, List.getD, h]
theorem sums_f (d : Dy) (ps : List Pn) (hk : Ok d ps) (sure : Bool) (l : List Int) (hl : InB (bn d ps sure) l) (hlen : l.length ≤ 100) (V : View) (v vl : Value) (hs : Sl V pne 3 v ps) (hv : SlI V vl l) :
  Fnc Tryz.prog 28 [v, .bool sure, vl] V fun r _ => r = .tuple #[iv (jr (bn d ps sure) l).t, iv (jr (bn d ps sure) l).g] := by
 have hB := bn_ok hk sure
 have hn10 := hk.n10
 have hbl := bn_len d ps sure
 obtain ⟨a, c, rfl, k1, k2, _⟩ := id hs
 obtain ⟨al, cl, rfl, k3, k4, _⟩ := id hv
 clear k1 k2 k3 k4
 refine zT Tryz.func28 rfl Tryz.ntmps28 (Nat.le_of_ble_eq_true rfl) ?_
 intro w0 hw0
 refine At.nrm ?_
 refine At.zg (.q 0 (.q 1 .done)) ?_
 refine AtT.zf ?_
 refine AtT.zf ?_
 refine AtT.done ?_
 refine At.nrm ?_
 refine At.zg (.q 0 (.q 1 .done)) ?_
 refine AtT.zf ?_
 refine AtT.zf ?_
 refine AtT.done ?_
 refine At.nrm ?_
 refine At.zg (.q 0 .done) ?_
 refine AtT.zf ?_
 refine AtT.done ?_
 refine At.nrm ?_
 refine At.lp (ι := Nat) (KS := fun k => [(0, .slice a ps.length c), (1, .bool sure), (2, .slice al l.length cl), (8, iv (jr (bn d ps sure) (l.take k)).t), (9, iv (jr (bn d ps sure) (l.take k)).g), (10, iv k)]) (OS := fun _ => [])
  (VS := fun k V' => V' = V ∧ k ≤ l.length) (μ := fun k => l.length - k) 0 ?_ ?_ ?_ ?_
 ·exact ⟨rfl, rfl, rfl, rfl, rfl, rfl, trivial⟩
 ·exact Pt.zy
 ·exact ⟨rfl, Nat.zero_le _⟩
 ·rintro k V' ks' O' ⟨rfl, hkl⟩ hk2 hO hl2
  subst hk2 hO
  refine At.nrm ?_
  refine At.zg (.q 0 (.q 1 (.q 2 (.q 3 .done)))) ?_
  refine AtT.ze ?_
  refine AtT.ze ?_
  first | refine AtT.zP Tryz.underlying31 ?_ | refine AtT.zQ Tryz.underlying31 ?_
  refine AtT.qW ?_
  refine AtT.done ?_
  refine At.nrm ?_
  refine At.zW rfl (fun hp => ?_) (fun hp => ?_)
  ·obtain ⟨x, hx⟩ : ∃ x, l[k]? = some x := ⟨_, List.getElem?_eq_getElem (by omega)⟩
   have hxb := hl x (List.mem_of_getElem? hx)
   have hsb := sumL_bd hB (l.take k)
   have hxe := eachP_bd hB x
   obtain ⟨q, hq⟩ : ∃ q, ps[x.toNat]? = some q := ⟨_, List.getElem?_eq_getElem (by omega)⟩
   rw [each_bn hq] at hxe
   have hx1 : 0 ≤ timeOf q sure ∧ timeOf q sure ≤ 240 := ⟨hxe.1, hxe.2.1⟩
   have hx2 : 0 ≤ q.sp ∧ q.sp ≤ 200 := ⟨hxe.2.2.1, hxe.2.2.2⟩
   rw [List.length_take] at hsb
   have hnx : jr (bn d ps sure) (l.take (k + 1)) = (jr (bn d ps sure) (l.take k)).and (smOf sure q) := by rw [take_snoc' hx, sumL_snoc, each_bn hq]
   refine At.nrm ?_
   refine At.zg (.q 0 (.q 1 (.q 2 (.q 3 (.q 4 (.q 5 (.q 6 (.q 7 (.q 8 (.n false 9 (.q 10 (.q 11 .done)))))))))))) ?_
   refine AtT.ze ?_
   refine AtT.ze ?_
   refine AtT.ze ?_
   refine AtT.ze ?_
   refine AtT.qK Tryz.underlying31 tk3 ?_
   intro p21 e21 he21 hc21
   obtain rfl : e21 = x := by have : l[k]? = some e21 := (by simpa using he21); rw [hx] at this; simpa using this.symm
   first | refine AtT.zu tk3 ?_ | refine AtT.zF tk3 ?_
   refine AtT.qK Tryz.underlying26 tk100 ?_
   intro p23 e23 he23 hc23
   obtain rfl : e23 = q := by rw [hq] at he23; simpa using he23.symm
   first | refine AtT.zx tk100 ?_ | refine AtT.zD tk100 ?_ | refine AtT.zw tk100 ?_
   refine AtT.ze ?_
   refine AtT.zC rfl rfl ok59 (timeOf_f e23 sure _) ?_
   rintro _ rfl
   first | refine AtT.qo ?_ | refine AtT.zS ?_
   refine AtT.zf ?_
   refine AtT.done ?_
   refine At.nrm ?_
   refine At.zg (.q 0 (.q 1 (.q 2 (.q 3 (.q 4 (.q 5 (.q 6 (.q 7 (.q 8 (.q 9 (.q 10 .done))))))))))) ?_
   refine AtT.ze ?_
   refine AtT.ze ?_
   refine AtT.ze ?_
   refine AtT.ze ?_
   refine AtT.qK Tryz.underlying31 tk3 ?_
   intro p32 e32 he32 hc32
   obtain rfl : e32 = e21 := by have : l[k]? = some e32 := (by simpa using he32); rw [hx] at this; simpa using this.symm
   first | refine AtT.zu tk3 ?_ | refine AtT.zF tk3 ?_
   refine AtT.qK Tryz.underlying26 tk100 ?_
   intro p34 e34 he34 hc34
   obtain rfl : e34 = e23 := by rw [hq] at he34; simpa using he34.symm
   first | refine AtT.zk zZ ?_ | with_reducible refine AtT.zm zZ ?_ | refine AtT.zo zZ ?_
   first | refine AtT.zu tk2 ?_ | refine AtT.zF tk2 ?_
   first | refine AtT.qo ?_ | refine AtT.zS ?_
   refine AtT.zf ?_
   refine AtT.done ?_
   refine At.nrm ?_
   refine At.zg (.q 0 (.q 1 (.q 2 .done))) ?_
   refine AtT.ze ?_
   first | refine AtT.qo ?_ | refine AtT.zS ?_
   refine AtT.zf ?_
   refine AtT.done ?_
   refine At.nrm ?_
   refine At.round (k + 1) ?_ ?_ ?_ ?_
   ·show l.length - (k + 1) < l.length - k; omega
   ·exact ⟨rfl, by omega⟩
   ·exact ⟨rfl, rfl, rfl, ivs (by rw [hnx]; rfl), ivs (by rw [hnx]; rfl), ivs (by omega), trivial⟩
   ·exact Pt.zy
  ·obtain rfl : k = l.length := by omega
   rw [List.take_length]
   refine At.nrm ?_
   refine At.zg (.q 0 (.q 1 (.q 2 (.q 3 .done)))) ?_
   refine AtT.ze ?_
   refine AtT.ze ?_
   refine AtT.zf ?_
   refine AtT.zf ?_
   refine AtT.done ?_
   refine At.nrm ?_
   exact At.ret2 rfl (.tmp rfl) (.tmp rfl) rfl
theorem fitE_bn (d : Dy) (ps : List Pn) (sure : Bool) (s : Sm) : fitE (bn d ps sure) s = if worksOf d sure < s.t then 22 else if d.pot < s.g then 10 else 0 := rfl
theorem batErr_f (d : Dy) (ps : List Pn) (hk : Ok d ps) (sure : Bool) (l : List Int) (hl : InB (bn d ps sure) l) (hlen : l.length ≤ 100) (V : View) (v vl : Value) (hs : Sl V pne 3 v ps) (hv : SlI V vl l) :
  Fnc Tryz.prog 13 [dyv d, v, .bool sure, vl] V fun r _ => r = iv (fitE (bn d ps sure) (jr (bn d ps sure) l)) := by
 refine zT Tryz.func13 rfl Tryz.ntmps13 (Nat.le_of_ble_eq_true rfl) ?_
 intro w0 hw0
 refine At.nrm ?_
 refine At.zg (.n false 0 (.q 1 .done)) ?_
 refine AtT.kbox ?_
 intro b4
 refine AtT.zf ?_
 refine AtT.done ?_
 refine At.nrm ?_
 refine At.zg (.q 0 (.q 1 (.q 2 (.n false 3 (.q 4 (.q 5 (.q 6 (.q 7 (.q 8 .done))))))))) ?_
 refine AtT.ze ?_
 refine AtT.ze ?_
 refine AtT.ze ?_
 refine AtT.zC rfl rfl ok28 (sums_f d ps hk sure l hl hlen _ _ _ hs hv) ?_
 rintro _ rfl
 refine AtT.ze ?_
 refine AtT.zG ?_
 refine AtT.zG ?_
 refine AtT.zf ?_
 refine AtT.zf ?_
 refine AtT.done ?_
 refine At.nrm ?_
 refine At.zg (.q 0 (.q 1 (.q 2 (.n false 3 (.q 4 .done))))) ?_
 refine AtT.ze ?_
 first | refine AtT.zx qp ?_ | refine AtT.zD qp ?_ | refine AtT.zw qp ?_
 refine AtT.ze ?_
 refine AtT.zC rfl rfl ok29 (worksOf_f d sure _) ?_
 rintro _ rfl
 refine AtT.jv ?_
 refine AtT.done ?_
 refine At.nrm ?_
 refine At.zW rfl (fun hb => ?_) (fun hb => ?_)
 ·refine At.nrm ?_
  refine At.zg (.q 0 .done) ?_
  refine AtT.zf ?_
  refine AtT.done ?_
  refine At.nrm ?_
  refine At.zV rfl (.tmp rfl) ?_
  rw [fitE_bn, if_pos hb]
 refine At.nrm ?_
 refine At.zg (.q 0 (.q 1 (.q 2 (.q 3 .done)))) ?_
 refine AtT.ze ?_
 first | refine AtT.zk qx ?_ | with_reducible refine AtT.zm qx ?_ | refine AtT.zo qx ?_
 first | refine AtT.zu tk2 ?_ | refine AtT.zF tk2 ?_
 refine AtT.jv ?_
 refine AtT.done ?_
 refine At.nrm ?_
 refine At.zW rfl (fun hc => ?_) (fun hc => ?_)
 ·refine At.nrm ?_
  refine At.zg (.q 0 .done) ?_
  refine AtT.zf ?_
  refine AtT.done ?_
  refine At.nrm ?_
  refine At.zV rfl (.tmp rfl) ?_
  rw [fitE_bn, if_neg hb, if_pos hc]
 refine At.nrm ?_
 refine At.zg (.q 0 .done) ?_
 refine AtT.zf ?_
 refine AtT.done ?_
 refine At.nrm ?_
 refine At.zV rfl (.tmp rfl) ?_
 rw [fitE_bn, if_neg hb, if_neg hc]
end Go.Proofs.YtadbifpalpdocaaGreatDoor.Q
end
section
set_option linter.unusedVariables false
namespace Go.Proofs.YtadbifpalpdocaaGreatDoor.Q
open Go.Lw Go.Gl Go.RowKit
theorem bat_f (l : List Int) (hb : ∀ x ∈ l, -1000000 ≤ x ∧ x < 1000000) (V : View) (v : Value) (hs : SlI V v l) : Fnc Tryz.prog 7 [v] V fun r _ => r = iv (qd l) := by
 have hlen := hs.lenLe
 obtain ⟨a, c, rfl, k1, k2, _⟩ := id hs
 clear k1 k2
 refine zT Tryz.func7 rfl Tryz.ntmps7 (Nat.le_of_ble_eq_true rfl) ?_
 intro w0 hw0
 refine At.nrm ?_
 refine At.zg (.q 0 .done) ?_
 refine AtT.zf ?_
 refine AtT.done ?_
 refine At.nrm ?_
 refine At.zg (.q 0 .done) ?_
 refine AtT.zf ?_
 refine AtT.done ?_
 refine At.nrm ?_
 refine At.zg (.q 0 .done) ?_
 refine AtT.zf ?_
 refine AtT.done ?_
 refine At.nrm ?_
 refine At.lp (ι := Nat) (KS := fun k => [(0, .slice a l.length c), (3, iv (qd (l.take k))), (4, iv k)]) (OS := fun _ => []) (VS := fun k V' => V' = V ∧ k ≤ l.length) (μ := fun k => l.length - k) 0 ?_ ?_ ?_ ?_
 ·exact ⟨rfl, rfl, rfl, trivial⟩
 ·exact Pt.zy
 ·exact ⟨rfl, Nat.zero_le _⟩
 ·rintro k V' ks' O' ⟨rfl, hkl⟩ hk hO hl2
  subst hk hO
  refine At.nrm ?_
  refine At.zg (.q 0 (.q 1 (.q 2 (.q 3 .done)))) ?_
  refine AtT.ze ?_
  refine AtT.ze ?_
  first | refine AtT.zP Tryz.underlying31 ?_ | refine AtT.zQ Tryz.underlying31 ?_
  refine AtT.qW ?_
  refine AtT.done ?_
  refine At.nrm ?_
  refine At.zW rfl (fun hp => ?_) (fun hp => ?_)
  ·obtain ⟨x, hx⟩ : ∃ x, l[k]? = some x := ⟨_, List.getElem?_eq_getElem (by omega)⟩
   have hxb := hb x (List.mem_of_getElem? hx)
   refine At.nrm ?_
   refine At.zg (.q 0 (.q 1 (.q 2 (.q 3 (.q 4 (.q 5 (.q 6 (.q 7 .done)))))))) ?_
   refine AtT.ze ?_
   refine AtT.ze ?_
   refine AtT.ze ?_
   refine AtT.qK Tryz.underlying31 tk3 ?_
   intro p14 e14 he14 hc14
   obtain rfl : e14 = x := by have : l[k]? = some e14 := (by simpa using he14); rw [hx] at this; simpa using this.symm
   first | refine AtT.zu tk3 ?_ | refine AtT.zF tk3 ?_
   first | refine AtT.qo ?_ | refine AtT.zS ?_
   refine AtT.kmax2 ?_
   refine AtT.zf ?_
   refine AtT.done ?_
   refine At.nrm ?_
   refine At.zg (.q 0 (.q 1 (.q 2 .done))) ?_
   refine AtT.ze ?_
   first | refine AtT.qo ?_ | refine AtT.zS ?_
   refine AtT.zf ?_
   refine AtT.done ?_
   refine At.nrm ?_
   refine At.round (k + 1) ?_ ?_ ?_ ?_
   ·show l.length - (k + 1) < l.length - k; omega
   ·exact ⟨rfl, by omega⟩
   ·exact ⟨rfl, ivs (by rw [take_snoc' hx, batN_snoc]), ivs (by omega), trivial⟩
   ·exact Pt.zy
  ·obtain rfl : k = l.length := by omega
   rw [List.take_length]
   refine At.nrm ?_
   refine At.zg (.q 0 (.q 1 .done)) ?_
   refine AtT.ze ?_
   refine AtT.zf ?_
   refine AtT.done ?_
   refine At.nrm ?_
   exact At.zV rfl (.tmp rfl) rfl
theorem of_f (l : List Int) (b : Int) (h1 : l.length ≤ 1000) (V : View) (v : Value) (hs : SlI V v l) : Fnc Tryz.prog 16 [v, iv b] V fun r V' => SlI V' r (ofL l b) := by
 obtain ⟨a, c, rfl, k1, k2, _⟩ := id hs
 clear k1 k2
 refine zT Tryz.func16 rfl Tryz.ntmps16 (Nat.le_of_ble_eq_true rfl) ?_
 intro w0 hw0
 refine At.nrm ?_
 refine At.zg (.q 0 .done) ?_
 refine AtT.zf ?_
 refine AtT.done ?_
 refine At.nrm ?_
 refine At.zg (.q 0 .done) ?_
 refine AtT.zf ?_
 refine AtT.done ?_
 refine At.nrm ?_
 refine At.zg (.q 0 .done) ?_
 refine AtT.zf ?_
 refine AtT.done ?_
 refine At.nrm ?_
 refine At.newRow 3 1 ?_
 refine At.lp (ι := Nat × Option Addr × Nat) (KS := fun g => [(0, .slice a l.length c), (1, iv b), (5, .slice g.2.1 (ofK l b g.1).length g.2.2), (6, iv g.1)]) (OS := fun g => [.row (.slice g.2.1 (ofK l b g.1).length g.2.2) 3 1 (ofK l b g.1).length (flat ei (ofK l b g.1))]) (VS := fun g V' => Le V V' ∧ g.1 ≤ l.length) (μ := fun g => l.length - g.1) (0, none, 0) ?_ ?_ ?_ ?_
 ·exact ⟨rfl, rfl, rfl, rfl, trivial⟩
 ·exact Pt.zy
 ·exact ⟨Le.refl _, Nat.zero_le _⟩
 ·rintro ⟨k, ao, co⟩ V' ks' O' ⟨hVV, hkl⟩ hk hO hl2
  dsimp only at hkl hk hO
  subst hk hO
  have hs' := hs.le hVV
  have hkn := ofK_len l b k
  refine At.nrm ?_
  refine At.zg (.q 0 (.q 1 (.q 2 (.q 3 .done)))) ?_
  refine AtT.ze ?_
  refine AtT.ze ?_
  first | refine AtT.zP Tryz.underlying31 ?_ | refine AtT.zQ Tryz.underlying31 ?_
  refine AtT.qW ?_
  refine AtT.done ?_
  refine At.nrm ?_
  refine At.zW rfl (fun hp => ?_) (fun hp => ?_)
  ·obtain ⟨x, hx⟩ : ∃ x, l[k]? = some x := ⟨_, List.getElem?_eq_getElem (by omega)⟩
   have hgx : l.getD k 0 = x := by simp [List.getD, hx]
   refine At.nrm ?_
   refine At.zg (.q 0 (.q 1 (.q 2 (.q 3 (.q 4 (.q 5 .done)))))) ?_
   refine AtT.ze ?_
   refine AtT.ze ?_
   refine AtT.qK Tryz.underlying31 tk3 ?_
   intro p15 e15 he15 hc15
   obtain rfl : e15 = x := by have : l[k]? = some e15 := (by simpa using he15); rw [hx] at this; simpa using this.symm
   first | refine AtT.zu tk3 ?_ | refine AtT.zF tk3 ?_
   refine AtT.ze ?_
   refine AtT.jJ ?_
   refine AtT.done ?_
   refine At.nrm ?_
   refine At.zW rfl (fun hc => ?_) (fun hc => ?_)
   ·have hn : ofK l b (k + 1) = ofK l b k ++ [(k : Int)] := by simp only [ofK, hgx, hc, if_true]
    refine At.nrm ?_
    refine At.zg (.q 0 (.q 1 (.n false 2 (.n true 3 (.q 4 .done))))) ?_
    refine AtT.ze ?_
    refine AtT.ze ?_
    refine AtT.qb (qZ _) ?_
    intro q21 V21 hV21 hq21
    have g21 : Le V V21 := by first | exact hV21 | exact Le.trans (by assumption) hV21
    first | refine AtT.kappend Tryz.underlying31 rw3 ?_
    intro a22 c22
    refine AtT.zf ?_
    refine AtT.done ?_
    refine At.nrm ?_
    refine At.zg (.q 0 (.q 1 (.q 2 .done))) ?_
    refine AtT.ze ?_
    first | refine AtT.qo ?_ | refine AtT.zS ?_
    refine AtT.zf ?_
    refine AtT.done ?_
    refine At.nrm ?_
    refine At.round (k + 1, a22, c22) ?_ ?_ ?_ ?_
    ·show l.length - (k + 1) < l.length - k; omega
    ·exact ⟨hVV.trans (by assumption), by dsimp only; omega⟩
    ·dsimp only; rw [hn, List.length_append]; exact ⟨rfl, rfl, rfl, ivs (by omega), trivial⟩
    dsimp only
    rw [hn, je, List.length_append]
    ·exact Pt.zy
   ·have hn : ofK l b (k + 1) = ofK l b k := by simp only [ofK, hgx, hc, if_false]
    refine At.nrm ?_
    refine At.zg (.q 0 (.q 1 (.q 2 .done))) ?_
    refine AtT.ze ?_
    first | refine AtT.qo ?_ | refine AtT.zS ?_
    refine AtT.zf ?_
    refine AtT.done ?_
    refine At.nrm ?_
    refine At.round (k + 1, ao, co) ?_ ?_ ?_ ?_
    ·show l.length - (k + 1) < l.length - k; omega
    ·exact ⟨hVV, by dsimp only; omega⟩
    ·dsimp only; rw [hn]; exact ⟨rfl, rfl, rfl, ivs (by omega), trivial⟩
    dsimp only
    rw [hn]
    ·exact Pt.zy
  ·obtain rfl : k = l.length := by omega
   refine At.nrm ?_
   refine At.zg (.q 0 (.q 1 .done)) ?_
   refine AtT.ze ?_
   refine AtT.zf ?_
   refine AtT.done ?_
   refine At.nrm ?_
   refine At.giveSl Lw.ei_len rfl rfl zJ.zy (fun V4 hV4 hs4 => ?_)
   exact At.zV rfl (.tmp rfl) hs4
end Go.Proofs.YtadbifpalpdocaaGreatDoor.Q
end
section
set_option linter.unusedVariables false
namespace Go.Proofs.YtadbifpalpdocaaGreatDoor.Q
open Go.Lw Go.Gl Go.RowKit
theorem rowErr_f (d : Dy) (ps : List Pn) (sure : Bool) (V : View) (v : Value) (hs : Sl V pne 3 v ps) : Fnc Tryz.prog 4 [dyv d, v, .bool sure] V fun r _ => r = iv (rowE d ps sure) := by
 obtain ⟨a, c, rfl, k1, k2, _⟩ := id hs
 have hlenp := hs.lenLe
 clear k1 k2
 refine zT Tryz.func4 rfl Tryz.ntmps4 (Nat.le_of_ble_eq_true rfl) ?_
 intro w0 hw0
 refine At.nrm ?_
 refine At.zg (.n false 0 (.q 1 .done)) ?_
 refine AtT.kbox ?_
 intro b3
 refine AtT.zf ?_
 refine AtT.done ?_
 refine At.nrm ?_
 refine At.zg (.q 0 (.q 1 (.n false 2 (.q 3 .done)))) ?_
 first | refine AtT.zx qp ?_ | refine AtT.zD qp ?_ | refine AtT.zw qp ?_
 refine AtT.ze ?_
 refine AtT.zC rfl rfl ok12 (both_f d ps _ _ hs) ?_
 rintro _ rfl
 refine AtT.kneI ?_
 refine AtT.done ?_
 refine At.nrm ?_
 refine At.zW rfl (fun he => ?_) (fun he => ?_)
 ·refine At.nrm ?_
  refine At.zg (.q 0 (.q 1 (.n false 2 (.q 3 .done)))) ?_
  first | refine AtT.zx qp ?_ | refine AtT.zD qp ?_ | refine AtT.zw qp ?_
  refine AtT.ze ?_
  refine AtT.zC rfl rfl ok12 (both_f d ps _ _ hs) ?_
  rintro _ rfl
  refine AtT.zf ?_
  refine AtT.done ?_
  refine At.nrm ?_
  exact At.zV rfl (.tmp rfl) (by rw [rowE_both he])
 have he' : bothE d ps = 0 := Decidable.not_not.1 he
 have hk := bothE_ok he'
 have hB := bn_ok hk sure
 have hn10 := hk.n10
 refine At.nrm ?_
 refine At.zg (.q 0 .done) ?_
 refine AtT.zf ?_
 refine AtT.done ?_
 refine At.nrm ?_
 refine At.lp (ι := Nat) (KS := fun k => [(1, .slice a ps.length c), (2, .bool sure), (3, .pointer (some ⟨b3, 0, none⟩)), (7, iv k)]) (OS := fun _ => [.blk b3 (LC (dye d) 25)])
  (VS := fun k V' => Le V V' ∧ k ≤ ps.length ∧ frE (bn d ps sure) k = 0) (μ := fun k => ps.length - k) 0 ?_ ?_ ?_ ?_
 ·exact ⟨rfl, rfl, rfl, rfl, trivial⟩
 ·exact Pt.zy
 ·exact ⟨Le.refl _, Nat.zero_le _, rfl⟩
 ·rintro k V' ks' O' ⟨hVV, hkl, hfe⟩ hk2 hO hl2
  subst hk2 hO
  have hs' := hs.le hVV
  refine At.nrm ?_
  refine At.zg (.q 0 (.q 1 (.q 2 (.q 3 .done)))) ?_
  refine AtT.ze ?_
  refine AtT.ze ?_
  first | refine AtT.zP Tryz.underlying26 ?_ | refine AtT.zQ Tryz.underlying26 ?_
  refine AtT.qW ?_
  refine AtT.done ?_
  refine At.nrm ?_
  refine At.zW rfl (fun hp => ?_) (fun hp => ?_)
  ·have hin : InB (bn d ps sure) [(k : Int)] := fun i hi => by rw [List.mem_singleton] at hi; subst hi; rw [bn_len]; omega
   have hfs : frE (bn d ps sure) (k + 1) = fitE (bn d ps sure) (jr (bn d ps sure) [(k : Int)]) := by simp only [frE]; rw [if_neg (by rw [hfe]; simp), sum_one]
   refine At.nrm ?_
   refine At.zg (.q 0 (.q 1 (.q 2 (.q 3 (.n false 4 (.n false 5 (.q 6 .done))))))) ?_
   first | refine AtT.zx qp ?_ | refine AtT.zD qp ?_ | refine AtT.zw qp ?_
   refine AtT.ze ?_
   refine AtT.ze ?_
   refine AtT.ze ?_
   refine AtT.qb (qZ _) ?_
   intro q25 V25 hV25 hq25
   have g25 : Le V V25 := by first | exact hV25 | exact Le.trans (by assumption) hV25
   refine AtT.zC rfl rfl ok13 (batErr_f d ps hk sure [(k : Int)] hin (by simp) _ _ _ (hs'.le (by assumption)) (Sl.lit hq25 rfl (by simp))) ?_
   rintro _ rfl
   refine AtT.kneI ?_
   refine AtT.done ?_
   refine At.nrm ?_
   refine At.zW rfl (fun hm => ?_) (fun hm => ?_)
   ·have hbad : rowE d ps sure = fitE (bn d ps sure) (jr (bn d ps sure) [(k : Int)]) := by
     rw [rowE_fr he', ← hfs]
     exact frE_bad (by rw [hfs]; exact hm) (by omega)
    refine At.nrm ?_
    refine At.zg (.q 0 (.q 1 (.q 2 (.q 3 (.n false 4 (.n false 5 (.q 6 .done))))))) ?_
    first | refine AtT.zx qp ?_ | refine AtT.zD qp ?_ | refine AtT.zw qp ?_
    refine AtT.ze ?_
    refine AtT.ze ?_
    refine AtT.ze ?_
    refine AtT.qb (qZ _) ?_
    intro q32 V32 hV32 hq32
    have g32 : Le V V32 := by first | exact hV32 | exact Le.trans (by assumption) hV32
    refine AtT.zC rfl rfl ok13 (batErr_f d ps hk sure [(k : Int)] hin (by simp) _ _ _ ((hs'.le hV25).le hV32) (Sl.lit hq32 rfl (by simp))) ?_
    rintro _ rfl
    refine AtT.zf ?_
    refine AtT.done ?_
    refine At.nrm ?_
    exact At.zV rfl (.tmp rfl) (by rw [hbad])
   ·refine At.nrm ?_
    refine At.zg (.q 0 (.q 1 (.q 2 .done))) ?_
    refine AtT.ze ?_
    first | refine AtT.qo ?_ | refine AtT.zS ?_
    refine AtT.zf ?_
    refine AtT.done ?_
    refine At.nrm ?_
    refine At.round (k + 1) ?_ ?_ ?_ ?_
    ·show ps.length - (k + 1) < ps.length - k; omega
    ·exact ⟨hVV.trans (by assumption), by omega, by rw [hfs]; exact Decidable.not_not.1 hm⟩
    ·exact ⟨rfl, rfl, rfl, ivs (by omega), trivial⟩
    ·exact Pt.zy
  ·obtain rfl : k = ps.length := by omega
   refine At.nrm ?_
   refine At.zg (.q 0 .done) ?_
   refine AtT.zf ?_
   refine AtT.done ?_
   refine At.nrm ?_
   exact At.zV rfl (.tmp rfl) (by rw [rowE_fr he', hfe])
end Go.Proofs.YtadbifpalpdocaaGreatDoor.Q
end
section
set_option linter.unusedVariables false
namespace Go.Proofs.YtadbifpalpdocaaGreatDoor.Q
open Go.Lw Go.Gl Go.RowKit
theorem of_in2 {d : Dy} {ps : List Pn} {sure : Bool} {l : List Int} {b : Int} (hk : Ok d ps) (h : l.length ≤ ps.length) : InB (bn d ps sure) (ofL l b) ∧ (ofL l b).length ≤ 100 := by
 have h1 : (ofL l b).length ≤ l.length := ofK_len l b l.length
 have := hk.n10
 refine ⟨fun i hi => ?_, by omega⟩
 have := ofK_in (l := l) (b := b) (k := l.length) i hi
 rw [bn_len]; omega
theorem given_f (d : Dy) (ps : List Pn) (sure : Bool) (by' : List U8) (row : Bool) (he : rowE d ps sure = 0) (V : View) (v vb : Value) (hs : Sl V pne 3 v ps) (hy : Sl V e8 1 vb by') (hy1 : by'.length ≤ 1000) : Fnc Tryz.prog 6 [dyv d, v, .bool sure, vb, .bool row] V fun r V' =>
  ∃ l, SlI V' r l ∧ l.length = ps.length ∧ ky l row = true ∧ Go.Gl.Good (bn d ps sure) l := by
 obtain ⟨hb0, hf⟩ := rowE_ok he
 have hk := bothE_ok hb0
 have hB := bn_ok hk sure
 have hn10 := hk.n10
 have hbl := bn_len d ps sure
 obtain ⟨a, c, rfl, k1, k2, _⟩ := id hs
 obtain ⟨ab, cb, rfl, k3, k4, _⟩ := id hy
 clear k1 k2 k3 k4
 refine zT Tryz.func6 rfl Tryz.ntmps6 (Nat.le_of_ble_eq_true rfl) ?_
 intro w0 hw0
 refine At.nrm ?_
 refine At.zg (.n false 0 (.q 1 .done)) ?_
 refine AtT.kbox ?_
 intro b5
 refine AtT.zf ?_
 refine AtT.done ?_
 refine At.nrm ?_
 refine At.zg (.q 0 .done) ?_
 refine AtT.zf ?_
 refine AtT.done ?_
 refine At.nrm ?_
 refine At.zg (.q 0 .done) ?_
 refine AtT.zf ?_
 refine AtT.done ?_
 refine At.nrm ?_
 refine At.newRow 3 1 ?_
 refine At.lp (ι := List Int × Option Addr × Nat) (KS := fun g => [(1, .slice a ps.length c), (2, .bool sure), (3, .slice ab by'.length cb), (4, .bool row), (5, .pointer (some ⟨b5, 0, none⟩)), (11, .slice g.2.1 g.1.length g.2.2), (12, iv g.1.length)]) (OS := fun g => [.row (.slice g.2.1 g.1.length g.2.2) 3 1 g.1.length (flat ei g.1), .blk b5 (LC (dye d) 25)])
  (VS := fun g V' => Le V V' ∧ g.1.length ≤ ps.length ∧ ky g.1 row = true ∧ Go.Gl.Good (bn d ps sure) g.1) (μ := fun g => ps.length - g.1.length) ([], none, 0) ?_ ?_ ?_ ?_
 ·exact ⟨rfl, rfl, rfl, rfl, rfl, rfl, rfl, trivial⟩
 ·exact Pt.zy
 ·exact ⟨Le.refl _, Nat.zero_le _, plan_nil row, good_nil hB⟩
 rintro ⟨out, ao, co⟩ V1 ks' O' ⟨hV1, hil, hpl, hgd⟩ hk2 hO hl2
 dsimp only at hil hpl hgd hk2 hO
 subst hk2 hO
 refine At.nrm ?_
 refine At.zg (.q 0 (.q 1 (.q 2 (.q 3 .done)))) ?_
 refine AtT.ze ?_
 refine AtT.ze ?_
 first | refine AtT.zP Tryz.underlying26 ?_ | refine AtT.zQ Tryz.underlying26 ?_
 refine AtT.qW ?_
 refine AtT.done ?_
 refine At.nrm ?_
 refine At.zW rfl (fun hp => ?_) (fun hp => ?_)
 rotate_left
 ·refine At.nrm ?_
  refine At.giveSl Lw.ei_len rfl rfl zJ.zy (fun V4 hV4 hs4 => ?_)
  refine At.zg (.q 0 (.q 1 .done)) ?_
  refine AtT.ze ?_
  refine AtT.zf ?_
  refine AtT.done ?_
  refine At.nrm ?_
  exact At.zV rfl (.tmp rfl) ⟨out, hs4, by omega, hpl, hgd⟩
 have hlt : out.length < ps.length := by omega
 obtain ⟨hbo, hbx⟩ := plan_bat (by cases row; exact hpl; exact row_isPlan hpl)
 have hn0 := batN_pos out
 refine At.lend zJ.zy ?_
 intro V2 hV2 hL
 have hso : SlI V2 (.slice ao out.length co) out := hL.sl Lw.ei_len
 have hs2 := (hs.le hV1).le hV2
 have hy2 := (hy.le hV1).le hV2
 refine At.nrm ?_
 refine At.zg (.q 0 (.n false 1 (.q 2 (.q 3 .done)))) ?_
 refine AtT.ze ?_
 refine AtT.zC rfl rfl ok7 (bat_f out (fun x hx => by have := hbx x hx; omega) _ _ hso) ?_
 rintro _ rfl
 refine AtT.zf ?_
 refine AtT.zf ?_
 refine AtT.done ?_
 refine At.nrm ?_
 refine At.zg (.q 0 (.q 1 (.q 2 .done))) ?_
 refine AtT.ze ?_
 first | refine AtT.zP Tryz.underlying27 ?_ | refine AtT.zQ Tryz.underlying27 ?_
 refine AtT.jv ?_
 refine AtT.done ?_
 refine At.nrm ?_
 refine At.cutG (ι := Int) (fun f => [(1, .slice a ps.length c), (2, .bool sure), (3, .slice ab by'.length cb), (4, .bool row), (5, .pointer (some ⟨b5, 0, none⟩)), (11, .slice ao out.length co), (12, iv out.length), (13, iv (qd out)), (14, iv f)]) (fun _ => [.blk b5 (LC (dye d) 25)])
  (fun f V'' => Le V2 V'' ∧ 0 ≤ f ∧ f ≤ 255) ?_ ?_
 ·refine At.zW rfl (fun hc => ?_) (fun hc => ?_)
  ·have t0 := Int.tmod_nonneg (by'.length : Int) (show 0 ≤ (out.length : Int) by omega)
   have t1 := Int.tmod_lt_of_pos (out.length : Int) (b := (by'.length : Int)) (by omega)
   refine At.nrm ?_
   refine At.zg (.q 0 (.q 1 (.q 2 (.q 3 (.q 4 (.q 5 (.q 6 (.q 7 (.q 8 .done))))))))) ?_
   refine AtT.ze ?_
   refine AtT.ze ?_
   refine AtT.ze ?_
   first | refine AtT.zP Tryz.underlying27 ?_ | refine AtT.zQ Tryz.underlying27 ?_
   refine AtT.krem ?_
   refine AtT.qK Tryz.underlying27 tk5 ?_
   intro p35 e35 he35 hc35
   first | refine AtT.zu tk5 ?_ | refine AtT.zF tk5 ?_
   refine AtT.kconv un5 Tryz.underlying3 ?_
   have hu := e35.h
   rw [wrap_fit (Fit.of (by omega) (by omega))]
   refine AtT.zf ?_
   refine AtT.done ?_
   refine At.nrm ?_
   exact At.meetG e35.n ⟨Le.refl _, e35.h.1, e35.h.2⟩ ⟨rfl, rfl, rfl, rfl, rfl, rfl, rfl, rfl, rfl, trivial⟩ Pt.zy
  ·refine At.nrm ?_
   exact At.meetG 0 ⟨Le.refl _, Int.le_refl _, by decide⟩ ⟨rfl, rfl, rfl, rfl, rfl, rfl, rfl, rfl, rfl, trivial⟩ Pt.zy
 rintro f V3 ks' O' ⟨hV3, hf0, hf1⟩ hk2 hO hl3
 subst hk2 hO
 have hs3 := hs2.le hV3
 have hso3 := hso.le hV3
 refine At.nrm ?_
 refine At.zg (.q 0 (.q 1 .done)) ?_
 refine AtT.ze ?_
 refine AtT.zf ?_
 refine AtT.done ?_
 refine At.nrm ?_
 refine At.zg (.q 0 .done) ?_
 refine AtT.zf ?_
 refine AtT.done ?_
 refine At.nrm ?_
 refine At.lp (ι := Nat × Int) (KS := fun g => [(1, .slice a ps.length c), (2, .bool sure), (3, .slice ab by'.length cb), (4, .bool row), (5, .pointer (some ⟨b5, 0, none⟩)), (11, .slice ao out.length co), (12, iv out.length), (13, iv (qd out)), (14, iv f), (15, iv g.2), (16, iv g.1)]) (OS := fun _ => [.blk b5 (LC (dye d) 25)])
  (VS := fun g V' => Le V3 V' ∧ g.1 ≤ (qd out).toNat ∧ PickOk (bn d ps sure) row out g.2) (μ := fun g => (qd out).toNat - g.1) (0, qd out) ?_ ?_ ?_ ?_
 ·exact ⟨rfl, rfl, rfl, rfl, rfl, rfl, rfl, rfl, rfl, rfl, rfl, trivial⟩
 ·exact Pt.zy
 ·exact ⟨Le.refl _, Nat.zero_le _, .inl rfl⟩
 rintro ⟨k, b⟩ V4 ks' O' ⟨hV4, hkl, hpk⟩ hk2 hO hl4
 dsimp only at hkl hpk hk2 hO
 subst hk2 hO
 have hs4 := hs3.le hV4
 have hso4 := hso3.le hV4
 refine At.nrm ?_
 refine At.zg (.q 0 (.q 1 (.q 2 .done))) ?_
 refine AtT.ze ?_
 refine AtT.ze ?_
 refine AtT.qW ?_
 refine AtT.done ?_
 refine At.nrm ?_
 refine At.zW rfl (fun hq => ?_) (fun hq => ?_)
 rotate_left
 ·refine At.nrm ?_
  refine At.regain hL hV2 ((hV3.trans hV4)) hV1 ?_
  intro V5 hV5
  have hV05 := hV1.trans hV5
  obtain ⟨g1, g2⟩ := given_step hB hf (by omega) hpl hgd hpk
  refine At.zg (.q 0 (.q 1 (.n false 2 (.n true 3 (.q 4 .done))))) ?_
  refine AtT.ze ?_
  refine AtT.ze ?_
  refine AtT.qb (qZ _) ?_
  intro q85 V85 hV85 hq85
  have g85 : Le V V85 := by first | exact hV85 | exact Le.trans (by assumption) hV85
  first | refine AtT.kappend Tryz.underlying31 rw3 ?_
  intro a86 c86
  refine AtT.zf ?_
  refine AtT.done ?_
  refine At.nrm ?_
  refine At.zg (.q 0 (.q 1 (.q 2 .done))) ?_
  refine AtT.ze ?_
  first | refine AtT.qo ?_ | refine AtT.zS ?_
  refine AtT.zf ?_
  refine AtT.done ?_
  refine At.nrm ?_
  refine At.round (out ++ [b], a86, c86) ?_ ?_ ?_ ?_
  ·show ps.length - (out ++ [b]).length < ps.length - out.length
   rw [List.length_append]; simp only [List.length_cons, List.length_nil]; omega
  ·refine ⟨hV05.trans (by assumption), ?_, g1, g2⟩
   dsimp only; rw [List.length_append]; simp only [List.length_cons, List.length_nil]; omega
  ·dsimp only; rw [List.length_append]; exact ⟨rfl, rfl, rfl, rfl, rfl, rfl, ivs (by simp only [List.length_cons, List.length_nil]; omega), trivial⟩
  dsimp only
  rw [je, List.length_append]
  ·exact Pt.zy
 have q0 := Int.tmod_nonneg (qd out) hf0
 have q1 := Int.tmod_lt_of_pos f (b := qd out) (by omega)
 have q2 := Int.tmod_nonneg (qd out) (show 0 ≤ f.tmod (qd out) + (k : Int) by omega)
 have q3 := Int.tmod_lt_of_pos (f.tmod (qd out) + (k : Int)) (b := qd out) (by omega)
 refine At.nrm ?_
 refine At.zg (.q 0 (.q 1 (.q 2 (.q 3 (.q 4 (.q 5 (.q 6 (.q 7 .done)))))))) ?_
 refine AtT.ze ?_
 refine AtT.ze ?_
 refine AtT.krem ?_
 refine AtT.ze ?_
 first | refine AtT.qo ?_ | refine AtT.zS ?_
 refine AtT.ze ?_
 refine AtT.krem ?_
 refine AtT.zf ?_
 refine AtT.done ?_
 refine At.nrm ?_
 refine At.zg (.q 0 .done) ?_
 refine AtT.ze ?_
 refine AtT.done ?_
 refine At.nrm ?_
 refine At.cutG (ι := Int) (fun o => [(1, .slice a ps.length c), (2, .bool sure), (3, .slice ab by'.length cb), (4, .bool row), (5, .pointer (some ⟨b5, 0, none⟩)), (11, .slice ao out.length co), (12, iv out.length), (13, iv (qd out)), (14, iv f), (15, iv b), (16, iv k), (17, iv o)]) (fun _ => [.blk b5 (LC (dye d) 25)])
  (fun o V'' => Le V4 V'' ∧ 0 ≤ o ∧ o < qd out ∧ (row = true → o = qd out - 1)) ?_ ?_
 ·refine At.cond rfl (fun hc => ?_) (fun hc => ?_)
  ·refine At.nrm ?_
   refine At.zg (.q 0 (.q 1 (.q 2 .done))) ?_
   refine AtT.ze ?_
   first | refine AtT.ksubt ?_ | refine AtT.ksubW ?_
   refine AtT.zf ?_
   refine AtT.done ?_
   refine At.nrm ?_
   exact At.meetG (qd out - 1) ⟨Le.refl _, by omega, by omega, fun _ => rfl⟩ ⟨rfl, rfl, rfl, rfl, rfl, rfl, rfl, rfl, rfl, rfl, rfl, rfl, trivial⟩ Pt.zy
  ·refine At.nrm ?_
   exact At.meetG ((f.tmod (qd out) + (k : Int)).tmod (qd out)) ⟨Le.refl _, q2, q3, fun h => by rw [h] at hc; cases hc⟩ ⟨rfl, rfl, rfl, rfl, rfl, rfl, rfl, rfl, rfl, rfl, rfl, rfl, trivial⟩ Pt.zy
 rintro o V5 ks' O' ⟨hV5, ho0, ho1, hor⟩ hk2 hO hl5
 subst hk2 hO
 have hs5 := hs4.le hV5
 have hso5 := hso4.le hV5
 have hnl : (out ++ [o]).length = out.length + 1 := by simp
 obtain ⟨hin, hln⟩ := of_in2 (sure := sure) (l := out ++ [o]) (b := o) hk (by omega)
 refine At.nrm ?_
 refine At.zg (.n false 0 (.q 1 (.n true 2 (.q 3 (.n false 4 (.n true 5 (.q 6 .done))))))) ?_
 refine AtT.bsliceR0 rfl trivial rfl bs31_0 (by decide) (s := 1) (fun b54 => ?_)
 refine AtT.ze ?_
 refine AtT.appendRS rfl trivial Tryz.underlying31 rw3 rfl (by decide) rfl rfl zJ.zy hso5 Lw.ei_len (fun _ => rfl) (by unfold maxLen; omega) (by omega) (by decide) (fun a56 c56 => ?_)
 rw [Nat.zero_add, List.nil_append]
 refine AtT.ze ?_
 refine AtT.qb (qZ _) ?_
 intro q58 V58 hV58 hq58
 have g58 : Le V V58 := by first | exact hV58 | exact Le.trans (by assumption) hV58
 first | refine AtT.kappend Tryz.underlying31 rw3 ?_
 intro a59 c59
 refine AtT.zf ?_
 refine AtT.done ?_
 refine At.nrm ?_
 refine At.giveSl (l := out ++ [o]) Lw.ei_len (je _ _ _).symm hnl.symm zJ.zy (fun V6 hV6 hs6 => ?_)
 have hVV6 : Le V5 V6 := by first | assumption | exact Le.trans (by assumption) (by assumption)
 by_cases c1 : b = qd out
 rotate_left
 ·refine At.draw (.q 0 (.q 1 (.q 2 (.q 3 (.q 4 (.q 5 (.q 6 (.q 7 (.q 8 (.q 9 (.q 10 (.q 11 (.q 12 (.q 13 (.q 14 (.q 15 (.q 16 (.q 17 (.n false 18 (.n false 19 (.q 20 (.q 21 .done)))))))))))))))))))))) ffm (by kernel_rfl) ?_
  refine AtT.ze ?_
  refine AtT.ze ?_
  refine AtT.jJ ?_
  refine AtT.jA (d := 62) rfl (c1) ?_
  refine AtT.ze ?_
  all_goals (first | refine AtT.kL 63 ?_ | refine AtT.zL (d := 63) rfl (fun hg63 => ?_) (fun hg63 => ?_) | refine AtT.zK (d := 63) rfl (fun hg63 => ?_) (fun hg63 => ?_))
  all_goals first|refine AtT.zi ?_|refine AtT.zh ?_|(refine AtT.ze ?_)
  all_goals first|refine AtT.zi ?_|refine AtT.zh ?_|(refine AtT.knot ?_)
  all_goals first|refine AtT.zi ?_|refine AtT.zh ?_|(refine AtT.ze ?_)
  all_goals (first | refine AtT.kL 66 ?_ | refine AtT.zL (d := 66) rfl (fun hg66 => ?_) (fun hg66 => ?_) | refine AtT.zK (d := 66) rfl (fun hg66 => ?_) (fun hg66 => ?_))
  all_goals first|refine AtT.zi ?_|refine AtT.zh ?_|(refine AtT.ze ?_)
  all_goals first|refine AtT.zi ?_|refine AtT.zh ?_|(refine AtT.krem ?_)
  all_goals first|refine AtT.zi ?_|refine AtT.zh ?_|(refine AtT.jv ?_)
  all_goals first|refine AtT.zi ?_|refine AtT.zh ?_|(refine AtT.zM ?_)
  all_goals (refine AtT.zM ?_)
  all_goals (refine AtT.ze ?_)
  all_goals (first | refine AtT.kL 72 ?_ | refine AtT.zL (d := 72) rfl (fun hg72 => ?_) (fun hg72 => ?_) | refine AtT.zK (d := 72) rfl (fun hg72 => ?_) (fun hg72 => ?_))
  all_goals first|refine AtT.zi ?_|refine AtT.zh ?_|(first | refine AtT.zx qp ?_ | refine AtT.zD qp ?_ | refine AtT.zw qp ?_)
  all_goals first|refine AtT.zi ?_|refine AtT.zh ?_|(refine AtT.ze ?_)
  all_goals first|refine AtT.zi ?_|refine AtT.zh ?_|(refine AtT.ze ?_)
  all_goals first|refine AtT.zi ?_|refine AtT.zh ?_|(refine AtT.ze ?_)
  all_goals first|refine AtT.zi ?_|refine AtT.zh ?_|(refine AtT.ze ?_)
  all_goals first|refine AtT.qE ?_|refine AtT.qi ?_|((fail))
  all_goals first|refine AtT.qE ?_|refine AtT.qi ?_|((fail))
  all_goals first|refine AtT.zi ?_|refine AtT.zh ?_|(refine AtT.jJ ?_)
  all_goals (refine AtT.zM ?_)
  all_goals refine AtT.done ?_
  all_goals (refine At.nrm ?_)
  refine At.qB rfl rfl ?_
  refine At.nrm ?_
  refine At.zg (.q 0 (.q 1 (.q 2 .done))) ?_
  refine AtT.ze ?_
  first | refine AtT.qo ?_ | refine AtT.zS ?_
  refine AtT.zf ?_
  refine AtT.done ?_
  refine At.nrm ?_
  refine At.round (k + 1, b) ?_ ?_ ?_ ?_
  ·show (qd out).toNat - (k + 1) < (qd out).toNat - k; omega
  ·exact ⟨((hV4.trans hV5).trans hVV6), by dsimp only; omega, hpk⟩
  ·exact ⟨rfl, rfl, rfl, rfl, rfl, rfl, rfl, rfl, rfl, rfl, ivs (by omega), trivial⟩
  ·exact Pt.zy
 cases row
 ·(
   by_cases c3 : fitE (bn d ps sure) (jr (bn d ps sure) (ofL (out ++ [o]) o)) = 0
   ·refine At.draw (.q 0 (.q 1 (.q 2 (.q 3 (.q 4 (.q 5 (.q 6 (.q 7 (.q 8 (.q 9 (.q 10 (.q 11 (.q 12 (.q 13 (.q 14 (.q 15 (.q 16 (.q 17 (.n false 18 (.n false 19 (.q 20 (.q 21 .done)))))))))))))))))))))) ffm (by kernel_rfl) ?_
    refine AtT.ze ?_
    refine AtT.ze ?_
    refine AtT.jJ ?_
    refine AtT.setT (d := 62) rfl (c1) ?_
    refine AtT.ze ?_
    all_goals (first | refine AtT.kL 63 ?_ | refine AtT.zL (d := 63) rfl (fun hg63 => ?_) (fun hg63 => ?_) | refine AtT.zK (d := 63) rfl (fun hg63 => ?_) (fun hg63 => ?_))
    all_goals first|refine AtT.zi ?_|refine AtT.zh ?_|(refine AtT.ze ?_)
    all_goals first|refine AtT.zi ?_|refine AtT.zh ?_|(refine AtT.knot ?_)
    all_goals (refine AtT.setB (d := 65) rfl ((show (!false) = true from rfl)) ?_)
    all_goals first|refine AtT.zi ?_|refine AtT.zh ?_|(refine AtT.ze ?_)
    all_goals (first | refine AtT.kL 66 ?_ | refine AtT.zL (d := 66) rfl (fun hg66 => ?_) (fun hg66 => ?_) | refine AtT.zK (d := 66) rfl (fun hg66 => ?_) (fun hg66 => ?_))
    all_goals first|refine AtT.zi ?_|refine AtT.zh ?_|(refine AtT.ze ?_)
    all_goals first|refine AtT.zi ?_|refine AtT.zh ?_|(refine AtT.krem ?_)
    all_goals first|refine AtT.zi ?_|refine AtT.zh ?_|(refine AtT.jv ?_)
    all_goals first|refine AtT.zi ?_|refine AtT.zh ?_|(refine AtT.zM ?_)
    all_goals (refine AtT.zM ?_)
    all_goals (refine AtT.ze ?_)
    all_goals (first | refine AtT.kL 72 ?_ | refine AtT.zL (d := 72) rfl (fun hg72 => ?_) (fun hg72 => ?_) | refine AtT.zK (d := 72) rfl (fun hg72 => ?_) (fun hg72 => ?_))
    all_goals first|refine AtT.zi ?_|refine AtT.zh ?_|(first | refine AtT.zx qp ?_ | refine AtT.zD qp ?_ | refine AtT.zw qp ?_)
    all_goals first|refine AtT.zi ?_|refine AtT.zh ?_|(refine AtT.ze ?_)
    all_goals first|refine AtT.zi ?_|refine AtT.zh ?_|(refine AtT.ze ?_)
    all_goals first|refine AtT.zi ?_|refine AtT.zh ?_|(refine AtT.ze ?_)
    all_goals first|refine AtT.zi ?_|refine AtT.zh ?_|(refine AtT.ze ?_)
    all_goals first|refine AtT.qE ?_|refine AtT.qi ?_|((refine AtT.kcall rfl rfl ok16 (of_f (out ++ [o]) o (by omega) _ _ (by rw [← hnl] at *; exact hs6)) ?_) ; (rintro v78 V78 hV78 hs78))
    all_goals first|refine AtT.qE ?_|refine AtT.qi ?_|((refine AtT.zC rfl rfl ok13 (batErr_f d ps hk sure _ hin hln _ _ _ ((hs5.le hVV6).le hV78) hs78) ?_) ; (rintro _ rfl))
    all_goals first|refine AtT.zi ?_|refine AtT.zh ?_|(refine AtT.jJ ?_)
    all_goals (refine AtT.setT (d := 80) rfl (c3) ?_)
    all_goals (refine AtT.zM ?_)
    all_goals refine AtT.done ?_
    all_goals (refine At.nrm ?_)
    refine At.qQ rfl rfl ?_
    refine At.nrm ?_
    refine At.zg (.q 0 (.q 1 .done)) ?_
    refine AtT.ze ?_
    refine AtT.zf ?_
    refine AtT.done ?_
    refine At.nrm ?_
    refine At.zg (.q 0 (.q 1 (.q 2 .done))) ?_
    refine AtT.ze ?_
    first | refine AtT.qo ?_ | refine AtT.zS ?_
    refine AtT.zf ?_
    refine AtT.done ?_
    refine At.nrm ?_
    refine At.round (k + 1, o) ?_ ?_ ?_ ?_
    ·show (qd out).toNat - (k + 1) < (qd out).toNat - k; omega
    ·exact ⟨((hV4.trans hV5).trans hVV6).trans hV78, by dsimp only; omega, .inr ⟨ho0, ho1, hor, c3⟩⟩
    ·exact ⟨rfl, rfl, rfl, rfl, rfl, rfl, rfl, rfl, rfl, rfl, ivs (by omega), trivial⟩
    ·exact Pt.zy
   ·refine At.draw (.q 0 (.q 1 (.q 2 (.q 3 (.q 4 (.q 5 (.q 6 (.q 7 (.q 8 (.q 9 (.q 10 (.q 11 (.q 12 (.q 13 (.q 14 (.q 15 (.q 16 (.q 17 (.n false 18 (.n false 19 (.q 20 (.q 21 .done)))))))))))))))))))))) ffm (by kernel_rfl) ?_
    refine AtT.ze ?_
    refine AtT.ze ?_
    refine AtT.jJ ?_
    refine AtT.setT (d := 62) rfl (c1) ?_
    refine AtT.ze ?_
    all_goals (first | refine AtT.kL 63 ?_ | refine AtT.zL (d := 63) rfl (fun hg63 => ?_) (fun hg63 => ?_) | refine AtT.zK (d := 63) rfl (fun hg63 => ?_) (fun hg63 => ?_))
    all_goals first|refine AtT.zi ?_|refine AtT.zh ?_|(refine AtT.ze ?_)
    all_goals first|refine AtT.zi ?_|refine AtT.zh ?_|(refine AtT.knot ?_)
    all_goals (refine AtT.setB (d := 65) rfl ((show (!false) = true from rfl)) ?_)
    all_goals first|refine AtT.zi ?_|refine AtT.zh ?_|(refine AtT.ze ?_)
    all_goals (first | refine AtT.kL 66 ?_ | refine AtT.zL (d := 66) rfl (fun hg66 => ?_) (fun hg66 => ?_) | refine AtT.zK (d := 66) rfl (fun hg66 => ?_) (fun hg66 => ?_))
    all_goals first|refine AtT.zi ?_|refine AtT.zh ?_|(refine AtT.ze ?_)
    all_goals first|refine AtT.zi ?_|refine AtT.zh ?_|(refine AtT.krem ?_)
    all_goals first|refine AtT.zi ?_|refine AtT.zh ?_|(refine AtT.jv ?_)
    all_goals first|refine AtT.zi ?_|refine AtT.zh ?_|(refine AtT.zM ?_)
    all_goals (refine AtT.zM ?_)
    all_goals (refine AtT.ze ?_)
    all_goals (first | refine AtT.kL 72 ?_ | refine AtT.zL (d := 72) rfl (fun hg72 => ?_) (fun hg72 => ?_) | refine AtT.zK (d := 72) rfl (fun hg72 => ?_) (fun hg72 => ?_))
    all_goals first|refine AtT.zi ?_|refine AtT.zh ?_|(first | refine AtT.zx qp ?_ | refine AtT.zD qp ?_ | refine AtT.zw qp ?_)
    all_goals first|refine AtT.zi ?_|refine AtT.zh ?_|(refine AtT.ze ?_)
    all_goals first|refine AtT.zi ?_|refine AtT.zh ?_|(refine AtT.ze ?_)
    all_goals first|refine AtT.zi ?_|refine AtT.zh ?_|(refine AtT.ze ?_)
    all_goals first|refine AtT.zi ?_|refine AtT.zh ?_|(refine AtT.ze ?_)
    all_goals first|refine AtT.qE ?_|refine AtT.qi ?_|((refine AtT.kcall rfl rfl ok16 (of_f (out ++ [o]) o (by omega) _ _ (by rw [← hnl] at *; exact hs6)) ?_) ; (rintro v78 V78 hV78 hs78))
    all_goals first|refine AtT.qE ?_|refine AtT.qi ?_|((refine AtT.zC rfl rfl ok13 (batErr_f d ps hk sure _ hin hln _ _ _ ((hs5.le hVV6).le hV78) hs78) ?_) ; (rintro _ rfl))
    all_goals first|refine AtT.zi ?_|refine AtT.zh ?_|(refine AtT.jJ ?_)
    all_goals (refine AtT.jA (d := 80) rfl (c3) ?_)
    all_goals (refine AtT.zM ?_)
    all_goals refine AtT.done ?_
    all_goals (refine At.nrm ?_)
    refine At.qB rfl rfl ?_
    refine At.nrm ?_
    refine At.zg (.q 0 (.q 1 (.q 2 .done))) ?_
    refine AtT.ze ?_
    first | refine AtT.qo ?_ | refine AtT.zS ?_
    refine AtT.zf ?_
    refine AtT.done ?_
    refine At.nrm ?_
    refine At.round (k + 1, b) ?_ ?_ ?_ ?_
    ·show (qd out).toNat - (k + 1) < (qd out).toNat - k; omega
    ·exact ⟨((hV4.trans hV5).trans hVV6).trans hV78, by dsimp only; omega, hpk⟩
    ·exact ⟨rfl, rfl, rfl, rfl, rfl, rfl, rfl, rfl, rfl, rfl, ivs (by omega), trivial⟩
    ·exact Pt.zy
   )
 ·by_cases c2 : 0 < f.tmod 5
  rotate_left
  ·refine At.draw (.q 0 (.q 1 (.q 2 (.q 3 (.q 4 (.q 5 (.q 6 (.q 7 (.q 8 (.q 9 (.q 10 (.q 11 (.q 12 (.q 13 (.q 14 (.q 15 (.q 16 (.q 17 (.n false 18 (.n false 19 (.q 20 (.q 21 .done)))))))))))))))))))))) ffm (by kernel_rfl) ?_
   refine AtT.ze ?_
   refine AtT.ze ?_
   refine AtT.jJ ?_
   refine AtT.setT (d := 62) rfl (c1) ?_
   refine AtT.ze ?_
   all_goals (first | refine AtT.kL 63 ?_ | refine AtT.zL (d := 63) rfl (fun hg63 => ?_) (fun hg63 => ?_) | refine AtT.zK (d := 63) rfl (fun hg63 => ?_) (fun hg63 => ?_))
   all_goals first|refine AtT.zi ?_|refine AtT.zh ?_|(refine AtT.ze ?_)
   all_goals first|refine AtT.zi ?_|refine AtT.zh ?_|(refine AtT.knot ?_)
   all_goals (refine AtT.setB (d := 65) rfl ((show (!true) = false from rfl)) ?_)
   all_goals first|refine AtT.zi ?_|refine AtT.zh ?_|(refine AtT.ze ?_)
   all_goals (first | refine AtT.kL 66 ?_ | refine AtT.zL (d := 66) rfl (fun hg66 => ?_) (fun hg66 => ?_) | refine AtT.zK (d := 66) rfl (fun hg66 => ?_) (fun hg66 => ?_))
   all_goals first|refine AtT.zi ?_|refine AtT.zh ?_|(refine AtT.ze ?_)
   all_goals first|refine AtT.zi ?_|refine AtT.zh ?_|(refine AtT.krem ?_)
   all_goals first|refine AtT.zi ?_|refine AtT.zh ?_|(refine AtT.jv ?_)
   all_goals (refine AtT.jA (d := 69) rfl (c2) ?_)
   all_goals first|refine AtT.zi ?_|refine AtT.zh ?_|(refine AtT.zM ?_)
   all_goals (refine AtT.zM ?_)
   all_goals (refine AtT.ze ?_)
   all_goals (first | refine AtT.kL 72 ?_ | refine AtT.zL (d := 72) rfl (fun hg72 => ?_) (fun hg72 => ?_) | refine AtT.zK (d := 72) rfl (fun hg72 => ?_) (fun hg72 => ?_))
   all_goals first|refine AtT.zi ?_|refine AtT.zh ?_|(first | refine AtT.zx qp ?_ | refine AtT.zD qp ?_ | refine AtT.zw qp ?_)
   all_goals first|refine AtT.zi ?_|refine AtT.zh ?_|(refine AtT.ze ?_)
   all_goals first|refine AtT.zi ?_|refine AtT.zh ?_|(refine AtT.ze ?_)
   all_goals first|refine AtT.zi ?_|refine AtT.zh ?_|(refine AtT.ze ?_)
   all_goals first|refine AtT.zi ?_|refine AtT.zh ?_|(refine AtT.ze ?_)
   all_goals first|refine AtT.qE ?_|refine AtT.qi ?_|((fail))
   all_goals first|refine AtT.qE ?_|refine AtT.qi ?_|((fail))
   all_goals first|refine AtT.zi ?_|refine AtT.zh ?_|(refine AtT.jJ ?_)
   all_goals (refine AtT.zM ?_)
   all_goals refine AtT.done ?_
   all_goals (refine At.nrm ?_)
   refine At.qB rfl rfl ?_
   refine At.nrm ?_
   refine At.zg (.q 0 (.q 1 (.q 2 .done))) ?_
   refine AtT.ze ?_
   first | refine AtT.qo ?_ | refine AtT.zS ?_
   refine AtT.zf ?_
   refine AtT.done ?_
   refine At.nrm ?_
   refine At.round (k + 1, b) ?_ ?_ ?_ ?_
   ·show (qd out).toNat - (k + 1) < (qd out).toNat - k; omega
   ·exact ⟨((hV4.trans hV5).trans hVV6), by dsimp only; omega, hpk⟩
   ·exact ⟨rfl, rfl, rfl, rfl, rfl, rfl, rfl, rfl, rfl, rfl, ivs (by omega), trivial⟩
   ·exact Pt.zy
  ·(
   by_cases c3 : fitE (bn d ps sure) (jr (bn d ps sure) (ofL (out ++ [o]) o)) = 0
   ·refine At.draw (.q 0 (.q 1 (.q 2 (.q 3 (.q 4 (.q 5 (.q 6 (.q 7 (.q 8 (.q 9 (.q 10 (.q 11 (.q 12 (.q 13 (.q 14 (.q 15 (.q 16 (.q 17 (.n false 18 (.n false 19 (.q 20 (.q 21 .done)))))))))))))))))))))) ffm (by kernel_rfl) ?_
    refine AtT.ze ?_
    refine AtT.ze ?_
    refine AtT.jJ ?_
    refine AtT.setT (d := 62) rfl (c1) ?_
    refine AtT.ze ?_
    all_goals (first | refine AtT.kL 63 ?_ | refine AtT.zL (d := 63) rfl (fun hg63 => ?_) (fun hg63 => ?_) | refine AtT.zK (d := 63) rfl (fun hg63 => ?_) (fun hg63 => ?_))
    all_goals first|refine AtT.zi ?_|refine AtT.zh ?_|(refine AtT.ze ?_)
    all_goals first|refine AtT.zi ?_|refine AtT.zh ?_|(refine AtT.knot ?_)
    all_goals (refine AtT.setB (d := 65) rfl ((show (!true) = false from rfl)) ?_)
    all_goals first|refine AtT.zi ?_|refine AtT.zh ?_|(refine AtT.ze ?_)
    all_goals (first | refine AtT.kL 66 ?_ | refine AtT.zL (d := 66) rfl (fun hg66 => ?_) (fun hg66 => ?_) | refine AtT.zK (d := 66) rfl (fun hg66 => ?_) (fun hg66 => ?_))
    all_goals first|refine AtT.zi ?_|refine AtT.zh ?_|(refine AtT.ze ?_)
    all_goals first|refine AtT.zi ?_|refine AtT.zh ?_|(refine AtT.krem ?_)
    all_goals first|refine AtT.zi ?_|refine AtT.zh ?_|(refine AtT.jv ?_)
    all_goals (refine AtT.setT (d := 69) rfl (c2) ?_)
    all_goals first|refine AtT.zi ?_|refine AtT.zh ?_|(refine AtT.zM ?_)
    all_goals (refine AtT.zM ?_)
    all_goals (refine AtT.ze ?_)
    all_goals (first | refine AtT.kL 72 ?_ | refine AtT.zL (d := 72) rfl (fun hg72 => ?_) (fun hg72 => ?_) | refine AtT.zK (d := 72) rfl (fun hg72 => ?_) (fun hg72 => ?_))
    all_goals first|refine AtT.zi ?_|refine AtT.zh ?_|(first | refine AtT.zx qp ?_ | refine AtT.zD qp ?_ | refine AtT.zw qp ?_)
    all_goals first|refine AtT.zi ?_|refine AtT.zh ?_|(refine AtT.ze ?_)
    all_goals first|refine AtT.zi ?_|refine AtT.zh ?_|(refine AtT.ze ?_)
    all_goals first|refine AtT.zi ?_|refine AtT.zh ?_|(refine AtT.ze ?_)
    all_goals first|refine AtT.zi ?_|refine AtT.zh ?_|(refine AtT.ze ?_)
    all_goals first|refine AtT.qE ?_|refine AtT.qi ?_|((refine AtT.kcall rfl rfl ok16 (of_f (out ++ [o]) o (by omega) _ _ (by rw [← hnl] at *; exact hs6)) ?_) ; (rintro v78 V78 hV78 hs78))
    all_goals first|refine AtT.qE ?_|refine AtT.qi ?_|((refine AtT.zC rfl rfl ok13 (batErr_f d ps hk sure _ hin hln _ _ _ ((hs5.le hVV6).le hV78) hs78) ?_) ; (rintro _ rfl))
    all_goals first|refine AtT.zi ?_|refine AtT.zh ?_|(refine AtT.jJ ?_)
    all_goals (refine AtT.setT (d := 80) rfl (c3) ?_)
    all_goals (refine AtT.zM ?_)
    all_goals refine AtT.done ?_
    all_goals (refine At.nrm ?_)
    refine At.qQ rfl rfl ?_
    refine At.nrm ?_
    refine At.zg (.q 0 (.q 1 .done)) ?_
    refine AtT.ze ?_
    refine AtT.zf ?_
    refine AtT.done ?_
    refine At.nrm ?_
    refine At.zg (.q 0 (.q 1 (.q 2 .done))) ?_
    refine AtT.ze ?_
    first | refine AtT.qo ?_ | refine AtT.zS ?_
    refine AtT.zf ?_
    refine AtT.done ?_
    refine At.nrm ?_
    refine At.round (k + 1, o) ?_ ?_ ?_ ?_
    ·show (qd out).toNat - (k + 1) < (qd out).toNat - k; omega
    ·exact ⟨((hV4.trans hV5).trans hVV6).trans hV78, by dsimp only; omega, .inr ⟨ho0, ho1, hor, c3⟩⟩
    ·exact ⟨rfl, rfl, rfl, rfl, rfl, rfl, rfl, rfl, rfl, rfl, ivs (by omega), trivial⟩
    ·exact Pt.zy
   ·refine At.draw (.q 0 (.q 1 (.q 2 (.q 3 (.q 4 (.q 5 (.q 6 (.q 7 (.q 8 (.q 9 (.q 10 (.q 11 (.q 12 (.q 13 (.q 14 (.q 15 (.q 16 (.q 17 (.n false 18 (.n false 19 (.q 20 (.q 21 .done)))))))))))))))))))))) ffm (by kernel_rfl) ?_
    refine AtT.ze ?_
    refine AtT.ze ?_
    refine AtT.jJ ?_
    refine AtT.setT (d := 62) rfl (c1) ?_
    refine AtT.ze ?_
    all_goals (first | refine AtT.kL 63 ?_ | refine AtT.zL (d := 63) rfl (fun hg63 => ?_) (fun hg63 => ?_) | refine AtT.zK (d := 63) rfl (fun hg63 => ?_) (fun hg63 => ?_))
    all_goals first|refine AtT.zi ?_|refine AtT.zh ?_|(refine AtT.ze ?_)
    all_goals first|refine AtT.zi ?_|refine AtT.zh ?_|(refine AtT.knot ?_)
    all_goals (refine AtT.setB (d := 65) rfl ((show (!true) = false from rfl)) ?_)
    all_goals first|refine AtT.zi ?_|refine AtT.zh ?_|(refine AtT.ze ?_)
    all_goals (first | refine AtT.kL 66 ?_ | refine AtT.zL (d := 66) rfl (fun hg66 => ?_) (fun hg66 => ?_) | refine AtT.zK (d := 66) rfl (fun hg66 => ?_) (fun hg66 => ?_))
    all_goals first|refine AtT.zi ?_|refine AtT.zh ?_|(refine AtT.ze ?_)
    all_goals first|refine AtT.zi ?_|refine AtT.zh ?_|(refine AtT.krem ?_)
    all_goals first|refine AtT.zi ?_|refine AtT.zh ?_|(refine AtT.jv ?_)
    all_goals (refine AtT.setT (d := 69) rfl (c2) ?_)
    all_goals first|refine AtT.zi ?_|refine AtT.zh ?_|(refine AtT.zM ?_)
    all_goals (refine AtT.zM ?_)
    all_goals (refine AtT.ze ?_)
    all_goals (first | refine AtT.kL 72 ?_ | refine AtT.zL (d := 72) rfl (fun hg72 => ?_) (fun hg72 => ?_) | refine AtT.zK (d := 72) rfl (fun hg72 => ?_) (fun hg72 => ?_))
    all_goals first|refine AtT.zi ?_|refine AtT.zh ?_|(first | refine AtT.zx qp ?_ | refine AtT.zD qp ?_ | refine AtT.zw qp ?_)
    all_goals first|refine AtT.zi ?_|refine AtT.zh ?_|(refine AtT.ze ?_)
    all_goals first|refine AtT.zi ?_|refine AtT.zh ?_|(refine AtT.ze ?_)
    all_goals first|refine AtT.zi ?_|refine AtT.zh ?_|(refine AtT.ze ?_)
    all_goals first|refine AtT.zi ?_|refine AtT.zh ?_|(refine AtT.ze ?_)
    all_goals first|refine AtT.qE ?_|refine AtT.qi ?_|((refine AtT.kcall rfl rfl ok16 (of_f (out ++ [o]) o (by omega) _ _ (by rw [← hnl] at *; exact hs6)) ?_) ; (rintro v78 V78 hV78 hs78))
    all_goals first|refine AtT.qE ?_|refine AtT.qi ?_|((refine AtT.zC rfl rfl ok13 (batErr_f d ps hk sure _ hin hln _ _ _ ((hs5.le hVV6).le hV78) hs78) ?_) ; (rintro _ rfl))
    all_goals first|refine AtT.zi ?_|refine AtT.zh ?_|(refine AtT.jJ ?_)
    all_goals (refine AtT.jA (d := 80) rfl (c3) ?_)
    all_goals (refine AtT.zM ?_)
    all_goals refine AtT.done ?_
    all_goals (refine At.nrm ?_)
    refine At.qB rfl rfl ?_
    refine At.nrm ?_
    refine At.zg (.q 0 (.q 1 (.q 2 .done))) ?_
    refine AtT.ze ?_
    first | refine AtT.qo ?_ | refine AtT.zS ?_
    refine AtT.zf ?_
    refine AtT.done ?_
    refine At.nrm ?_
    refine At.round (k + 1, b) ?_ ?_ ?_ ?_
    ·show (qd out).toNat - (k + 1) < (qd out).toNat - k; omega
    ·exact ⟨((hV4.trans hV5).trans hVV6).trans hV78, by dsimp only; omega, hpk⟩
    ·exact ⟨rfl, rfl, rfl, rfl, rfl, rfl, rfl, rfl, rfl, rfl, ivs (by omega), trivial⟩
    ·exact Pt.zy
   )
end Go.Proofs.YtadbifpalpdocaaGreatDoor.Q
end
section
set_option linter.unusedVariables false
namespace Go.Proofs.YtadbifpalpdocaaGreatDoor
open Go.Lw Go.Gl Go.Bl Go.RowKit
theorem als_alt {ts : List Tq} {L : List Nat} (h0 : trE ts = 0) (h : AlS ts L) : AlT ts L := by
 obtain ⟨_, ht⟩ := trE_ok h0
 refine ⟨h.nod, h.ord, fun x => ?_⟩
 rw [h.mem, ex_ext ht]
 constructor
 ·rintro ⟨a, b⟩; exact ⟨a, fun y hy => b y ((ex_ext ht).2 hy)⟩
 ·rintro ⟨a, b⟩; exact ⟨a, fun y hy => b y ((ex_ext ht).1 hy)⟩
theorem blamed_f (ts : List Tq) (c : Nat) (h1 : OneC ts c) (V : View) (v : Value) (hs : Sl V tqe 4 v ts) : Fnc Tryz.prog 11 [v, iv c] V fun r _ => r = .bool true := by
 have hc15 : c < 15 := by have := h1.c5; omega
 obtain ⟨a, cc, rfl, k1, k2, _⟩ := id hs
 clear k1 k2
 refine zT Tryz.func11 rfl Tryz.ntmps11 (Nat.le_of_ble_eq_true rfl) ?_
 intro w0 hw0
 refine At.nrm ?_
 refine At.zg (.q 0 .done) ?_
 refine AtT.zf ?_
 refine AtT.done ?_
 refine At.nrm ?_
 refine At.zg (.q 0 (.n false 1 (.q 2 (.q 3 (.q 4 (.q 5 (.q 6 .done))))))) ?_
 refine AtT.ze ?_
 refine AtT.zC rfl rfl ok21 (fewestA ts h1.al _ _ hs) ?_
 rintro _ ⟨L, x, hA, hx, rfl⟩
 refine AtT.ze ?_
 refine AtT.zG ?_
 refine AtT.zG ?_
 refine AtT.zf ?_
 refine AtT.zf ?_
 refine AtT.done ?_
 refine At.nrm ?_
 refine At.zg (.q 0 (.n false 1 (.q 2 (.q 3 (.q 4 (.q 5 (.q 6 .done))))))) ?_
 refine AtT.ze ?_
 refine AtT.kcall rfl rfl ok22 (allA ts h1.al _ _ hs) ?_
 rintro _ V20 hV20 ⟨u, L2, rfl, hA2, hsl⟩; obtain rfl := alS_uniq hA2 hA
 refine AtT.ze ?_
 refine AtT.zG ?_
 refine AtT.zG ?_
 refine AtT.zf ?_
 refine AtT.zf ?_
 refine AtT.done ?_
 refine At.nrm ?_
 refine At.zg (.q 0 (.q 1 (.n false 2 (.q 3 (.q 4 (.q 5 (.q 6 (.q 7 .done)))))))) ?_
 refine AtT.ze ?_
 refine AtT.ze ?_
 refine AtT.zC rfl rfl ok23 (blame_ok ts h1.al c hc15 _ _ (hs.le hV20)) ?_
 rintro _ ⟨L3, hA3, rfl⟩; obtain rfl := alS_uniq hA3 hA2
 refine AtT.ze ?_
 refine AtT.zG ?_
 refine AtT.zG ?_
 refine AtT.zf ?_
 refine AtT.zf ?_
 refine AtT.done ?_
 refine At.nrm ?_
 have hT := als_alt h1.tr hA2
 obtain ⟨m1, m2⟩ := h1.mem hT
 have hcx : cnt x = 1 := m2 x (List.mem_of_getElem? hx)
 obtain ⟨n1, n2⟩ := h1.may hT
 obtain ⟨qs, hq, hql, hqi⟩ := hsl
 obtain ⟨aq, cq, rfl, k1, k2, _⟩ := id hq
 clear k1 k2
 have hll : qs.length = L3.length := by rw [hql, List.length_map]
 have hbm : (bmN L3 c = 2 ∧ qs.length = 1) ∨ (bmN L3 c = 1 ∧ qs.length ≠ 1) := by
  unfold bmN
  rw [if_neg n1, hll]
  by_cases d : L3.length = 1
  ·rw [if_pos (n2.2 d)]; exact .inl ⟨rfl, d⟩
  ·rw [if_neg (fun e => d (n2.1 e))]; exact .inr ⟨rfl, d⟩
 have hpow : ∀ s, s ∈ L3 → (zX s 15 = [(c : Int)] ↔ s = 2 ^ c) := fun s hs' => by
  have e : zX (2 ^ c) 15 = [(c : Int)] := by
   have := h1.c5
   match c, this with
   | 0, _ => decide
   | 1, _ => decide
   | 2, _ => decide
   | 3, _ => decide
   | 4, _ => decide
   | n + 5, h => omega
  constructor
  ·intro h
   rw [← e] at h
   have h2 := congrArg btL h
   rw [btL_bitL (((hT.mem s).1 hs').1.1), btL_bitL h1.ex.1] at h2
   exact h2
  ·rintro rfl; exact e
 rw [hcx]
 refine At.cutG (ι := Unit) (fun _ => [(0, .slice a ts.length cc), (1, iv c), (7, .slice aq qs.length cq), (54, .bool false)]) (fun _ => []) (fun _ V' => V20 = V') ?_ ?_
 ·rcases hbm with ⟨b1, b2⟩ | ⟨b1, b2⟩
  ·rw [b1]
   refine At.zg (.q 0 (.q 1 (.q 2 (.q 3 (.q 4 (.q 5 (.q 6 (.q 7 (.q 8 (.q 9 (.q 10 (.q 11 (.q 12 (.q 13 (.q 14 (.q 15 (.q 16 (.q 17 (.q 18 (.q 19 (.q 20 (.q 21 (.q 22 (.q 23 (.q 24 (.q 25 .done)))))))))))))))))))))))))) ?_
   refine AtT.ze ?_
   refine AtT.kneI ?_
   refine AtT.jA (d := 30) rfl ((by simp)) ?_
   refine AtT.ze ?_
   all_goals (first | refine AtT.kL 31 ?_ | refine AtT.zL (d := 31) rfl (fun hg31 => ?_) (fun hg31 => ?_) | refine AtT.zK (d := 31) rfl (fun hg31 => ?_) (fun hg31 => ?_))
   all_goals first|refine AtT.zi ?_|refine AtT.zh ?_|(refine AtT.ze ?_)
   all_goals first|refine AtT.zi ?_|refine AtT.zh ?_|(refine AtT.kneI ?_)
   all_goals (refine AtT.jA (d := 33) rfl ((by simp)) ?_)
   all_goals (refine AtT.zM ?_)
   all_goals (refine AtT.ze ?_)
   all_goals (first | refine AtT.kL 35 ?_ | refine AtT.zL (d := 35) rfl (fun hg35 => ?_) (fun hg35 => ?_) | refine AtT.zK (d := 35) rfl (fun hg35 => ?_) (fun hg35 => ?_))
   all_goals first|refine AtT.zi ?_|refine AtT.zh ?_|(refine AtT.ze ?_)
   all_goals first|refine AtT.zi ?_|refine AtT.zh ?_|(refine AtT.kneI ?_)
   all_goals (refine AtT.jA (d := 37) rfl ((by simp)) ?_)
   all_goals (refine AtT.zM ?_)
   all_goals (refine AtT.ze ?_)
   all_goals (first | refine AtT.kL 39 ?_ | refine AtT.zL (d := 39) rfl (fun hg39 => ?_) (fun hg39 => ?_) | refine AtT.zK (d := 39) rfl (fun hg39 => ?_) (fun hg39 => ?_))
   all_goals first|refine AtT.zi ?_|refine AtT.zh ?_|(refine AtT.ze ?_)
   all_goals first|refine AtT.zi ?_|refine AtT.zh ?_|(refine AtT.kneI ?_)
   all_goals (refine AtT.jA (d := 41) rfl ((by simp)) ?_)
   all_goals (refine AtT.zM ?_)
   all_goals (refine AtT.ze ?_)
   all_goals (first | refine AtT.kL 43 ?_ | refine AtT.zL (d := 43) rfl (fun hg43 => ?_) (fun hg43 => ?_) | refine AtT.zK (d := 43) rfl (fun hg43 => ?_) (fun hg43 => ?_))
   all_goals first|refine AtT.zi ?_|refine AtT.zh ?_|(refine AtT.ze ?_)
   all_goals first|refine AtT.zi ?_|refine AtT.zh ?_|(refine AtT.jJ ?_)
   all_goals (refine AtT.jA (d := 45) rfl ((by simp)) ?_)
   all_goals (refine AtT.zM ?_)
   all_goals (refine AtT.ze ?_)
   all_goals (first | refine AtT.kL 47 ?_ | refine AtT.zL (d := 47) rfl (fun hg47 => ?_) (fun hg47 => ?_) | refine AtT.zK (d := 47) rfl (fun hg47 => ?_) (fun hg47 => ?_))
   all_goals first|refine AtT.zi ?_|refine AtT.zh ?_|(refine AtT.ze ?_)
   all_goals first|refine AtT.zi ?_|refine AtT.zh ?_|(refine AtT.jJ ?_)
   all_goals (refine AtT.setT (d := 49) rfl ((by simp)) ?_)
   all_goals first|refine AtT.zi ?_|refine AtT.zh ?_|(refine AtT.ze ?_)
   all_goals first|refine AtT.zi ?_|refine AtT.zh ?_|(first | refine AtT.zP Tryz.underlying56 ?_ | refine AtT.zQ Tryz.underlying56 ?_)
   all_goals first|refine AtT.zi ?_|refine AtT.zh ?_|(refine AtT.jJ ?_)
   all_goals (refine AtT.setT (d := 52) rfl ((by omega)) ?_)
   all_goals first|refine AtT.zi ?_|refine AtT.zh ?_|(refine AtT.neB rfl ⟨_, _, rfl, rfl, rfl⟩ Tryz.underlying4 rfl rfl (by decide) ?_)
   all_goals (refine AtT.zM ?_)
   all_goals refine AtT.done ?_
   all_goals (refine At.nrm ?_)
   exact At.meetG () rfl ⟨rfl, rfl, rfl, rfl, trivial⟩ Pt.zy
  ·rw [b1]
   refine At.zg (.q 0 (.q 1 (.q 2 (.q 3 (.q 4 (.q 5 (.q 6 (.q 7 (.q 8 (.q 9 (.q 10 (.q 11 (.q 12 (.q 13 (.q 14 (.q 15 (.q 16 (.q 17 (.q 18 (.q 19 (.q 20 (.q 21 (.q 22 (.q 23 (.q 24 (.q 25 .done)))))))))))))))))))))))))) ?_
   refine AtT.ze ?_
   refine AtT.kneI ?_
   refine AtT.jA (d := 30) rfl ((by simp)) ?_
   refine AtT.ze ?_
   all_goals (first | refine AtT.kL 31 ?_ | refine AtT.zL (d := 31) rfl (fun hg31 => ?_) (fun hg31 => ?_) | refine AtT.zK (d := 31) rfl (fun hg31 => ?_) (fun hg31 => ?_))
   all_goals first|refine AtT.zi ?_|refine AtT.zh ?_|(refine AtT.ze ?_)
   all_goals first|refine AtT.zi ?_|refine AtT.zh ?_|(refine AtT.kneI ?_)
   all_goals (refine AtT.jA (d := 33) rfl ((by simp)) ?_)
   all_goals (refine AtT.zM ?_)
   all_goals (refine AtT.ze ?_)
   all_goals (first | refine AtT.kL 35 ?_ | refine AtT.zL (d := 35) rfl (fun hg35 => ?_) (fun hg35 => ?_) | refine AtT.zK (d := 35) rfl (fun hg35 => ?_) (fun hg35 => ?_))
   all_goals first|refine AtT.zi ?_|refine AtT.zh ?_|(refine AtT.ze ?_)
   all_goals first|refine AtT.zi ?_|refine AtT.zh ?_|(refine AtT.kneI ?_)
   all_goals (refine AtT.jA (d := 37) rfl ((by simp)) ?_)
   all_goals (refine AtT.zM ?_)
   all_goals (refine AtT.ze ?_)
   all_goals (first | refine AtT.kL 39 ?_ | refine AtT.zL (d := 39) rfl (fun hg39 => ?_) (fun hg39 => ?_) | refine AtT.zK (d := 39) rfl (fun hg39 => ?_) (fun hg39 => ?_))
   all_goals first|refine AtT.zi ?_|refine AtT.zh ?_|(refine AtT.ze ?_)
   all_goals first|refine AtT.zi ?_|refine AtT.zh ?_|(refine AtT.kneI ?_)
   all_goals (refine AtT.jA (d := 41) rfl ((by simp)) ?_)
   all_goals (refine AtT.zM ?_)
   all_goals (refine AtT.ze ?_)
   all_goals (first | refine AtT.kL 43 ?_ | refine AtT.zL (d := 43) rfl (fun hg43 => ?_) (fun hg43 => ?_) | refine AtT.zK (d := 43) rfl (fun hg43 => ?_) (fun hg43 => ?_))
   all_goals first|refine AtT.zi ?_|refine AtT.zh ?_|(refine AtT.ze ?_)
   all_goals first|refine AtT.zi ?_|refine AtT.zh ?_|(refine AtT.jJ ?_)
   all_goals (refine AtT.jA (d := 45) rfl ((by simp)) ?_)
   all_goals (refine AtT.zM ?_)
   all_goals (refine AtT.ze ?_)
   all_goals (first | refine AtT.kL 47 ?_ | refine AtT.zL (d := 47) rfl (fun hg47 => ?_) (fun hg47 => ?_) | refine AtT.zK (d := 47) rfl (fun hg47 => ?_) (fun hg47 => ?_))
   all_goals first|refine AtT.zi ?_|refine AtT.zh ?_|(refine AtT.ze ?_)
   all_goals first|refine AtT.zi ?_|refine AtT.zh ?_|(refine AtT.jJ ?_)
   all_goals (refine AtT.jA (d := 49) rfl ((by simp)) ?_)
   all_goals first|refine AtT.zi ?_|refine AtT.zh ?_|(refine AtT.ze ?_)
   all_goals first|refine AtT.zi ?_|refine AtT.zh ?_|(first | refine AtT.zP Tryz.underlying56 ?_ | refine AtT.zQ Tryz.underlying56 ?_)
   all_goals first|refine AtT.zi ?_|refine AtT.zh ?_|(refine AtT.jJ ?_)
   all_goals (refine AtT.jA (d := 52) rfl ((by omega)) ?_)
   all_goals first|refine AtT.zi ?_|refine AtT.zh ?_|(refine AtT.neB rfl ⟨_, _, rfl, rfl, rfl⟩ Tryz.underlying4 rfl rfl (by decide) ?_)
   all_goals (refine AtT.zM ?_)
   all_goals refine AtT.done ?_
   all_goals (refine At.nrm ?_)
   exact At.meetG () rfl ⟨rfl, rfl, rfl, rfl, trivial⟩ Pt.zy
 rintro _ _ ks' O' rfl hk hO hl
 subst hk hO
 have hs20 := hs.le hV20
 have hqlen := hq.lenLe
 refine At.qB rfl rfl ?_
 refine At.nrm ?_
 refine At.zg (.q 0 .done) ?_
 refine AtT.zf ?_
 refine AtT.done ?_
 refine At.nrm ?_
 refine At.zg (.q 0 .done) ?_
 refine AtT.zf ?_
 refine AtT.done ?_
 refine At.nrm ?_
 refine At.lp (ι := Nat) (KS := fun k => [(0, .slice a ts.length cc), (1, iv c), (7, .slice aq qs.length cq), (11, .bool ((L3.take k).any fun s => decide (zX s 15 = [(c : Int)]))), (12, iv k)]) (OS := fun _ => [])
  (VS := fun k V' => Le V20 V' ∧ k ≤ qs.length) (μ := fun k => qs.length - k) 0 ?_ ?_ ?_ ?_
 ·exact ⟨rfl, rfl, rfl, rfl, rfl, trivial⟩
 ·exact Pt.zy
 ·exact ⟨Le.refl _, Nat.zero_le _⟩
 rintro k V1 ks' O' ⟨hV1, hk1⟩ hk hO hl1
 subst hk hO
 have hq1 := hq.le hV1
 refine At.nrm ?_
 refine At.zg (.q 0 (.q 1 (.q 2 (.q 3 .done)))) ?_
 refine AtT.ze ?_
 refine AtT.ze ?_
 first | refine AtT.zP Tryz.underlying56 ?_ | refine AtT.zQ Tryz.underlying56 ?_
 refine AtT.qW ?_
 refine AtT.done ?_
 refine At.nrm ?_
 refine At.zW rfl (fun hp => ?_) (fun hp => ?_)
 ·have hkl : k < L3.length := by omega
  have hkq : k < qs.length := by omega
  have hnx : (L3.take (k + 1)).any (fun s => decide (zX s 15 = [(c : Int)])) = ((L3.take k).any (fun s => decide (zX s 15 = [(c : Int)])) || decide (zX L3[k] 15 = [(c : Int)])) := by
   rw [List.take_succ_eq_append_getElem hkl, List.any_append]; simp
  cases hb : (L3.take k).any fun s => decide (zX s 15 = [(c : Int)]) with
  | true =>
   rw [hb] at hnx
   refine At.nrm ?_
   refine At.zg (.q 0 (.q 1 (.q 2 (.q 3 (.q 4 (.q 5 (.q 6 (.n false 7 (.n false 8 (.q 9 (.q 10 .done))))))))))) ?_
   refine AtT.ze ?_
   refine AtT.ze ?_
   all_goals (first | refine AtT.kL 62 ?_ | refine AtT.zL (d := 62) rfl (fun hg62 => ?_) (fun hg62 => ?_) | refine AtT.zK (d := 62) rfl (fun hg62 => ?_) (fun hg62 => ?_))
   all_goals first|refine AtT.zi ?_|refine AtT.zh ?_|(refine AtT.ze ?_)
   all_goals first|refine AtT.zi ?_|refine AtT.zh ?_|(refine AtT.ze ?_)
   all_goals first|refine AtT.zi ?_|refine AtT.zh ?_|(refine AtT.qK Tryz.underlying56 tk31 ?_) ; (intro p65 e65 he65 hc65)
   all_goals first|refine AtT.zi ?_|refine AtT.zh ?_|(first | refine AtT.zu tk31 ?_ | refine AtT.zF tk31 ?_)
   all_goals first|refine AtT.zi ?_|refine AtT.zh ?_|(refine AtT.ze ?_)
   all_goals first|refine AtT.qE ?_|refine AtT.qi ?_|((refine AtT.qb (qZ _) ?_) ; (intro q68 V68 hV68 hq68) ; (have g68 : Le V V68 := by first | exact hV68 | exact Le.trans (by assumption) hV68))
   all_goals first|refine AtT.qE ?_|refine AtT.qi ?_|((fail))
   all_goals (refine AtT.zM ?_)
   all_goals (refine AtT.zf ?_)
   all_goals refine AtT.done ?_
   all_goals (refine At.nrm ?_)
   refine At.nrm ?_
   refine At.zg (.q 0 (.q 1 (.q 2 .done))) ?_
   refine AtT.ze ?_
   first | refine AtT.qo ?_ | refine AtT.zS ?_
   refine AtT.zf ?_
   refine AtT.done ?_
   refine At.nrm ?_
   refine At.round (k + 1) ?_ ?_ ?_ ?_
   ·show qs.length - (k + 1) < qs.length - k; omega
   ·exact ⟨hV1, by omega⟩
   ·rw [hnx]; exact ⟨rfl, rfl, rfl, rfl, by congr 2, trivial⟩
   ·exact Pt.zy
  | false =>
   rw [hb] at hnx
   refine At.nrm ?_
   refine At.zg (.q 0 (.q 1 (.q 2 (.q 3 (.q 4 (.q 5 (.q 6 (.n false 7 (.n false 8 (.q 9 (.q 10 .done))))))))))) ?_
   refine AtT.ze ?_
   refine AtT.ze ?_
   all_goals (first | refine AtT.kL 62 ?_ | refine AtT.zL (d := 62) rfl (fun hg62 => ?_) (fun hg62 => ?_) | refine AtT.zK (d := 62) rfl (fun hg62 => ?_) (fun hg62 => ?_))
   all_goals first|refine AtT.zi ?_|refine AtT.zh ?_|(refine AtT.ze ?_)
   all_goals first|refine AtT.zi ?_|refine AtT.zh ?_|(refine AtT.ze ?_)
   all_goals first|refine AtT.zi ?_|refine AtT.zh ?_|(refine AtT.qK Tryz.underlying56 tk31 ?_) ; (intro p65 e65 he65 hc65)
   all_goals first|refine AtT.zi ?_|refine AtT.zh ?_|(first | refine AtT.zu tk31 ?_ | refine AtT.zF tk31 ?_)
   all_goals first|refine AtT.zi ?_|refine AtT.zh ?_|(refine AtT.ze ?_)
   all_goals first|refine AtT.qE ?_|refine AtT.qi ?_|((refine AtT.qb (qZ _) ?_) ; (intro q68 V68 hV68 hq68) ; (have g68 : Le V V68 := by first | exact hV68 | exact Le.trans (by assumption) hV68))
   all_goals first|refine AtT.qE ?_|refine AtT.qi ?_|((refine AtT.zC rfl rfl ok24 (ints_f (zX L3[k] 15) [(c : Int)] _ _ _ (((hqi k e65 _ (by simpa using he65) (by rw [List.getElem?_map, List.getElem?_eq_getElem hkl]; rfl)).le hV1).le hV68) (Sl.lit hq68 rfl (by simp))) ?_) ; (rintro _ rfl))
   all_goals (refine AtT.zM ?_)
   all_goals (refine AtT.zf ?_)
   all_goals refine AtT.done ?_
   all_goals (refine At.nrm ?_)
   refine At.nrm ?_
   refine At.zg (.q 0 (.q 1 (.q 2 .done))) ?_
   refine AtT.ze ?_
   first | refine AtT.qo ?_ | refine AtT.zS ?_
   refine AtT.zf ?_
   refine AtT.done ?_
   refine At.nrm ?_
   refine At.round (k + 1) ?_ ?_ ?_ ?_
   ·show qs.length - (k + 1) < qs.length - k; omega
   ·exact ⟨hV1.trans hV68, by omega⟩
   ·rw [hnx, Bool.false_or]; exact ⟨rfl, rfl, rfl, rfl, by congr 2, trivial⟩
   ·exact Pt.zy
 ·obtain rfl : k = qs.length := by omega
  have hall : (L3.take qs.length).any (fun s => decide (zX s 15 = [(c : Int)])) = true := by
   rw [hll, List.take_length]
   exact List.any_eq_true.2 ⟨_, m1, decide_eq_true ((hpow _ m1).2 rfl)⟩
  rw [hall]
  refine At.nrm ?_
  refine At.zg (.q 0 (.q 1 (.q 2 (.q 3 (.n false 4 (.n false 5 (.q 6 (.q 7 (.q 8 .done))))))))) ?_
  refine AtT.ze ?_
  refine AtT.ze ?_
  all_goals (first | refine AtT.kL 72 ?_ | refine AtT.zL (d := 72) rfl (fun hg72 => ?_) (fun hg72 => ?_) | refine AtT.zK (d := 72) rfl (fun hg72 => ?_) (fun hg72 => ?_))
  all_goals first|refine AtT.zi ?_|refine AtT.zh ?_|(refine AtT.ze ?_)
  all_goals first|refine AtT.zi ?_|refine AtT.zh ?_|(refine AtT.ze ?_)
  all_goals first|refine AtT.qE ?_|refine AtT.qi ?_|((refine AtT.qb (qZ _) ?_) ; (intro q75 V75 hV75 hq75) ; (have g75 : Le V V75 := by first | exact hV75 | exact Le.trans (by assumption) hV75))
  all_goals first|refine AtT.qE ?_|refine AtT.qi ?_|((refine AtT.zC rfl rfl ok25 (checkCauses_f ts [(c : Int)] _ _ _ ((hs20.le hV1).le hV75) (Sl.lit hq75 rfl (by simp))) ?_) ; (rintro _ rfl; rw [h1.cc]))
  all_goals first|refine AtT.zi ?_|refine AtT.zh ?_|(refine AtT.jJ ?_)
  all_goals (refine AtT.zM ?_)
  all_goals (refine AtT.zf ?_)
  all_goals refine AtT.done ?_
  all_goals (refine At.nrm ?_)
  exact At.zV rfl (.tmp rfl) (by simp)
theorem ok5 : zB Tryz.prog 5 := zn Tryz.func5 (by kernel_rfl) (by kernel_rfl)
theorem tm5 (a : Nat) : (a : Int).tmod 5 = ((a % 5 : Nat) : Int) := rfl
theorem td5 (a : Nat) : (a : Int).tdiv 5 = ((a / 5 : Nat) : Int) := rfl
theorem top_f (hW : ∀ V, Fnc Tryz.prog 5 [] V fun r _ => r = .bool true) (d : Dy) (ps : List Pn) (by' : List U8) (x : Int) (hx : 0 ≤ x ∧ x ≤ 255) (V : View) (v vb : Value) (hs : Sl V pne 3 v ps) (hy : Sl V e8 1 vb by') :
  Fnc Tryz.prog 3 [dyv d, v, vb, .int .u8 x] V fun r _ => r = .bool true := by
 obtain ⟨a, cc, rfl, k1, k2, _⟩ := id hs
 obtain ⟨ab, cb, rfl, k3, k4, _⟩ := id hy
 clear k1 k2 k3 k4
 have hlen := hs.lenLe
 have hlenb := hy.lenLe
 refine zT Tryz.func3 rfl Tryz.ntmps3 (Nat.le_of_ble_eq_true rfl) ?_
 intro w0 hw0
 refine At.nrm ?_
 refine At.zg (.n false 0 (.q 1 .done)) ?_
 refine AtT.kbox ?_
 intro b4
 refine AtT.zf ?_
 refine AtT.done ?_
 refine At.nrm ?_
 by_cases c1 : 10 < ps.length
 ·refine At.zg (.q 0 (.q 1 (.q 2 (.q 3 (.q 4 (.q 5 (.q 6 (.q 7 (.q 8 (.q 9 (.q 10 (.q 11 (.q 12 (.q 13 (.q 14 (.q 15 (.n false 16 (.q 17 (.q 18 .done))))))))))))))))))) ?_
  refine AtT.ze ?_
  first | refine AtT.zP Tryz.underlying26 ?_ | refine AtT.zQ Tryz.underlying26 ?_
  refine AtT.jv ?_
  refine AtT.setT (d := 18) rfl ((by omega)) ?_
  refine AtT.ze ?_
  all_goals (first | refine AtT.kL 19 ?_ | refine AtT.zL (d := 19) rfl (fun hg19 => ?_) (fun hg19 => ?_) | refine AtT.zK (d := 19) rfl (fun hg19 => ?_) (fun hg19 => ?_))
  all_goals first|refine AtT.zi ?_|refine AtT.zh ?_|(refine AtT.ze ?_)
  all_goals first|refine AtT.zi ?_|refine AtT.zh ?_|(first | refine AtT.zP Tryz.underlying26 ?_ | refine AtT.zQ Tryz.underlying26 ?_)
  all_goals first|refine AtT.zi ?_|refine AtT.zh ?_|(refine AtT.jJ ?_)
  all_goals (refine AtT.zM ?_)
  all_goals (refine AtT.ze ?_)
  all_goals (first | refine AtT.kL 24 ?_ | refine AtT.zL (d := 24) rfl (fun hg24 => ?_) (fun hg24 => ?_) | refine AtT.zK (d := 24) rfl (fun hg24 => ?_) (fun hg24 => ?_))
  all_goals first|refine AtT.zi ?_|refine AtT.zh ?_|(refine AtT.ze ?_)
  all_goals first|refine AtT.zi ?_|refine AtT.zh ?_|(first | refine AtT.zP Tryz.underlying27 ?_ | refine AtT.zQ Tryz.underlying27 ?_)
  all_goals first|refine AtT.zi ?_|refine AtT.zh ?_|(refine AtT.jv ?_)
  all_goals (refine AtT.zM ?_)
  all_goals (refine AtT.ze ?_)
  all_goals (first | refine AtT.kL 29 ?_ | refine AtT.zL (d := 29) rfl (fun hg29 => ?_) (fun hg29 => ?_) | refine AtT.zK (d := 29) rfl (fun hg29 => ?_) (fun hg29 => ?_))
  all_goals first|refine AtT.zi ?_|refine AtT.zh ?_|(first | refine AtT.zx qp ?_ | refine AtT.zD qp ?_ | refine AtT.zw qp ?_)
  all_goals first|refine AtT.zi ?_|refine AtT.zh ?_|(refine AtT.ze ?_)
  all_goals first|refine AtT.qE ?_|refine AtT.qi ?_|((fail))
  all_goals first|refine AtT.zi ?_|refine AtT.zh ?_|(refine AtT.kneI ?_)
  all_goals (refine AtT.zM ?_)
  all_goals refine AtT.done ?_
  all_goals (refine At.nrm ?_)
  refine At.qQ rfl rfl ?_
  refine At.nrm ?_
  refine At.zg (.n false 0 (.q 1 .done)) ?_
  refine AtT.zC rfl rfl ok5 (hW _) ?_
  rintro _ rfl
  refine AtT.zf ?_
  refine AtT.done ?_
  refine At.nrm ?_
  exact At.zV rfl (.tmp rfl) rfl
 by_cases c2 : ps.length = 0
 ·refine At.zg (.q 0 (.q 1 (.q 2 (.q 3 (.q 4 (.q 5 (.q 6 (.q 7 (.q 8 (.q 9 (.q 10 (.q 11 (.q 12 (.q 13 (.q 14 (.q 15 (.n false 16 (.q 17 (.q 18 .done))))))))))))))))))) ?_
  refine AtT.ze ?_
  first | refine AtT.zP Tryz.underlying26 ?_ | refine AtT.zQ Tryz.underlying26 ?_
  refine AtT.jv ?_
  refine AtT.jA (d := 18) rfl ((by omega)) ?_
  refine AtT.ze ?_
  all_goals (first | refine AtT.kL 19 ?_ | refine AtT.zL (d := 19) rfl (fun hg19 => ?_) (fun hg19 => ?_) | refine AtT.zK (d := 19) rfl (fun hg19 => ?_) (fun hg19 => ?_))
  all_goals first|refine AtT.zi ?_|refine AtT.zh ?_|(refine AtT.ze ?_)
  all_goals first|refine AtT.zi ?_|refine AtT.zh ?_|(first | refine AtT.zP Tryz.underlying26 ?_ | refine AtT.zQ Tryz.underlying26 ?_)
  all_goals first|refine AtT.zi ?_|refine AtT.zh ?_|(refine AtT.jJ ?_)
  all_goals (refine AtT.setT (d := 22) rfl ((by omega)) ?_)
  all_goals (refine AtT.zM ?_)
  all_goals (refine AtT.ze ?_)
  all_goals (first | refine AtT.kL 24 ?_ | refine AtT.zL (d := 24) rfl (fun hg24 => ?_) (fun hg24 => ?_) | refine AtT.zK (d := 24) rfl (fun hg24 => ?_) (fun hg24 => ?_))
  all_goals first|refine AtT.zi ?_|refine AtT.zh ?_|(refine AtT.ze ?_)
  all_goals first|refine AtT.zi ?_|refine AtT.zh ?_|(first | refine AtT.zP Tryz.underlying27 ?_ | refine AtT.zQ Tryz.underlying27 ?_)
  all_goals first|refine AtT.zi ?_|refine AtT.zh ?_|(refine AtT.jv ?_)
  all_goals (refine AtT.zM ?_)
  all_goals (refine AtT.ze ?_)
  all_goals (first | refine AtT.kL 29 ?_ | refine AtT.zL (d := 29) rfl (fun hg29 => ?_) (fun hg29 => ?_) | refine AtT.zK (d := 29) rfl (fun hg29 => ?_) (fun hg29 => ?_))
  all_goals first|refine AtT.zi ?_|refine AtT.zh ?_|(first | refine AtT.zx qp ?_ | refine AtT.zD qp ?_ | refine AtT.zw qp ?_)
  all_goals first|refine AtT.zi ?_|refine AtT.zh ?_|(refine AtT.ze ?_)
  all_goals first|refine AtT.qE ?_|refine AtT.qi ?_|((fail))
  all_goals first|refine AtT.zi ?_|refine AtT.zh ?_|(refine AtT.kneI ?_)
  all_goals (refine AtT.zM ?_)
  all_goals refine AtT.done ?_
  all_goals (refine At.nrm ?_)
  refine At.qQ rfl rfl ?_
  refine At.nrm ?_
  refine At.zg (.n false 0 (.q 1 .done)) ?_
  refine AtT.zC rfl rfl ok5 (hW _) ?_
  rintro _ rfl
  refine AtT.zf ?_
  refine AtT.done ?_
  refine At.nrm ?_
  exact At.zV rfl (.tmp rfl) rfl
 by_cases c3 : 20 < by'.length
 ·refine At.zg (.q 0 (.q 1 (.q 2 (.q 3 (.q 4 (.q 5 (.q 6 (.q 7 (.q 8 (.q 9 (.q 10 (.q 11 (.q 12 (.q 13 (.q 14 (.q 15 (.n false 16 (.q 17 (.q 18 .done))))))))))))))))))) ?_
  refine AtT.ze ?_
  first | refine AtT.zP Tryz.underlying26 ?_ | refine AtT.zQ Tryz.underlying26 ?_
  refine AtT.jv ?_
  refine AtT.jA (d := 18) rfl ((by omega)) ?_
  refine AtT.ze ?_
  all_goals (first | refine AtT.kL 19 ?_ | refine AtT.zL (d := 19) rfl (fun hg19 => ?_) (fun hg19 => ?_) | refine AtT.zK (d := 19) rfl (fun hg19 => ?_) (fun hg19 => ?_))
  all_goals first|refine AtT.zi ?_|refine AtT.zh ?_|(refine AtT.ze ?_)
  all_goals first|refine AtT.zi ?_|refine AtT.zh ?_|(first | refine AtT.zP Tryz.underlying26 ?_ | refine AtT.zQ Tryz.underlying26 ?_)
  all_goals first|refine AtT.zi ?_|refine AtT.zh ?_|(refine AtT.jJ ?_)
  all_goals (refine AtT.jA (d := 22) rfl ((by omega)) ?_)
  all_goals (refine AtT.zM ?_)
  all_goals (refine AtT.ze ?_)
  all_goals (first | refine AtT.kL 24 ?_ | refine AtT.zL (d := 24) rfl (fun hg24 => ?_) (fun hg24 => ?_) | refine AtT.zK (d := 24) rfl (fun hg24 => ?_) (fun hg24 => ?_))
  all_goals first|refine AtT.zi ?_|refine AtT.zh ?_|(refine AtT.ze ?_)
  all_goals first|refine AtT.zi ?_|refine AtT.zh ?_|(first | refine AtT.zP Tryz.underlying27 ?_ | refine AtT.zQ Tryz.underlying27 ?_)
  all_goals first|refine AtT.zi ?_|refine AtT.zh ?_|(refine AtT.jv ?_)
  all_goals (refine AtT.setT (d := 27) rfl ((by omega)) ?_)
  all_goals (refine AtT.zM ?_)
  all_goals (refine AtT.ze ?_)
  all_goals (first | refine AtT.kL 29 ?_ | refine AtT.zL (d := 29) rfl (fun hg29 => ?_) (fun hg29 => ?_) | refine AtT.zK (d := 29) rfl (fun hg29 => ?_) (fun hg29 => ?_))
  all_goals first|refine AtT.zi ?_|refine AtT.zh ?_|(first | refine AtT.zx qp ?_ | refine AtT.zD qp ?_ | refine AtT.zw qp ?_)
  all_goals first|refine AtT.zi ?_|refine AtT.zh ?_|(refine AtT.ze ?_)
  all_goals first|refine AtT.qE ?_|refine AtT.qi ?_|((fail))
  all_goals first|refine AtT.zi ?_|refine AtT.zh ?_|(refine AtT.kneI ?_)
  all_goals (refine AtT.zM ?_)
  all_goals refine AtT.done ?_
  all_goals (refine At.nrm ?_)
  refine At.qQ rfl rfl ?_
  refine At.nrm ?_
  refine At.zg (.n false 0 (.q 1 .done)) ?_
  refine AtT.zC rfl rfl ok5 (hW _) ?_
  rintro _ rfl
  refine AtT.zf ?_
  refine AtT.done ?_
  refine At.nrm ?_
  exact At.zV rfl (.tmp rfl) rfl
 by_cases c4 : rowE d ps true = 0
 rotate_left
 ·refine At.zg (.q 0 (.q 1 (.q 2 (.q 3 (.q 4 (.q 5 (.q 6 (.q 7 (.q 8 (.q 9 (.q 10 (.q 11 (.q 12 (.q 13 (.q 14 (.q 15 (.n false 16 (.q 17 (.q 18 .done))))))))))))))))))) ?_
  refine AtT.ze ?_
  first | refine AtT.zP Tryz.underlying26 ?_ | refine AtT.zQ Tryz.underlying26 ?_
  refine AtT.jv ?_
  refine AtT.jA (d := 18) rfl ((by omega)) ?_
  refine AtT.ze ?_
  all_goals (first | refine AtT.kL 19 ?_ | refine AtT.zL (d := 19) rfl (fun hg19 => ?_) (fun hg19 => ?_) | refine AtT.zK (d := 19) rfl (fun hg19 => ?_) (fun hg19 => ?_))
  all_goals first|refine AtT.zi ?_|refine AtT.zh ?_|(refine AtT.ze ?_)
  all_goals first|refine AtT.zi ?_|refine AtT.zh ?_|(first | refine AtT.zP Tryz.underlying26 ?_ | refine AtT.zQ Tryz.underlying26 ?_)
  all_goals first|refine AtT.zi ?_|refine AtT.zh ?_|(refine AtT.jJ ?_)
  all_goals (refine AtT.jA (d := 22) rfl ((by omega)) ?_)
  all_goals (refine AtT.zM ?_)
  all_goals (refine AtT.ze ?_)
  all_goals (first | refine AtT.kL 24 ?_ | refine AtT.zL (d := 24) rfl (fun hg24 => ?_) (fun hg24 => ?_) | refine AtT.zK (d := 24) rfl (fun hg24 => ?_) (fun hg24 => ?_))
  all_goals first|refine AtT.zi ?_|refine AtT.zh ?_|(refine AtT.ze ?_)
  all_goals first|refine AtT.zi ?_|refine AtT.zh ?_|(first | refine AtT.zP Tryz.underlying27 ?_ | refine AtT.zQ Tryz.underlying27 ?_)
  all_goals first|refine AtT.zi ?_|refine AtT.zh ?_|(refine AtT.jv ?_)
  all_goals (refine AtT.jA (d := 27) rfl ((by omega)) ?_)
  all_goals (refine AtT.zM ?_)
  all_goals (refine AtT.ze ?_)
  all_goals (first | refine AtT.kL 29 ?_ | refine AtT.zL (d := 29) rfl (fun hg29 => ?_) (fun hg29 => ?_) | refine AtT.zK (d := 29) rfl (fun hg29 => ?_) (fun hg29 => ?_))
  all_goals first|refine AtT.zi ?_|refine AtT.zh ?_|(first | refine AtT.zx qp ?_ | refine AtT.zD qp ?_ | refine AtT.zw qp ?_)
  all_goals first|refine AtT.zi ?_|refine AtT.zh ?_|(refine AtT.ze ?_)
  all_goals first|refine AtT.qE ?_|refine AtT.qi ?_|((refine AtT.zC rfl rfl ok4 (Q.rowErr_f d ps true _ _ hs) ?_) ; (rintro _ rfl))
  all_goals first|refine AtT.zi ?_|refine AtT.zh ?_|(refine AtT.kneI ?_)
  all_goals (refine AtT.setT (d := 33) rfl (c4) ?_)
  all_goals (refine AtT.zM ?_)
  all_goals refine AtT.done ?_
  all_goals (refine At.nrm ?_)
  refine At.qQ rfl rfl ?_
  refine At.nrm ?_
  refine At.zg (.n false 0 (.q 1 .done)) ?_
  refine AtT.zC rfl rfl ok5 (hW _) ?_
  rintro _ rfl
  refine AtT.zf ?_
  refine AtT.done ?_
  refine At.nrm ?_
  exact At.zV rfl (.tmp rfl) rfl
 refine At.zg (.q 0 (.q 1 (.q 2 (.q 3 (.q 4 (.q 5 (.q 6 (.q 7 (.q 8 (.q 9 (.q 10 (.q 11 (.q 12 (.q 13 (.q 14 (.q 15 (.n false 16 (.q 17 (.q 18 .done))))))))))))))))))) ?_
 refine AtT.ze ?_
 first | refine AtT.zP Tryz.underlying26 ?_ | refine AtT.zQ Tryz.underlying26 ?_
 refine AtT.jv ?_
 refine AtT.jA (d := 18) rfl ((by omega)) ?_
 refine AtT.ze ?_
 all_goals (first | refine AtT.kL 19 ?_ | refine AtT.zL (d := 19) rfl (fun hg19 => ?_) (fun hg19 => ?_) | refine AtT.zK (d := 19) rfl (fun hg19 => ?_) (fun hg19 => ?_))
 all_goals first|refine AtT.zi ?_|refine AtT.zh ?_|(refine AtT.ze ?_)
 all_goals first|refine AtT.zi ?_|refine AtT.zh ?_|(first | refine AtT.zP Tryz.underlying26 ?_ | refine AtT.zQ Tryz.underlying26 ?_)
 all_goals first|refine AtT.zi ?_|refine AtT.zh ?_|(refine AtT.jJ ?_)
 all_goals (refine AtT.jA (d := 22) rfl ((by omega)) ?_)
 all_goals (refine AtT.zM ?_)
 all_goals (refine AtT.ze ?_)
 all_goals (first | refine AtT.kL 24 ?_ | refine AtT.zL (d := 24) rfl (fun hg24 => ?_) (fun hg24 => ?_) | refine AtT.zK (d := 24) rfl (fun hg24 => ?_) (fun hg24 => ?_))
 all_goals first|refine AtT.zi ?_|refine AtT.zh ?_|(refine AtT.ze ?_)
 all_goals first|refine AtT.zi ?_|refine AtT.zh ?_|(first | refine AtT.zP Tryz.underlying27 ?_ | refine AtT.zQ Tryz.underlying27 ?_)
 all_goals first|refine AtT.zi ?_|refine AtT.zh ?_|(refine AtT.jv ?_)
 all_goals (refine AtT.jA (d := 27) rfl ((by omega)) ?_)
 all_goals (refine AtT.zM ?_)
 all_goals (refine AtT.ze ?_)
 all_goals (first | refine AtT.kL 29 ?_ | refine AtT.zL (d := 29) rfl (fun hg29 => ?_) (fun hg29 => ?_) | refine AtT.zK (d := 29) rfl (fun hg29 => ?_) (fun hg29 => ?_))
 all_goals first|refine AtT.zi ?_|refine AtT.zh ?_|(first | refine AtT.zx qp ?_ | refine AtT.zD qp ?_ | refine AtT.zw qp ?_)
 all_goals first|refine AtT.zi ?_|refine AtT.zh ?_|(refine AtT.ze ?_)
 all_goals first|refine AtT.qE ?_|refine AtT.qi ?_|((refine AtT.zC rfl rfl ok4 (Q.rowErr_f d ps true _ _ hs) ?_) ; (rintro _ rfl))
 all_goals first|refine AtT.zi ?_|refine AtT.zh ?_|(refine AtT.kneI ?_)
 all_goals (refine AtT.jA (d := 33) rfl ((by simp [c4])) ?_)
 all_goals (refine AtT.zM ?_)
 all_goals refine AtT.done ?_
 all_goals (refine At.nrm ?_)
 refine At.qB rfl rfl ?_
 refine At.nrm ?_
 refine At.zg (.q 0 (.q 1 (.q 2 (.n false 3 (.q 4 .done))))) ?_
 first | refine AtT.zx qp ?_ | refine AtT.zD qp ?_ | refine AtT.zw qp ?_
 refine AtT.ze ?_
 refine AtT.ze ?_
 refine AtT.kcall rfl rfl ok6 (Q.given_f d ps true by' false c4 _ _ _ hs hy (by omega)) ?_
 rintro _ V39 hV39 ⟨l, hl, hll, hpl, hgd⟩
 refine AtT.zf ?_
 refine AtT.done ?_
 refine At.nrm ?_
 obtain ⟨al, cl, rfl, k1, k2, _⟩ := id hl
 clear k1 k2
 have hbd := plan_bd hpl
 have hpb := plan_bat hpl
 have hl0 : 0 < l.length := by omega
 have hn1 := hbd l[0] (List.getElem_mem hl0)
 refine At.nrm ?_
 refine At.zg (.q 0 (.n false 1 (.q 2 .done))) ?_
 refine AtT.ze ?_
 refine AtT.zC rfl rfl ok7 (Q.bat_f l (fun y hy => by have := hpb.2 y hy; omega) _ _ hl) ?_
 rintro _ rfl
 refine AtT.zf ?_
 refine AtT.done ?_
 refine At.nrm ?_
 have hn0 : 0 < qd l := by omega
 refine At.nrm ?_
 refine At.zg (.q 0 (.q 1 .done)) ?_
 refine AtT.ze ?_
 refine AtT.jv ?_
 refine AtT.done ?_
 refine At.nrm ?_
 refine At.zW rfl (fun hp => ?_) (fun hp => ?_)
 ·refine At.nrm ?_
  refine At.zg (.n false 0 (.q 1 .done)) ?_
  refine AtT.zC rfl rfl ok5 (hW _) ?_
  rintro _ rfl
  refine AtT.zf ?_
  refine AtT.done ?_
  refine At.nrm ?_
  exact At.zV rfl (.tmp rfl) rfl
 have t0 := Int.tmod_nonneg (qd l) (show 0 ≤ x by omega)
 have t1 := Int.tmod_lt_of_pos x hn0
 obtain ⟨c, hc⟩ : ∃ c : Nat, x.tmod (qd l) = (c : Int) := ⟨(x.tmod (qd l)).toNat, by omega⟩
 have hc5 : c < 5 := by omega
 have hlenl := hl.lenLe
 have h1 : OneC (gbK l c l.length) c := gb_one hc5 (by omega) (fun y hy => by have := hbd y hy; omega) (plan_all hpl (by omega))
 have ew : IntKind.i64.wrap x = x := wrap_fit (Fit.of (by omega) (by omega))
 refine At.nrm ?_
 refine At.zg (.q 0 (.q 1 (.q 2 (.q 3 (.q 4 .done))))) ?_
 refine AtT.ze ?_
 refine AtT.kconv un5 Tryz.underlying3 ?_
 rw [ew]
 refine AtT.ze ?_
 refine AtT.krem ?_
 rw [hc]
 refine AtT.zf ?_
 refine AtT.done ?_
 refine At.nrm ?_
 refine At.zg (.q 0 .done) ?_
 refine AtT.zf ?_
 refine AtT.done ?_
 refine At.nrm ?_
 refine At.zg (.q 0 .done) ?_
 refine AtT.zf ?_
 refine AtT.done ?_
 refine At.nrm ?_
 refine At.newRow 38 4 ?_
 refine At.lp (ι := Nat × Option Addr × Nat) (KS := fun g => [(9, .slice al l.length cl), (11, iv c), (12, .slice g.2.1 g.1 g.2.2), (13, iv g.1)]) (OS := fun g => [.row (.slice g.2.1 g.1 g.2.2) 38 4 g.1 (flat tqe (gbK l c g.1))])
  (VS := fun g V' => Le V39 V' ∧ g.1 ≤ l.length) (μ := fun g => l.length - g.1) (0, none, 0) ?_ ?_ ?_ ?_
 ·exact ⟨rfl, rfl, rfl, rfl, trivial⟩
 ·exact Pt.zy
 ·exact ⟨Le.refl _, Nat.zero_le _⟩
 rintro ⟨k, ao, co⟩ V1 ks' O' ⟨hV1, hk1⟩ hk hO hl1
 dsimp only at hk1 hk hO
 subst hk hO
 have hl2 := hl.le hV1
 have f1 : Fit ((k : Int).tdiv 5) := by rw [td5]; exact Fit.of (by omega) (by omega)
 refine At.nrm ?_
 refine At.zg (.q 0 (.q 1 (.q 2 (.q 3 .done)))) ?_
 refine AtT.ze ?_
 refine AtT.ze ?_
 first | refine AtT.zP Tryz.underlying31 ?_ | refine AtT.zQ Tryz.underlying31 ?_
 refine AtT.qW ?_
 refine AtT.done ?_
 refine At.nrm ?_
 refine At.zW rfl (fun hp => ?_) (fun hp => ?_)
 ·have hkl : k < l.length := by omega
  have eg : l.getD k 0 = l[k] := by rw [List.getD_eq_getElem?_getD, List.getElem?_eq_getElem hkl]; rfl
  refine At.nrm ?_
  refine At.draw (.q 0 (.q 1 (.q 2 (.q 3 (.q 4 (.q 5 (.q 6 (.q 7 (.q 8 (.q 9 (.q 10 (.q 11 (.q 12 (.q 13 (.q 14 (.n false 15 (.n false 16 (.n true 17 (.q 18 .done))))))))))))))))))) ffm (by kernel_rfl) ?_
  refine AtT.ze ?_
  refine AtT.ze ?_
  refine AtT.ze ?_
  refine AtT.qK Tryz.underlying31 tk3 ?_
  intro p58 e58 he58 hc58
  obtain rfl : l[k] = e58 := by have : l[k]? = some e58 := (by simpa using he58); rw [List.getElem?_eq_getElem hkl] at this; simpa using this
  first | refine AtT.zu tk3 ?_ | refine AtT.zF tk3 ?_
  refine AtT.ze ?_
  refine AtT.krem ?_
  rw [tm5]
  refine AtT.ze ?_
  refine AtT.kquo ?_
  rw [td5]
  refine AtT.ze ?_
  refine AtT.ze ?_
  refine AtT.qK Tryz.underlying31 tk3 ?_
  intro p66 e66 he66 hc66
  obtain rfl : l[k] = e66 := by have : l[k]? = some e66 := (by simpa using he66); rw [List.getElem?_eq_getElem hkl] at this; simpa using this
  first | refine AtT.zu tk3 ?_ | refine AtT.zF tk3 ?_
  refine AtT.ze ?_
  refine AtT.jJ ?_
  refine AtT.zC rfl rfl ok8 (trial_f _ _ _ _ _) ?_
  rintro _ rfl
  refine AtT.qb (bs34_1_0 _ _ _ _) ?_
  intro q71 V71 hV71 hq71
  have g71 : Le V V71 := by first | exact hV71 | exact Le.trans (by assumption) hV71
  first | refine AtT.kappend Tryz.underlying34 rw38 ?_
  intro a72 c72
  refine AtT.zf ?_
  refine AtT.done ?_
  refine At.nrm ?_
  refine At.nrm ?_
  refine At.zg (.q 0 (.q 1 (.q 2 .done))) ?_
  refine AtT.ze ?_
  first | refine AtT.qo ?_ | refine AtT.zS ?_
  refine AtT.zf ?_
  refine AtT.done ?_
  refine At.nrm ?_
  refine At.round (k + 1, a72, c72) ?_ ?_ ?_ ?_
  ·show l.length - (k + 1) < l.length - k; omega
  ·exact ⟨hV1.trans hV71, by dsimp only; omega⟩
  ·exact ⟨rfl, rfl, rfl, ivs (by dsimp only; omega), trivial⟩
  ·dsimp only
   rw [gbK_succ, je]
   unfold gbT
   rw [eg]
   exact Pt.zy
 ·obtain rfl : k = l.length := by omega
  refine At.nrm ?_
  refine At.giveSl (l := gbK l c l.length) tqe_len rfl (by rw [gbK_len]) zJ.zy (fun V2 hV2 hs2 => ?_)
  have hsp : kF ⟨(c : Int), 4, 4⟩ = true := by unfold kF; rw [decide_eq_true_eq]; dsimp only; omega
  refine At.zg (.q 0 (.q 1 (.n false 2 (.n false 3 (.q 4 (.q 5 (.q 6 (.q 7 (.q 8 .done))))))))) ?_
  refine AtT.ze ?_
  refine AtT.ze ?_
  refine AtT.zC rfl rfl ok10 (panel_f _ _ _ _) ?_
  rintro _ rfl
  refine AtT.zC rfl rfl ok9 (failsF_ok _ h1.al ⟨(c : Int), 4, 4⟩ hsp _ _ hs2) ?_
  rintro _ ⟨L, hA, rfl⟩
  refine AtT.ze ?_
  refine AtT.zG ?_
  refine AtT.zG ?_
  refine AtT.zf ?_
  refine AtT.zf ?_
  refine AtT.done ?_
  refine At.nrm ?_
  have hfl := h1.fl (als_alt h1.tr hA) (p := ⟨(c : Int), 4, 4⟩) hsp rfl
  refine At.zg (.q 0 (.q 1 (.n false 2 (.q 3 (.q 4 (.q 5 (.q 6 (.q 7 (.q 8 (.q 9 (.q 10 (.q 11 (.n false 12 (.q 13 (.q 14 .done))))))))))))))) ?_
  refine AtT.ze ?_
  refine AtT.ze ?_
  refine AtT.zC rfl rfl ok11 (blamed_f _ c h1 _ _ hs2) ?_
  rintro _ rfl
  refine AtT.ze ?_
  all_goals (first | refine AtT.kL 83 ?_ | refine AtT.zL (d := 83) rfl (fun hg83 => ?_) (fun hg83 => ?_) | refine AtT.zK (d := 83) rfl (fun hg83 => ?_) (fun hg83 => ?_))
  all_goals first|refine AtT.zi ?_|refine AtT.zh ?_|(refine AtT.ze ?_)
  all_goals first|refine AtT.zi ?_|refine AtT.zh ?_|(refine AtT.jJ ?_)
  all_goals (refine AtT.setT (d := 85) rfl ((by simp)) ?_)
  all_goals (refine AtT.zM ?_)
  all_goals (refine AtT.ze ?_)
  all_goals (first | refine AtT.kL 87 ?_ | refine AtT.zL (d := 87) rfl (fun hg87 => ?_) (fun hg87 => ?_) | refine AtT.zK (d := 87) rfl (fun hg87 => ?_) (fun hg87 => ?_))
  all_goals first|refine AtT.zi ?_|refine AtT.zh ?_|(refine AtT.ze ?_)
  all_goals first|refine AtT.zi ?_|refine AtT.zh ?_|(refine AtT.kgeq ?_)
  all_goals (refine AtT.setT (d := 89) rfl ((by omega)) ?_)
  all_goals (refine AtT.zM ?_)
  all_goals (refine AtT.ze ?_)
  all_goals (first | refine AtT.kL 91 ?_ | refine AtT.zL (d := 91) rfl (fun hg91 => ?_) (fun hg91 => ?_) | refine AtT.zK (d := 91) rfl (fun hg91 => ?_) (fun hg91 => ?_))
  all_goals first|refine AtT.qE ?_|refine AtT.qi ?_|((refine AtT.zC rfl rfl ok5 (hW _) ?_) ; (rintro _ rfl))
  all_goals (refine AtT.zM ?_)
  all_goals (refine AtT.zf ?_)
  all_goals refine AtT.done ?_
  all_goals (refine At.nrm ?_)
  exact At.zV rfl (.tmp rfl) rfl
end Go.Proofs.YtadbifpalpdocaaGreatDoor
end
section
set_option linter.unusedVariables false
namespace Go.Lw
open Go.ChangeShapes Go.WideShapes Go.ChangeAt Go.RowKit Go.Joins Go.Deep
section
variable {H : Type} {enc : TypeId × Value → H} {P : Program} {W W' : World}
theorem stays_all (hl : laidOutB P = true) (hb : Below W.heap.size W W') : ∀ (ts : List TypeId) (vs : List Value) (ds : List (DataW H)) (ps : List MemPlace), (ts.all fun t => P.readableRec t && decide (t < P.types.size)) = true →
  (∀ x ∈ ps, x.block < W.heap.size) → DataW.TrodAll enc P W 0 (fun _ => true) true ts vs ds ps → DataW.TrodAll enc P W' 0 (fun b => decide (b < W.heap.size)) true ts vs ds ps
 | [], vs, ds, ps, _, _, h => by
  obtain ⟨rfl, rfl, rfl⟩ := trodAll_nil h
  exact trodAll_mk0
 | t :: ts, vs, ds, ps, ht, hlt, h => by
  obtain ⟨v, vs', d, ds', p, q, rfl, rfl, rfl, h0, h1⟩ := trodAll_cons h
  simp only [List.all_cons, Bool.and_eq_true, decide_eq_true_eq] at ht
  exact trodAll_cons_mk (Below.trod hl ht.1.1 ht.1.2 h0 hb fun x hx => hlt x (List.mem_append_left _ hx))
   (stays_all hl hb ts vs' ds' q ht.2 (fun x hx => hlt x (List.mem_append_right _ hx)) h1)
variable {base : Nat} {spare : Nat → Bool} {held : Bool}
theorem cells_hp {a : Addr} {n : Nat} {cs : List Value} (h : W.cells? base a n = some cs) : cs.length = n ∧ Cells (hp W) a cs := by
 obtain ⟨_, h1, h2⟩ := World.cells?_some h
 refine ⟨h1, fun j u hj => ?_⟩
 have hlt : j < n := by rw [← h1]; exact (List.getElem?_eq_some_iff.1 hj).1
 rw [vcell_hp, h2 j hlt]; exact hj
theorem sl_of {α : Type} {en : α → List Value} {T E : TypeId} {s : Nat} {fuel : Nat} {v : Value} {x : DataW H × List MemPlace} (hT : P.underlying T = some (.slice E)) (hE : P.cellsOf E = s)
  (hel : ∀ fuel cs x, DataW.trod enc P W base spare held fuel E cs = some x → cs.length = s → ∃ a, cs = en a) (h : DataW.trod enc P W base spare held fuel T [v] = some x) :
  ∃ (l : List α) (a : Option Addr) (cap : Nat), v = .slice a l.length cap ∧ Sl (hp W) en s (.slice a l.length cap) l := by
 subst hE
 rcases open_slice hT h with ⟨h0, _⟩ | ⟨a, len, cap, m, n, D, Pl, h0, _, hlc, hcm, hm, _, hx⟩
 ·simp only [List.cons.injEq, and_true] at h0
  exact ⟨[], none, 0, h0, Sl.nil _ _ _⟩
 ·simp only [List.cons.injEq, and_true] at h0
  have hlm : len ≤ m := by rw [hm]; split <;> omega
  have hch : ∀ i, i < len → ∃ y : α, Cells (hp W) (a.add (i * P.cellsOf E)) (en y) := fun i hi => by
   obtain ⟨cs', h1, h2⟩ := hx i (by omega)
   obtain ⟨hl, hc⟩ := cells_hp h1
   obtain ⟨y, rfl⟩ := hel _ _ _ h2 hl
   exact ⟨y, hc⟩
  have hl : ∀ k, k ≤ len → ∃ l : List α, l.length = k ∧ ∀ i y, l[i]? = some y → Cells (hp W) (a.add (i * P.cellsOf E)) (en y) := by
   intro k
   induction k with
   | zero => exact fun _ => ⟨[], rfl, fun i y h => by simp at h⟩
   | succ k ih =>
    intro hk
    obtain ⟨l, hl, hc⟩ := ih (by omega)
    obtain ⟨y, hy⟩ := hch k (by omega)
    refine ⟨l ++ [y], by simp [hl], fun i z hz => ?_⟩
    by_cases c : i < l.length
    ·rw [List.getElem?_append_left c] at hz; exact hc i z hz
    ·rw [List.getElem?_append_right (by omega)] at hz
     have e : i = k := by
      have := (List.getElem?_eq_some_iff.1 hz).1
      simp at this; omega
     subst e
     rw [hl] at hz
     simp at hz
     subst hz; exact hy
  obtain ⟨l, hl, hc⟩ := hl len (Nat.le_refl _)
  subst hl
  exact ⟨l, some a, cap, h0, some a, cap, rfl, hlc, hcm, fun _ => rfl, fun p hp i y hy => by cases hp; exact hc i y hy⟩
theorem el_int {E : TypeId} {k : IntKind} (hE : P.underlying E = some (.int k)) {fuel : Nat} {cs : List Value} {x : DataW H × List MemPlace} (h : DataW.trod enc P W base spare held fuel E cs = some x) : ∃ z : Int, cs = [.int k z] ∧ (Lit.int k z).wf = true := by
 obtain ⟨n, h1, _, h3⟩ := DataW.trod_int hE h
 exact ⟨n, h1, h3⟩
end
end Go.Lw
end
section
set_option linter.unusedVariables false
namespace Go.Lw
open Go.ChangeShapes Go.WideShapes Go.ChangeAt Go.RowKit Go.Joins Go.Deep
section
variable {H : Type} {enc : TypeId × Value → H} {P : Program} {W W' : World}
theorem law_liftL {laid : List (String × DataW Unit)} {C : Checked} {F : FuncId} {fn : Func} {tb : TypeId} {os : Os} {s : ChangeSpec} {conds : List PathCond} (hs : ∀ ds : List (DataW H), ds.length = fn.params.size → s.fn H (ds ++ []) = { results := [.lit (.bool true)], args := ds })
  (hvars : s.vars = []) (hres : fn.resultTypes = #[tb]) (htb : C.prog.underlying tb = some .bool) (hl : laidOutB C.prog = true) (hts : (fn.params.toList.all fun t => C.prog.readableRec t && decide (t < C.prog.types.size)) = true)
  (own : ownKnob C.prog.godebug = none) (started : os.Started) (noInit : C.prog.inits.idxOf? F = none) (hfn : C.prog.funcs[F]? = some fn)
  (witness : ∃ (w : World) (tape : Tape) (i : Input), w.os = os ∧ (w.forCall tape i).Shaped C.prog ∧ i.vars = [] ∧ Input.okWide C.prog (w.forCall tape i) .any w.heap.size F i ∧
   ((s.pre enc C.prog fn conds false (w.forCall tape i).memory i.args ∧ laidMetH C.prog laid (w.forCall tape i).memory) ∧ sizedMet enc C.prog fn (OpenSpec.ofChange s) false (w.forCall tape i).memory i.args) ∧ ({} : Assume).holds C.prog (lone (Frame.enter C.prog F i.args .normal) [] (w.forCall tape i)))
  (walk : ∀ (W : World) (base : Nat) (args : Array Value) (ds : List (DataW H)) (ps : List MemPlace), (∀ (j : Nat) t v, fn.params[j]? = some t → args[j]? = some v → Value.okWide C.prog W .any base t v) →
   DataW.TrodAll enc C.prog W 0 (fun _ => true) true fn.params.toList args.toList ds ps → ∃ l : List Value, args = l.toArray ∧ Fnc C.prog F l (hp W) fun v _ => v = .bool true) :
  ReturnsInHanded {} C os F .any (fun w args => (s.pre enc C.prog fn conds false w args ∧ laidMetH C.prog laid w) ∧ sizedMet enc C.prog fn (OpenSpec.ofChange s) false w args) (s.post enc C.prog fn false true false false) := by
 refine returnsInHanded_of_change_and (C := C) (X := fun w _ => laidMetH C.prog laid w) (fun _ _ _ hh h => h.of_heap hh) own started noInit hfn witness ?_
 intro W base args ds gs before hval hW _ _ _ _
 have hlt := hW.lt
 have hW' := hW
 obtain ⟨p, q, hA, hV, rfl, hfz, hnd⟩ := hW
 rw [hvars] at hV
 obtain ⟨rfl, rfl⟩ := trodVars_none hV
 obtain ⟨l, rfl, hF⟩ := walk W base args ds p hval hA
 refine (hF W (Le.refl _)).mono fun e W' ⟨v, V', he, hb, _, _, _, hv⟩ => ?_
 subst hv
 have hlen : ds.length = fn.params.size := by
  have key : ∀ (ts : List TypeId) (vs : List Value) (ds : List (DataW H)) (ps : List MemPlace), DataW.TrodAll enc C.prog W 0 (fun _ => true) true ts vs ds ps → ds.length = ts.length := by
   intro ts
   induction ts with
   | nil => intro vs ds ps h; obtain ⟨_, rfl, _⟩ := trodAll_nil h; rfl
   | cons t ts ih => intro vs ds ps h; obtain ⟨v, vs', d, ds', p, q, rfl, rfl, rfl, h0, h1⟩ := trodAll_cons h; simp [ih _ _ _ h1]
  simpa using key _ _ _ _ hA
 refine ⟨_, he, ds, [], p ++ [], [], p, [], hW', ?_, ?_, ?_, Below.frame hb _, fun h => by cases h⟩
 ·rw [hs ds hlen, hres]
  exact trodAll_mk1 (shut_bool htb true)
 ·rw [hs ds hlen]
  exact stays_all hl hb _ _ _ _ hts (fun x hx => hlt x (List.mem_append_left _ hx)) hA
 ·rw [hs ds hlen, hvars]
  exact rfl
end
end Go.Lw
end
section
set_option maxRecDepth 100000
namespace Go.Proofs.YtadbifpalpdocaaGreatDoor
open Go
theorem laid_ifaces (os : Os) : (World.holding Tryz.prog os ⟨#[], #[], []⟩).layIfaces Tryz.prog kG (World.laidAll Tryz.prog os kG) = true := by kernel_rfl
end Go.Proofs.YtadbifpalpdocaaGreatDoor
end
section
set_option linter.unusedVariables false
set_option linter.constructorNameAsVariable false
namespace Go.Ev
inductive So
 | u
 | n
 | s (id off len cap : Nat)
 | w (id off len cut : Nat)
 | m (id : Nat)
 | f (id : Nat)
 | y (id : Nat)
 | e
 | c (v : Value)
inductive Sc
 | i (k : IntKind) (n : Int)
 | b (b : Bool)
 | p (id off : Nat)
 | o (x : So)
inductive AV
 | x (s : Sc)
 | a (l : List Sc)
 | t (l : List (Sc ⊕ List Sc))
abbrev AV.u : AV := .x (.o .u)
abbrev AV.n : AV := .x (.o .n)
abbrev AV.i (k : IntKind) (n : Int) : AV := .x (.i k n)
abbrev AV.b (b : Bool) : AV := .x (.b b)
inductive Ex | n | x (id : Nat) | r
inductive D | d0 | d1 | d2 | d3 | d4 | d5 | d6 | d7
noncomputable def dOf (n : Nat) : D :=
 Nat.rec (motive := fun _ => D) .d0 (fun n _ => Nat.rec (motive := fun _ => D) .d1 (fun n _ => Nat.rec (motive := fun _ => D) .d2 (fun n _ => Nat.rec (motive := fun _ => D) .d3 (fun n _ => Nat.rec (motive := fun _ => D) .d4 (fun n _ => Nat.rec (motive := fun _ => D) .d5 (fun n _ => Nat.rec (motive := fun _ => D) .d6 (fun _ _ => .d7) n) n) n) n) n) n) n
noncomputable def dg1 (n : Nat) : D := dOf (Nat.land n 7)
noncomputable def dg2 (n : Nat) : D := dOf (Nat.land (Nat.shiftRight n 3) 7)
noncomputable def dg3 (n : Nat) : D := dOf (Nat.land (Nat.shiftRight n 6) 7)
noncomputable def dg4 (n : Nat) : D := dOf (Nat.land (Nat.shiftRight n 9) 7)
noncomputable def dg5 (n : Nat) : D := dOf (Nat.land (Nat.shiftRight n 12) 7)
noncomputable def nat {Z : Type} (n : Nat) (k : Nat → Z) : Z := Nat.rec (motive := fun _ => Z) (k 0) (fun m _ => k (Nat.succ m)) n
theorem nat_eq {Z : Type} (n : Nat) (k : Nat → Z) : nat n k = k n := by cases n <;> rfl
structure L1 where
 mk :: (c0 c1 c2 c3 c4 c5 c6 c7 : AV)
noncomputable def L1.e : L1 := .mk .n .n .n .n .n .n .n .n
structure L2 where
 mk :: (c0 c1 c2 c3 c4 c5 c6 c7 : L1)
noncomputable def L2.e : L2 := .mk L1.e L1.e L1.e L1.e L1.e L1.e L1.e L1.e
structure L3 where
 mk :: (c0 c1 c2 c3 c4 c5 c6 c7 : L2)
noncomputable def L3.e : L3 := .mk L2.e L2.e L2.e L2.e L2.e L2.e L2.e L2.e
structure L4 where
 mk :: (c0 c1 c2 c3 c4 c5 c6 c7 : L3)
noncomputable def L4.e : L4 := .mk L3.e L3.e L3.e L3.e L3.e L3.e L3.e L3.e
inductive TV
 | s (x : L1)
 | t (x : L2)
 | m (x : L3)
 | l (x : L4)
inductive BO
 | m (l : List (AV × AV))
 | h
 | g (key : AV) (gone : Bool) (l : List ((AV × AV) × Bool))
 | f (fn : FuncId) (first caps : List AV)
 | l (ps : List Nat) (assign body : Code) (t : L3)
 | d (ex : Ex)
 | i (m : Nat) (l : List (AV × AV))
 | b (m : Nat) (l rem : List (AV × AV))
 | c (m : Nat) (k v : AV) (l rem : List (AV × AV))
 | j (m : Nat) (l : List ((AV × AV) × Bool)) (x : Nat)
 | k (m : Nat) (key v : AV) (l : List ((AV × AV) × Bool)) (keep : Bool) (x : Nat) (cur : Bool)
 | q (m : Nat) (key v : AV)
 | z
 | t
 | v (bz : Bool) (ps : List Nat) (assign body : Code) (t : L3)
inductive B
 | x
 | c (E n : Nat) (t : TV)
 | r (E n : Nat) (t : TV)
 | o (b : BO)
structure H1 where
 mk :: (c0 c1 c2 c3 c4 c5 c6 c7 : B)
noncomputable def H1.e : H1 := .mk .x .x .x .x .x .x .x .x
structure H2 where
 mk :: (c0 c1 c2 c3 c4 c5 c6 c7 : H1)
noncomputable def H2.e : H2 := .mk H1.e H1.e H1.e H1.e H1.e H1.e H1.e H1.e
structure H3 where
 mk :: (c0 c1 c2 c3 c4 c5 c6 c7 : H2)
noncomputable def H3.e : H3 := .mk H2.e H2.e H2.e H2.e H2.e H2.e H2.e H2.e
structure H4 where
 mk :: (c0 c1 c2 c3 c4 c5 c6 c7 : H3)
noncomputable def H4.e : H4 := .mk H3.e H3.e H3.e H3.e H3.e H3.e H3.e H3.e
structure H5 where
 mk :: (c0 c1 c2 c3 c4 c5 c6 c7 : H4)
noncomputable def H5.e : H5 := .mk H4.e H4.e H4.e H4.e H4.e H4.e H4.e H4.e
structure H where
 mk :: (nxt lo : Nat) (ac : Nat × Nat) (t : H5)
abbrev R := Option (List (AV × H))
structure Q1 where
 mk :: (g : L1 → AV) (s : {Z : Type} → L1 → AV → (L1 → Z) → Z)
noncomputable def q1 (n : Nat) : Q1 := D.rec (motive := fun _ => Q1) (.mk (fun t => t.c0) (fun {Z} t v k => L1.rec (motive := fun _ => AV → (L1 → Z) → Z) (fun c0 c1 c2 c3 c4 c5 c6 c7 v k => k (.mk v c1 c2 c3 c4 c5 c6 c7)) t v k)) (.mk (fun t => t.c1) (fun {Z} t v k => L1.rec (motive := fun _ => AV → (L1 → Z) → Z) (fun c0 c1 c2 c3 c4 c5 c6 c7 v k => k (.mk c0 v c2 c3 c4 c5 c6 c7)) t v k)) (.mk (fun t => t.c2) (fun {Z} t v k => L1.rec (motive := fun _ => AV → (L1 → Z) → Z) (fun c0 c1 c2 c3 c4 c5 c6 c7 v k => k (.mk c0 c1 v c3 c4 c5 c6 c7)) t v k)) (.mk (fun t => t.c3) (fun {Z} t v k => L1.rec (motive := fun _ => AV → (L1 → Z) → Z) (fun c0 c1 c2 c3 c4 c5 c6 c7 v k => k (.mk c0 c1 c2 v c4 c5 c6 c7)) t v k)) (.mk (fun t => t.c4) (fun {Z} t v k => L1.rec (motive := fun _ => AV → (L1 → Z) → Z) (fun c0 c1 c2 c3 c4 c5 c6 c7 v k => k (.mk c0 c1 c2 c3 v c5 c6 c7)) t v k)) (.mk (fun t => t.c5) (fun {Z} t v k => L1.rec (motive := fun _ => AV → (L1 → Z) → Z) (fun c0 c1 c2 c3 c4 c5 c6 c7 v k => k (.mk c0 c1 c2 c3 c4 v c6 c7)) t v k)) (.mk (fun t => t.c6) (fun {Z} t v k => L1.rec (motive := fun _ => AV → (L1 → Z) → Z) (fun c0 c1 c2 c3 c4 c5 c6 c7 v k => k (.mk c0 c1 c2 c3 c4 c5 v c7)) t v k)) (.mk (fun t => t.c7) (fun {Z} t v k => L1.rec (motive := fun _ => AV → (L1 → Z) → Z) (fun c0 c1 c2 c3 c4 c5 c6 c7 v k => k (.mk c0 c1 c2 c3 c4 c5 c6 v)) t v k)) (dg1 n)
structure Q2 where
 mk :: (g : L2 → AV) (s : {Z : Type} → L2 → AV → (L2 → Z) → Z)
noncomputable def q2 (n : Nat) : Q2 := D.rec (motive := fun _ => Q2) (.mk (fun t => (q1 n).g t.c0) (fun {Z} t v k => L2.rec (motive := fun _ => AV → (L2 → Z) → Z) (fun c0 c1 c2 c3 c4 c5 c6 c7 v k => (q1 n).s c0 v fun y => k (.mk y c1 c2 c3 c4 c5 c6 c7)) t v k)) (.mk (fun t => (q1 n).g t.c1) (fun {Z} t v k => L2.rec (motive := fun _ => AV → (L2 → Z) → Z) (fun c0 c1 c2 c3 c4 c5 c6 c7 v k => (q1 n).s c1 v fun y => k (.mk c0 y c2 c3 c4 c5 c6 c7)) t v k)) (.mk (fun t => (q1 n).g t.c2) (fun {Z} t v k => L2.rec (motive := fun _ => AV → (L2 → Z) → Z) (fun c0 c1 c2 c3 c4 c5 c6 c7 v k => (q1 n).s c2 v fun y => k (.mk c0 c1 y c3 c4 c5 c6 c7)) t v k)) (.mk (fun t => (q1 n).g t.c3) (fun {Z} t v k => L2.rec (motive := fun _ => AV → (L2 → Z) → Z) (fun c0 c1 c2 c3 c4 c5 c6 c7 v k => (q1 n).s c3 v fun y => k (.mk c0 c1 c2 y c4 c5 c6 c7)) t v k)) (.mk (fun t => (q1 n).g t.c4) (fun {Z} t v k => L2.rec (motive := fun _ => AV → (L2 → Z) → Z) (fun c0 c1 c2 c3 c4 c5 c6 c7 v k => (q1 n).s c4 v fun y => k (.mk c0 c1 c2 c3 y c5 c6 c7)) t v k)) (.mk (fun t => (q1 n).g t.c5) (fun {Z} t v k => L2.rec (motive := fun _ => AV → (L2 → Z) → Z) (fun c0 c1 c2 c3 c4 c5 c6 c7 v k => (q1 n).s c5 v fun y => k (.mk c0 c1 c2 c3 c4 y c6 c7)) t v k)) (.mk (fun t => (q1 n).g t.c6) (fun {Z} t v k => L2.rec (motive := fun _ => AV → (L2 → Z) → Z) (fun c0 c1 c2 c3 c4 c5 c6 c7 v k => (q1 n).s c6 v fun y => k (.mk c0 c1 c2 c3 c4 c5 y c7)) t v k)) (.mk (fun t => (q1 n).g t.c7) (fun {Z} t v k => L2.rec (motive := fun _ => AV → (L2 → Z) → Z) (fun c0 c1 c2 c3 c4 c5 c6 c7 v k => (q1 n).s c7 v fun y => k (.mk c0 c1 c2 c3 c4 c5 c6 y)) t v k)) (dg2 n)
structure Q3 where
 mk :: (g : L3 → AV) (s : {Z : Type} → L3 → AV → (L3 → Z) → Z)
noncomputable def q3 (n : Nat) : Q3 := D.rec (motive := fun _ => Q3) (.mk (fun t => (q2 n).g t.c0) (fun {Z} t v k => L3.rec (motive := fun _ => AV → (L3 → Z) → Z) (fun c0 c1 c2 c3 c4 c5 c6 c7 v k => (q2 n).s c0 v fun y => k (.mk y c1 c2 c3 c4 c5 c6 c7)) t v k)) (.mk (fun t => (q2 n).g t.c1) (fun {Z} t v k => L3.rec (motive := fun _ => AV → (L3 → Z) → Z) (fun c0 c1 c2 c3 c4 c5 c6 c7 v k => (q2 n).s c1 v fun y => k (.mk c0 y c2 c3 c4 c5 c6 c7)) t v k)) (.mk (fun t => (q2 n).g t.c2) (fun {Z} t v k => L3.rec (motive := fun _ => AV → (L3 → Z) → Z) (fun c0 c1 c2 c3 c4 c5 c6 c7 v k => (q2 n).s c2 v fun y => k (.mk c0 c1 y c3 c4 c5 c6 c7)) t v k)) (.mk (fun t => (q2 n).g t.c3) (fun {Z} t v k => L3.rec (motive := fun _ => AV → (L3 → Z) → Z) (fun c0 c1 c2 c3 c4 c5 c6 c7 v k => (q2 n).s c3 v fun y => k (.mk c0 c1 c2 y c4 c5 c6 c7)) t v k)) (.mk (fun t => (q2 n).g t.c4) (fun {Z} t v k => L3.rec (motive := fun _ => AV → (L3 → Z) → Z) (fun c0 c1 c2 c3 c4 c5 c6 c7 v k => (q2 n).s c4 v fun y => k (.mk c0 c1 c2 c3 y c5 c6 c7)) t v k)) (.mk (fun t => (q2 n).g t.c5) (fun {Z} t v k => L3.rec (motive := fun _ => AV → (L3 → Z) → Z) (fun c0 c1 c2 c3 c4 c5 c6 c7 v k => (q2 n).s c5 v fun y => k (.mk c0 c1 c2 c3 c4 y c6 c7)) t v k)) (.mk (fun t => (q2 n).g t.c6) (fun {Z} t v k => L3.rec (motive := fun _ => AV → (L3 → Z) → Z) (fun c0 c1 c2 c3 c4 c5 c6 c7 v k => (q2 n).s c6 v fun y => k (.mk c0 c1 c2 c3 c4 c5 y c7)) t v k)) (.mk (fun t => (q2 n).g t.c7) (fun {Z} t v k => L3.rec (motive := fun _ => AV → (L3 → Z) → Z) (fun c0 c1 c2 c3 c4 c5 c6 c7 v k => (q2 n).s c7 v fun y => k (.mk c0 c1 c2 c3 c4 c5 c6 y)) t v k)) (dg3 n)
structure Q4 where
 mk :: (g : L4 → AV) (s : {Z : Type} → L4 → AV → (L4 → Z) → Z)
noncomputable def q4 (n : Nat) : Q4 := D.rec (motive := fun _ => Q4) (.mk (fun t => (q3 n).g t.c0) (fun {Z} t v k => L4.rec (motive := fun _ => AV → (L4 → Z) → Z) (fun c0 c1 c2 c3 c4 c5 c6 c7 v k => (q3 n).s c0 v fun y => k (.mk y c1 c2 c3 c4 c5 c6 c7)) t v k)) (.mk (fun t => (q3 n).g t.c1) (fun {Z} t v k => L4.rec (motive := fun _ => AV → (L4 → Z) → Z) (fun c0 c1 c2 c3 c4 c5 c6 c7 v k => (q3 n).s c1 v fun y => k (.mk c0 y c2 c3 c4 c5 c6 c7)) t v k)) (.mk (fun t => (q3 n).g t.c2) (fun {Z} t v k => L4.rec (motive := fun _ => AV → (L4 → Z) → Z) (fun c0 c1 c2 c3 c4 c5 c6 c7 v k => (q3 n).s c2 v fun y => k (.mk c0 c1 y c3 c4 c5 c6 c7)) t v k)) (.mk (fun t => (q3 n).g t.c3) (fun {Z} t v k => L4.rec (motive := fun _ => AV → (L4 → Z) → Z) (fun c0 c1 c2 c3 c4 c5 c6 c7 v k => (q3 n).s c3 v fun y => k (.mk c0 c1 c2 y c4 c5 c6 c7)) t v k)) (.mk (fun t => (q3 n).g t.c4) (fun {Z} t v k => L4.rec (motive := fun _ => AV → (L4 → Z) → Z) (fun c0 c1 c2 c3 c4 c5 c6 c7 v k => (q3 n).s c4 v fun y => k (.mk c0 c1 c2 c3 y c5 c6 c7)) t v k)) (.mk (fun t => (q3 n).g t.c5) (fun {Z} t v k => L4.rec (motive := fun _ => AV → (L4 → Z) → Z) (fun c0 c1 c2 c3 c4 c5 c6 c7 v k => (q3 n).s c5 v fun y => k (.mk c0 c1 c2 c3 c4 y c6 c7)) t v k)) (.mk (fun t => (q3 n).g t.c6) (fun {Z} t v k => L4.rec (motive := fun _ => AV → (L4 → Z) → Z) (fun c0 c1 c2 c3 c4 c5 c6 c7 v k => (q3 n).s c6 v fun y => k (.mk c0 c1 c2 c3 c4 c5 y c7)) t v k)) (.mk (fun t => (q3 n).g t.c7) (fun {Z} t v k => L4.rec (motive := fun _ => AV → (L4 → Z) → Z) (fun c0 c1 c2 c3 c4 c5 c6 c7 v k => (q3 n).s c7 v fun y => k (.mk c0 c1 c2 c3 c4 c5 c6 y)) t v k)) (dg4 n)
structure P1 where
 mk :: (g : H1 → B) (s : {Z : Type} → H1 → B → (H1 → Z) → Z)
noncomputable def p1 (n : Nat) : P1 := D.rec (motive := fun _ => P1) (.mk (fun t => t.c0) (fun {Z} t v k => H1.rec (motive := fun _ => B → (H1 → Z) → Z) (fun c0 c1 c2 c3 c4 c5 c6 c7 v k => k (.mk v c1 c2 c3 c4 c5 c6 c7)) t v k)) (.mk (fun t => t.c1) (fun {Z} t v k => H1.rec (motive := fun _ => B → (H1 → Z) → Z) (fun c0 c1 c2 c3 c4 c5 c6 c7 v k => k (.mk c0 v c2 c3 c4 c5 c6 c7)) t v k)) (.mk (fun t => t.c2) (fun {Z} t v k => H1.rec (motive := fun _ => B → (H1 → Z) → Z) (fun c0 c1 c2 c3 c4 c5 c6 c7 v k => k (.mk c0 c1 v c3 c4 c5 c6 c7)) t v k)) (.mk (fun t => t.c3) (fun {Z} t v k => H1.rec (motive := fun _ => B → (H1 → Z) → Z) (fun c0 c1 c2 c3 c4 c5 c6 c7 v k => k (.mk c0 c1 c2 v c4 c5 c6 c7)) t v k)) (.mk (fun t => t.c4) (fun {Z} t v k => H1.rec (motive := fun _ => B → (H1 → Z) → Z) (fun c0 c1 c2 c3 c4 c5 c6 c7 v k => k (.mk c0 c1 c2 c3 v c5 c6 c7)) t v k)) (.mk (fun t => t.c5) (fun {Z} t v k => H1.rec (motive := fun _ => B → (H1 → Z) → Z) (fun c0 c1 c2 c3 c4 c5 c6 c7 v k => k (.mk c0 c1 c2 c3 c4 v c6 c7)) t v k)) (.mk (fun t => t.c6) (fun {Z} t v k => H1.rec (motive := fun _ => B → (H1 → Z) → Z) (fun c0 c1 c2 c3 c4 c5 c6 c7 v k => k (.mk c0 c1 c2 c3 c4 c5 v c7)) t v k)) (.mk (fun t => t.c7) (fun {Z} t v k => H1.rec (motive := fun _ => B → (H1 → Z) → Z) (fun c0 c1 c2 c3 c4 c5 c6 c7 v k => k (.mk c0 c1 c2 c3 c4 c5 c6 v)) t v k)) (dg1 n)
structure P2 where
 mk :: (g : H2 → B) (s : {Z : Type} → H2 → B → (H2 → Z) → Z)
noncomputable def p2 (n : Nat) : P2 := D.rec (motive := fun _ => P2) (.mk (fun t => (p1 n).g t.c0) (fun {Z} t v k => H2.rec (motive := fun _ => B → (H2 → Z) → Z) (fun c0 c1 c2 c3 c4 c5 c6 c7 v k => (p1 n).s c0 v fun y => k (.mk y c1 c2 c3 c4 c5 c6 c7)) t v k)) (.mk (fun t => (p1 n).g t.c1) (fun {Z} t v k => H2.rec (motive := fun _ => B → (H2 → Z) → Z) (fun c0 c1 c2 c3 c4 c5 c6 c7 v k => (p1 n).s c1 v fun y => k (.mk c0 y c2 c3 c4 c5 c6 c7)) t v k)) (.mk (fun t => (p1 n).g t.c2) (fun {Z} t v k => H2.rec (motive := fun _ => B → (H2 → Z) → Z) (fun c0 c1 c2 c3 c4 c5 c6 c7 v k => (p1 n).s c2 v fun y => k (.mk c0 c1 y c3 c4 c5 c6 c7)) t v k)) (.mk (fun t => (p1 n).g t.c3) (fun {Z} t v k => H2.rec (motive := fun _ => B → (H2 → Z) → Z) (fun c0 c1 c2 c3 c4 c5 c6 c7 v k => (p1 n).s c3 v fun y => k (.mk c0 c1 c2 y c4 c5 c6 c7)) t v k)) (.mk (fun t => (p1 n).g t.c4) (fun {Z} t v k => H2.rec (motive := fun _ => B → (H2 → Z) → Z) (fun c0 c1 c2 c3 c4 c5 c6 c7 v k => (p1 n).s c4 v fun y => k (.mk c0 c1 c2 c3 y c5 c6 c7)) t v k)) (.mk (fun t => (p1 n).g t.c5) (fun {Z} t v k => H2.rec (motive := fun _ => B → (H2 → Z) → Z) (fun c0 c1 c2 c3 c4 c5 c6 c7 v k => (p1 n).s c5 v fun y => k (.mk c0 c1 c2 c3 c4 y c6 c7)) t v k)) (.mk (fun t => (p1 n).g t.c6) (fun {Z} t v k => H2.rec (motive := fun _ => B → (H2 → Z) → Z) (fun c0 c1 c2 c3 c4 c5 c6 c7 v k => (p1 n).s c6 v fun y => k (.mk c0 c1 c2 c3 c4 c5 y c7)) t v k)) (.mk (fun t => (p1 n).g t.c7) (fun {Z} t v k => H2.rec (motive := fun _ => B → (H2 → Z) → Z) (fun c0 c1 c2 c3 c4 c5 c6 c7 v k => (p1 n).s c7 v fun y => k (.mk c0 c1 c2 c3 c4 c5 c6 y)) t v k)) (dg2 n)
structure P3 where
 mk :: (g : H3 → B) (s : {Z : Type} → H3 → B → (H3 → Z) → Z)
noncomputable def p3 (n : Nat) : P3 := D.rec (motive := fun _ => P3) (.mk (fun t => (p2 n).g t.c0) (fun {Z} t v k => H3.rec (motive := fun _ => B → (H3 → Z) → Z) (fun c0 c1 c2 c3 c4 c5 c6 c7 v k => (p2 n).s c0 v fun y => k (.mk y c1 c2 c3 c4 c5 c6 c7)) t v k)) (.mk (fun t => (p2 n).g t.c1) (fun {Z} t v k => H3.rec (motive := fun _ => B → (H3 → Z) → Z) (fun c0 c1 c2 c3 c4 c5 c6 c7 v k => (p2 n).s c1 v fun y => k (.mk c0 y c2 c3 c4 c5 c6 c7)) t v k)) (.mk (fun t => (p2 n).g t.c2) (fun {Z} t v k => H3.rec (motive := fun _ => B → (H3 → Z) → Z) (fun c0 c1 c2 c3 c4 c5 c6 c7 v k => (p2 n).s c2 v fun y => k (.mk c0 c1 y c3 c4 c5 c6 c7)) t v k)) (.mk (fun t => (p2 n).g t.c3) (fun {Z} t v k => H3.rec (motive := fun _ => B → (H3 → Z) → Z) (fun c0 c1 c2 c3 c4 c5 c6 c7 v k => (p2 n).s c3 v fun y => k (.mk c0 c1 c2 y c4 c5 c6 c7)) t v k)) (.mk (fun t => (p2 n).g t.c4) (fun {Z} t v k => H3.rec (motive := fun _ => B → (H3 → Z) → Z) (fun c0 c1 c2 c3 c4 c5 c6 c7 v k => (p2 n).s c4 v fun y => k (.mk c0 c1 c2 c3 y c5 c6 c7)) t v k)) (.mk (fun t => (p2 n).g t.c5) (fun {Z} t v k => H3.rec (motive := fun _ => B → (H3 → Z) → Z) (fun c0 c1 c2 c3 c4 c5 c6 c7 v k => (p2 n).s c5 v fun y => k (.mk c0 c1 c2 c3 c4 y c6 c7)) t v k)) (.mk (fun t => (p2 n).g t.c6) (fun {Z} t v k => H3.rec (motive := fun _ => B → (H3 → Z) → Z) (fun c0 c1 c2 c3 c4 c5 c6 c7 v k => (p2 n).s c6 v fun y => k (.mk c0 c1 c2 c3 c4 c5 y c7)) t v k)) (.mk (fun t => (p2 n).g t.c7) (fun {Z} t v k => H3.rec (motive := fun _ => B → (H3 → Z) → Z) (fun c0 c1 c2 c3 c4 c5 c6 c7 v k => (p2 n).s c7 v fun y => k (.mk c0 c1 c2 c3 c4 c5 c6 y)) t v k)) (dg3 n)
structure P4 where
 mk :: (g : H4 → B) (s : {Z : Type} → H4 → B → (H4 → Z) → Z)
noncomputable def p4 (n : Nat) : P4 := D.rec (motive := fun _ => P4) (.mk (fun t => (p3 n).g t.c0) (fun {Z} t v k => H4.rec (motive := fun _ => B → (H4 → Z) → Z) (fun c0 c1 c2 c3 c4 c5 c6 c7 v k => (p3 n).s c0 v fun y => k (.mk y c1 c2 c3 c4 c5 c6 c7)) t v k)) (.mk (fun t => (p3 n).g t.c1) (fun {Z} t v k => H4.rec (motive := fun _ => B → (H4 → Z) → Z) (fun c0 c1 c2 c3 c4 c5 c6 c7 v k => (p3 n).s c1 v fun y => k (.mk c0 y c2 c3 c4 c5 c6 c7)) t v k)) (.mk (fun t => (p3 n).g t.c2) (fun {Z} t v k => H4.rec (motive := fun _ => B → (H4 → Z) → Z) (fun c0 c1 c2 c3 c4 c5 c6 c7 v k => (p3 n).s c2 v fun y => k (.mk c0 c1 y c3 c4 c5 c6 c7)) t v k)) (.mk (fun t => (p3 n).g t.c3) (fun {Z} t v k => H4.rec (motive := fun _ => B → (H4 → Z) → Z) (fun c0 c1 c2 c3 c4 c5 c6 c7 v k => (p3 n).s c3 v fun y => k (.mk c0 c1 c2 y c4 c5 c6 c7)) t v k)) (.mk (fun t => (p3 n).g t.c4) (fun {Z} t v k => H4.rec (motive := fun _ => B → (H4 → Z) → Z) (fun c0 c1 c2 c3 c4 c5 c6 c7 v k => (p3 n).s c4 v fun y => k (.mk c0 c1 c2 c3 y c5 c6 c7)) t v k)) (.mk (fun t => (p3 n).g t.c5) (fun {Z} t v k => H4.rec (motive := fun _ => B → (H4 → Z) → Z) (fun c0 c1 c2 c3 c4 c5 c6 c7 v k => (p3 n).s c5 v fun y => k (.mk c0 c1 c2 c3 c4 y c6 c7)) t v k)) (.mk (fun t => (p3 n).g t.c6) (fun {Z} t v k => H4.rec (motive := fun _ => B → (H4 → Z) → Z) (fun c0 c1 c2 c3 c4 c5 c6 c7 v k => (p3 n).s c6 v fun y => k (.mk c0 c1 c2 c3 c4 c5 y c7)) t v k)) (.mk (fun t => (p3 n).g t.c7) (fun {Z} t v k => H4.rec (motive := fun _ => B → (H4 → Z) → Z) (fun c0 c1 c2 c3 c4 c5 c6 c7 v k => (p3 n).s c7 v fun y => k (.mk c0 c1 c2 c3 c4 c5 c6 y)) t v k)) (dg4 n)
structure P5 where
 mk :: (g : H5 → B) (s : {Z : Type} → H5 → B → (H5 → Z) → Z)
noncomputable def p5 (n : Nat) : P5 := D.rec (motive := fun _ => P5) (.mk (fun t => (p4 n).g t.c0) (fun {Z} t v k => H5.rec (motive := fun _ => B → (H5 → Z) → Z) (fun c0 c1 c2 c3 c4 c5 c6 c7 v k => (p4 n).s c0 v fun y => k (.mk y c1 c2 c3 c4 c5 c6 c7)) t v k)) (.mk (fun t => (p4 n).g t.c1) (fun {Z} t v k => H5.rec (motive := fun _ => B → (H5 → Z) → Z) (fun c0 c1 c2 c3 c4 c5 c6 c7 v k => (p4 n).s c1 v fun y => k (.mk c0 y c2 c3 c4 c5 c6 c7)) t v k)) (.mk (fun t => (p4 n).g t.c2) (fun {Z} t v k => H5.rec (motive := fun _ => B → (H5 → Z) → Z) (fun c0 c1 c2 c3 c4 c5 c6 c7 v k => (p4 n).s c2 v fun y => k (.mk c0 c1 y c3 c4 c5 c6 c7)) t v k)) (.mk (fun t => (p4 n).g t.c3) (fun {Z} t v k => H5.rec (motive := fun _ => B → (H5 → Z) → Z) (fun c0 c1 c2 c3 c4 c5 c6 c7 v k => (p4 n).s c3 v fun y => k (.mk c0 c1 c2 y c4 c5 c6 c7)) t v k)) (.mk (fun t => (p4 n).g t.c4) (fun {Z} t v k => H5.rec (motive := fun _ => B → (H5 → Z) → Z) (fun c0 c1 c2 c3 c4 c5 c6 c7 v k => (p4 n).s c4 v fun y => k (.mk c0 c1 c2 c3 y c5 c6 c7)) t v k)) (.mk (fun t => (p4 n).g t.c5) (fun {Z} t v k => H5.rec (motive := fun _ => B → (H5 → Z) → Z) (fun c0 c1 c2 c3 c4 c5 c6 c7 v k => (p4 n).s c5 v fun y => k (.mk c0 c1 c2 c3 c4 y c6 c7)) t v k)) (.mk (fun t => (p4 n).g t.c6) (fun {Z} t v k => H5.rec (motive := fun _ => B → (H5 → Z) → Z) (fun c0 c1 c2 c3 c4 c5 c6 c7 v k => (p4 n).s c6 v fun y => k (.mk c0 c1 c2 c3 c4 c5 y c7)) t v k)) (.mk (fun t => (p4 n).g t.c7) (fun {Z} t v k => H5.rec (motive := fun _ => B → (H5 → Z) → Z) (fun c0 c1 c2 c3 c4 c5 c6 c7 v k => (p4 n).s c7 v fun y => k (.mk c0 c1 c2 c3 c4 c5 c6 y)) t v k)) (dg5 n)
noncomputable def TV.get (t : TV) (n : Nat) : AV := TV.rec (motive := fun _ => Nat → AV) (fun x n => (q1 n).g x) (fun x n => (q2 n).g x) (fun x n => (q3 n).g x) (fun x n => (q4 n).g x) t n
noncomputable def TV.set {Z : Type} (t : TV) (n : Nat) (v : AV) (k : TV → Z) : Z := TV.rec (motive := fun _ => Nat → AV → (TV → Z) → Z) (fun x n v k => (q1 n).s x v fun y => k (.s y)) (fun x n v k => (q2 n).s x v fun y => k (.t y)) (fun x n v k => (q3 n).s x v fun y => k (.m y)) (fun x n v k => (q4 n).s x v fun y => k (.l y)) t n v k
noncomputable def TV.emp {Z : Type} (n : Nat) (k : TV → Option Z) : Option Z :=
 Bool.rec (motive := fun _ => Option Z) (Bool.rec (motive := fun _ => Option Z) (Bool.rec (motive := fun _ => Option Z) (Bool.rec (motive := fun _ => Option Z) none (k (.l L4.e)) (Nat.ble n 4096)) (k (.m L3.e)) (Nat.ble n 512)) (k (.t L2.e)) (Nat.ble n 64)) (k (.s L1.e)) (Nat.ble n 8)
end Go.Ev
end
section
set_option linter.unusedVariables false
set_option linter.constructorNameAsVariable false
namespace Go.Ev
open Go.Lw
@[irreducible] noncomputable def Pr : Program := Go.Proofs.Tryz.prog
abbrev KV := AV → H → R
/-! ### Values -/
noncomputable def of1 (v : Value) : Option Sc := match v with | .int k n => some (.i k n) | .bool b => some (.b b) | .agg _ => none | .tuple _ => none | v => some (.o (.c v))
noncomputable def ofL : List Value → Option (List Sc)
 | [] => some []
 | v :: l => match of1 v, ofL l with | some s, some r => some (s :: r) | _, _ => none
noncomputable def ofV (v : Value) : AV := match v with | .int k n => .x (.i k n) | .bool b => .x (.b b) | .agg cs => (match ofL cs.toList with | some l => .a l | none => .u) | .tuple _ => .u | v => .x (.o (.c v))
noncomputable def obn {Y Z : Type} (o : Option Y) (k : Y → Option Z) : Option Z := Option.rec (motive := fun _ => Option Z) none (fun y => k y) o
noncomputable def gd {Z : Type} (b : Bool) (x : Option Z) : Option Z := Bool.rec (motive := fun _ => Option Z) none x b
noncomputable def jR {Z : Type} (b : Bool) (x y : Option Z) : Option Z := Bool.rec (motive := fun _ => Option Z) y x b
noncomputable def asI_s {Z : Type} (s : Sc) : (IntKind → Int → Option Z) → Option Z := Sc.rec (motive := fun _ => (IntKind → Int → Option Z) → Option Z) (fun k n K => K k n) (fun _ _ => none) (fun _ _ _ => none) (fun _ _ => none) s
noncomputable def asI {Z : Type} (v : AV) : (IntKind → Int → Option Z) → Option Z := AV.rec (motive := fun _ => (IntKind → Int → Option Z) → Option Z) (fun s => asI_s s) (fun _ _ => none) (fun _ _ => none) v
noncomputable def asB_s {Z : Type} (s : Sc) : (Bool → Option Z) → Option Z := Sc.rec (motive := fun _ => (Bool → Option Z) → Option Z) (fun _ _ _ => none) (fun b K => K b) (fun _ _ _ => none) (fun _ _ => none) s
noncomputable def asB {Z : Type} (v : AV) : (Bool → Option Z) → Option Z := AV.rec (motive := fun _ => (Bool → Option Z) → Option Z) (fun s => asB_s s) (fun _ _ => none) (fun _ _ => none) v
noncomputable def asP_s {Z : Type} (s : Sc) : (Nat → Nat → Option Z) → Option Z := Sc.rec (motive := fun _ => (Nat → Nat → Option Z) → Option Z) (fun _ _ _ => none) (fun _ _ => none) (fun i o K => K i o) (fun _ _ => none) s
noncomputable def asP {Z : Type} (v : AV) : (Nat → Nat → Option Z) → Option Z := AV.rec (motive := fun _ => (Nat → Nat → Option Z) → Option Z) (fun s => asP_s s) (fun _ _ => none) (fun _ _ => none) v
noncomputable def asO_s {Z : Type} (s : Sc) : (So → Option Z) → Option Z := Sc.rec (motive := fun _ => (So → Option Z) → Option Z) (fun _ _ _ => none) (fun _ _ => none) (fun _ _ _ => none) (fun x K => K x) s
noncomputable def asO {Z : Type} (v : AV) : (So → Option Z) → Option Z := AV.rec (motive := fun _ => (So → Option Z) → Option Z) (fun s => asO_s s) (fun _ _ => none) (fun _ _ => none) v
noncomputable def asA {Z : Type} (v : AV) : (List Sc → Option Z) → Option Z := AV.rec (motive := fun _ => (List Sc → Option Z) → Option Z) (fun _ _ => none) (fun l K => K l) (fun _ _ => none) v
noncomputable def asT {Z : Type} (v : AV) : (List (Sc ⊕ List Sc) → Option Z) → Option Z := AV.rec (motive := fun _ => (List (Sc ⊕ List Sc) → Option Z) → Option Z) (fun _ _ => none) (fun _ _ => none) (fun l K => K l) v
noncomputable def frc_s {Z : Type} (s : Sc) : (Sc → Z) → Z := Sc.rec (motive := fun _ => (Sc → Z) → Z) (fun k n K => K (.i k n)) (fun b K => K (.b b)) (fun i o K => K (.p i o)) (fun x K => K (.o x)) s
noncomputable def frc {Z : Type} (v : AV) : (AV → Z) → Z := AV.rec (motive := fun _ => (AV → Z) → Z) (fun s K => K (.x s)) (fun l K => K (.a l)) (fun l K => K (.t l)) v
noncomputable def cel {Z : Type} (s : Sc) : (Sc → Option Z) → Option Z := Sc.rec (motive := fun _ => (Sc → Option Z) → Option Z) (fun k n K => K (.i k n)) (fun b K => K (.b b)) (fun i o K => K (.p i o)) (fun x K => gd (So.rec (motive := fun _ => Bool) false false (fun _ _ _ _ => true) (fun _ _ _ _ => true) (fun _ => true) (fun _ => true) (fun _ => true) true (fun _ => true) x) (K (.o x))) s
structure Ev where
 mk :: (v : L3 → AV)
noncomputable def evO (x : Operand) : Ev := Operand.rec (motive := fun _ => Ev) (fun t => .mk fun τ => (q3 t).g τ) (fun v => .mk fun _ => ofV v) (fun g => .mk fun _ => .u) (fun f => .mk fun _ => .x (.o (.c (.func (.func f) #[] #[])))) x
/-! ### Numbers -/
noncomputable def kNo (k : IntKind) : Nat := IntKind.rec (motive := fun _ => Nat) 0 1 2 3 4 5 6 7 k
noncomputable def lim (k : IntKind) : Nat := IntKind.rec (motive := fun _ => Nat) 128 32768 2147483648 9223372036854775808 256 65536 4294967296 18446744073709551616 k
noncomputable def bts (k : IntKind) : Nat := IntKind.rec (motive := fun _ => Nat) 8 16 32 64 8 16 32 64 k
noncomputable def sgn (k : IntKind) : Bool := IntKind.rec (motive := fun _ => Bool) true true true true false false false false k
noncomputable def frcI (k : IntKind) (n : Int) : Option AV := Int.rec (motive := fun _ => IntKind → Option AV) (fun m k => nat m fun m => some (.i k (.ofNat m))) (fun m k => nat m fun m => some (.i k (.negSucc m))) n k
noncomputable def mkI (k : IntKind) (n : Int) : Option AV :=
 Int.rec (motive := fun _ => IntKind → Option AV)
  (fun m k => nat m fun m => jR (Nat.blt m (lim k)) (some (.i k (.ofNat m))) (frcI k (k.wrap (.ofNat m))))
  (fun m k => nat m fun m => jR (sgn k && Nat.blt m (lim k)) (some (.i k (.negSucc m))) (frcI k (k.wrap (.negSucc m)))) n k
noncomputable def jy (x y : Int) : Bool := Int.rec (motive := fun _ => Int → Bool) (fun a y => Int.rec (motive := fun _ => Nat → Bool) (fun b a => Nat.ble a b) (fun _ _ => false) y a) (fun a y => Int.rec (motive := fun _ => Nat → Bool) (fun _ _ => true) (fun b a => Nat.ble b a) y a) x y
noncomputable def ieqB (x y : Int) : Bool := Int.rec (motive := fun _ => Int → Bool) (fun a y => Int.rec (motive := fun _ => Nat → Bool) (fun b a => Nat.beq a b) (fun _ _ => false) y a) (fun a y => Int.rec (motive := fun _ => Nat → Bool) (fun _ _ => false) (fun b a => Nat.beq a b) y a) x y
noncomputable def bl (b : Bool) : Option AV := Bool.rec (motive := fun _ => Option AV) (some (.b false)) (some (.b true)) b
noncomputable def blN (b : Bool) : Option AV := Bool.rec (motive := fun _ => Option AV) (some (.b true)) (some (.b false)) b
noncomputable def two {Z : Type} (x y : AV) (K : IntKind → Int → Int → Option Z) : Option Z := asI x fun k a => asI y fun k' b => gd (Nat.beq (kNo k) (kNo k')) (K k a b)
noncomputable def nn {Z : Type} (a : Int) (K : Nat → Option Z) : Option Z := Int.rec (motive := fun _ => (Nat → Option Z) → Option Z) (fun a K => K a) (fun _ _ => none) a K
noncomputable def bitE (f : (n : Nat) → BitVec n → BitVec n → BitVec n) (k : IntKind) (a b : Int) : Option AV := frcI k (k.wrap ((f k.bits (BitVec.ofInt k.bits a) (BitVec.ofInt k.bits b)).toNat : Int))
/-! ### Equality -/
noncomputable def lvF (g : TypeId → Option (List Nat)) : List Field → Option (List Nat)
 | [] => some []
 | f :: fs => match tkB Pr f.type, g f.type, lvF g fs with
  | some z, some l, some r => gd (f.name != "_" && l.all (fun i => Nat.blt i z.2)) (some (l.map (f.offset + ·) ++ r))
  | _, _, _ => none
noncomputable def lvs : Nat → TypeId → Option (List Nat)
 | 0, _ => none
 | d + 1, t => match Pr.underlying t with
  | some (.int _) => some [0]
  | some (.struct fs) => jR (Pr.stoodInHeld t) none (lvF (lvs d) fs.toList)
  | some (.array n E) => (match tkB Pr E, lvs d E with
   | some z, some l => gd (l.all fun i => Nat.blt i z.2) (some ((List.range n).flatMap fun i => l.map (i * z.2 + ·)))
   | _, _ => none)
  | _ => none
noncomputable def agB (t : TypeId) : Option Nat := match tkB Pr t with | some z => (match lvs 8 t with | some l => gd (z.1 && l == List.range z.2 && !Pr.eqGuardType Pr.depth t) (some z.2) | none => none) | none => none
inductive Cl | ag (n : Nat) | pt | sl | st
noncomputable def clsB (t : TypeId) : Option Cl := match Pr.underlying t with
 | some (.pointer E) => (match tkB Pr E with | some z => jR (Nat.beq z.2 0) none (some .pt) | none => none)
 | some (.slice _) => some .sl
 | some .string => some .st
 | some (.struct _) => (agB t).map .ag
 | some (.array _ _) => (agB t).map .ag
 | _ => none
noncomputable def eqI (x y : Sc) (K : Bool → Option Bool) : Option Bool := Sc.rec (motive := fun _ => Option Bool) (fun k a => Sc.rec (motive := fun _ => Option Bool) (fun k' b => gd (Nat.beq (kNo k) (kNo k')) (K (ieqB a b))) (fun _ => none) (fun _ _ => none) (fun _ => none) y) (fun _ => none) (fun _ _ => none) (fun _ => none) x
noncomputable def eqL (n : Nat) (l m : List Sc) : Option Bool :=
 Nat.rec (motive := fun _ => List Sc → List Sc → Option Bool) (fun l m => List.rec (motive := fun _ => Option Bool) (List.rec (motive := fun _ => Option Bool) (some true) (fun _ _ _ => none) m) (fun _ _ _ => none) l)
  (fun _ ih l m => List.rec (motive := fun _ => Option Bool) none (fun x l _ => List.rec (motive := fun _ => Option Bool) none (fun y m _ => eqI x y fun b => jR b (ih l m) (some false)) m) l) n l m
noncomputable def len {α : Type} (l : List α) : Nat := List.rec (motive := fun _ => Nat) 0 (fun _ _ n => Nat.succ n) l
noncomputable def eqP (x y : Sc) : Option Bool := match x, y with
 | .p i o, .p j q => gd (Nat.beq i j && Nat.beq o q) (some true)
 | .p .., .o (.c (.pointer none)) => some false
 | .o (.c (.pointer none)), .p .. => some false
 | .o (.c (.pointer none)), .o (.c (.pointer none)) => some true
 | _, _ => none
noncomputable def eqS (x y : Sc) : Option Bool := match x, y with
 | .o (.s ..), .o (.c (.slice none _ _)) => some false
 | .o (.w ..), .o (.c (.slice none _ _)) => some false
 | .o (.c (.slice none _ _)), .o (.c (.slice none _ _)) => some true
 | _, _ => none
noncomputable def eqT (x y : Sc) : Option Bool := match x, y with
 | .o (.c (.string s)), .o (.c (.string t)) => some (s == t)
 | _, _ => none
structure Be where
 mk :: (g : AV → AV → Option Bool)
noncomputable def xx (x y : AV) (K : Sc → Sc → Option Bool) : Option Bool := AV.rec (motive := fun _ => Option Bool) (fun x => AV.rec (motive := fun _ => Option Bool) (fun y => K x y) (fun _ => none) (fun _ => none) y) (fun _ => none) (fun _ => none) x
noncomputable def eqE (t : TypeId) : Be := Option.rec (motive := fun _ => Be) (.mk fun x y => xx x y fun x y => eqI x y some)
 (fun c => Cl.rec (motive := fun _ => Be) (fun n => .mk fun x y => asA x fun l => asA y fun m => gd (Nat.beq (len l) n && Nat.beq (len m) n) (eqL n l m)) (.mk fun x y => xx x y eqP) (.mk fun x y => xx x y eqS) (.mk fun x y => xx x y eqT) c) (clsB t)
structure Bi where
 mk :: (g : AV → AV → Option AV)
noncomputable def addS (x y : AV) : Option AV := match x, y with
 | .x (.o (.c (.string s))), .x (.o (.c (.string t))) => gd (Nat.blt (s.size + t.size) 9223372036854775808) (some (.x (.o (.c (.string (s ++ t))))))
 | x, y => two x y fun k a b => mkI k (a + b)
noncomputable def isSt (t : TypeId) : Bool := match Pr.underlying t with | some .string => true | _ => false
noncomputable def binE (op : BinOp) (t : TypeId) : Bi := BinOp.rec (motive := fun _ => Bi) (Bool.rec (motive := fun _ => Bi) (.mk fun x y => two x y fun k a b => mkI k (a + b)) (.mk addS) (isSt t)) (.mk fun x y => two x y fun k a b => mkI k (a - b)) (.mk fun x y => two x y fun k a b => mkI k (a * b)) (.mk fun x y => two x y fun k a b => gd (!ieqB b 0) (mkI k (Int.tdiv a b))) (.mk fun x y => two x y fun k a b => gd (!ieqB b 0) (frcI k (Int.tmod a b))) (.mk fun x y => two x y fun k a b => bitE (fun _ a b => a &&& b) k a b) (.mk fun x y => two x y fun k a b => bitE (fun _ a b => a ||| b) k a b) (.mk fun x y => two x y fun k a b => bitE (fun _ a b => a ^^^ b) k a b) (.mk fun x y => asI x fun k a => asI y fun _ b => nn a fun a => nn b fun b => gd (Nat.ble b (bts k)) (mkI k (.ofNat (Nat.shiftLeft a b)))) (.mk fun x y => asI x fun k a => asI y fun _ b => nn a fun a => nn b fun b => gd (Nat.ble b (bts k)) (frcI k (.ofNat (Nat.shiftRight a b)))) (.mk fun x y => two x y fun k a b => bitE (fun _ a b => a &&& ~~~b) k a b) (.mk fun x y => obn ((eqE t).g x y) bl) (.mk fun x y => obn ((eqE t).g x y) blN) (.mk fun x y => two x y fun k a b => blN (jy b a)) (.mk fun x y => two x y fun k a b => bl (jy a b)) (.mk fun x y => two x y fun k a b => blN (jy a b)) (.mk fun x y => two x y fun k a b => bl (jy b a)) op
structure Un where
 mk :: (g : AV → Option AV)
noncomputable def unE (op : UnOp) : Un := UnOp.rec (motive := fun _ => Un) (.mk fun x => asI x fun k a => mkI k (0 - a)) (.mk fun _ => none) (.mk fun x => asB x fun b => blN b) (.mk fun _ => none) op
/-! ### Memory -/
noncomputable def hget (h : H) (id : Nat) : B := (p5 id).g h.t
noncomputable def jl {Z : Type} (h : H) (id : Nat) : (Nat → Nat → TV → Option Z) → Option Z := B.rec (motive := fun _ => (Nat → Nat → TV → Option Z) → Option Z) (fun _ => none) (fun E n t K => K E n t) (fun E n t K => K E n t) (fun _ _ => none) (hget h id)
noncomputable def rowK (h : H) (id : Nat) : (Nat → Nat → TV → R) → R := B.rec (motive := fun _ => (Nat → Nat → TV → R) → R) (fun _ => none) (fun _ _ _ _ => none) (fun E n t K => K E n t) (fun _ _ => none) (hget h id)
noncomputable def blkO {Z : Type} (h : H) (id : Nat) : (BO → Option Z) → Option Z := B.rec (motive := fun _ => (BO → Option Z) → Option Z) (fun _ => none) (fun _ _ _ _ => none) (fun _ _ _ _ => none) (fun b K => K b) (hget h id)
noncomputable def editB (h : H) (id : Nat) : (Nat → TV → (TV → B) → R) → R := B.rec (motive := fun _ => (Nat → TV → (TV → B) → R) → R) (fun _ => none) (fun E n t K => K n t (.c E n)) (fun E n t K => K n t (.r E n)) (fun _ _ => none) (hget h id)
noncomputable def kJ (h : H) (id : Nat) (b : B) (K : H → R) : R := H.rec (motive := fun _ => R) (fun nxt lo ac t => (p5 id).s t b fun t => K (.mk nxt (bif Nat.ble lo id then lo else id) ac t)) h
noncomputable def ja (h : H) (id : Nat) (b : B) (K : H → R) : R := H.rec (motive := fun _ => R) (fun nxt lo ac t => (p5 id).s t b fun t => K (.mk nxt lo ac t)) h
noncomputable def newB (h : H) (b : B) (K : Nat → H → R) : R := H.rec (motive := fun _ => R) (fun nxt lo ac t => nat nxt fun n => jR (Nat.blt n 32768) ((p5 n).s t b fun t => K n (.mk (Nat.succ n) lo ac t)) none) h
noncomputable def shut {Z : Type} (h : H) (a : Nat × Nat) (K : Nat → Nat → H → Z) : Z := H.rec (motive := fun _ => Z) (fun nxt lo ac t => nat nxt fun n => K n lo (.mk n n a t)) h
noncomputable def setLo {Z : Type} (h : H) (f : Nat → Nat) (a : Nat × Nat) (K : H → Z) : Z := H.rec (motive := fun _ => Z) (fun nxt lo _ t => nat (f lo) fun lo => K (.mk nxt lo a t)) h
noncomputable def okW (h : H) (id : Nat) : Bool := Nat.ble h.lo id || Nat.beq h.ac.1 (Nat.succ id) || Nat.beq h.ac.2 (Nat.succ id)
noncomputable def scal {Z : Type} (v : AV) (K : Sc → Option Z) : Option Z := AV.rec (motive := fun _ => (Sc → Option Z) → Option Z) (fun s K => frc_s s K) (fun _ _ => none) (fun _ _ => none) v K
noncomputable def getL {Z : Type} (t : TV) (off n : Nat) (K : List Sc → Option Z) : Option Z :=
 Nat.rec (motive := fun _ => TV → Nat → (List Sc → Option Z) → Option Z) (fun _ _ K => K []) (fun _ ih t off K => nat off fun off => scal (t.get off) fun v => ih t (Nat.succ off) fun l => K (v :: l)) n t off K
noncomputable def setL {Z : Type} (l : List Sc) (t : TV) (off : Nat) (K : TV → Option Z) : Option Z :=
 List.rec (motive := fun _ => TV → Nat → (TV → Option Z) → Option Z) (fun t _ K => K t) (fun v _ ih t off K => nat off fun off => t.set off (.x v) fun t => ih t (Nat.succ off) K) l t off K
noncomputable def cellsOf {Z : Type} (v : AV) : (List Sc → Option Z) → Option Z := AV.rec (motive := fun _ => (List Sc → Option Z) → Option Z) (fun s K => cel s fun s => K [s]) (fun l K => K l) (fun _ _ => none) v
structure Ld where
 mk :: (g : AV → H → Option AV)
noncomputable def loadE (T : TypeId) : Ld :=
 Option.rec (motive := fun _ => Ld) (.mk fun _ _ => none) (fun z => Bool.rec (motive := fun _ => Ld) (.mk fun x h => asP x fun id off => jl h id fun E n t => gd (Nat.blt off n) (scal (t.get off) fun v => some (.x v)))
  (.mk fun x h => asP x fun id off => jl h id fun E n t => gd (Nat.ble (off + z.2) n) (getL t off z.2 fun l => some (.a l))) z.1) (tkB Pr T)
structure St where
 mk :: (g : AV → AV → H → (H → R) → R)
noncomputable def storeE (T : TypeId) : St := Option.rec (motive := fun _ => St) (.mk fun _ _ _ _ => none) (fun z => .mk fun x v h K =>
 asP x fun id off => editB h id fun n t mk => cellsOf v fun l => gd (Nat.beq (len l) z.2 && Nat.ble (off + z.2) n) (setL l t off fun t => kJ h id (mk t) K)) (tkB Pr T)
structure Al where
 mk :: (b : B) (v : Nat → AV)
noncomputable def cellsN (E : TypeId) (l : List Sc) : Option B := nat (len l) fun n => TV.emp n fun t => setL l t 0 fun t => some (.c E n t)
noncomputable def rowN (E : TypeId) (l : List Sc) : Option B := nat (len l) fun n => TV.emp n fun t => setL l t 0 fun t => some (.r E n t)
structure Zr where
 mk :: (g : Option (List Sc))
noncomputable def zeroE (T : TypeId) : Zr := Option.rec (motive := fun _ => Zr) (.mk none) (fun v => .mk (cellsOf (ofV v) some)) (zR Pr T)
structure Az where
 mk :: (g : Option Al)
noncomputable def allocE (E : TypeId) : Az := Option.rec (motive := fun _ => Az) (.mk none) (fun l => Option.rec (motive := fun _ => Az) (.mk none) (fun b => .mk (some (.mk b fun id => .x (.p id 0)))) (cellsN E l)) (zeroE E).g
noncomputable def boxE (E : TypeId) (v : AV) : Option Al := cellsOf v fun l => obn (cellsN E l) fun b => some (.mk b fun id => .x (.p id 0))
noncomputable def jD (S f : Nat) : Un := Option.rec (motive := fun _ => Un) (.mk fun _ => none) (fun k => .mk fun x => asP x fun id off => nat (off + k) fun o => some (.x (.p id o))) (foB Pr S f)
noncomputable def elB (X : TypeId) : Option (Nat × Nat) := match Pr.underlying X with
 | some (.slice E) => (tkB Pr E).map fun z => (E, z.2)
 | _ => none
noncomputable def arB (X : TypeId) : Option (Nat × Nat × Nat × Bool) := match Pr.underlying X with
 | some (.array n E) => (tkB Pr E).map fun z => (n, E, z.2, z.1)
 | _ => none
noncomputable def paB (X : TypeId) : Option (Nat × Nat × Nat × Bool) := match Pr.underlying X with
 | some (.pointer A) => arB A
 | _ => arB X
noncomputable def idx {Z : Type} (i : Int) (len : Nat) (K : Nat → Option Z) : Option Z := Int.rec (motive := fun _ => Nat → (Nat → Option Z) → Option Z) (fun j len K => gd (Nat.blt j len) (K j)) (fun _ _ _ => none) i len K
noncomputable def el {Z : Type} (X : TypeId) (K : Nat → Nat → Option Z) : Option Z := Option.rec (motive := fun _ => (Nat → Nat → Option Z) → Option Z) (fun _ => none) (fun z K => K z.1 z.2) (elB X) K
noncomputable def ar {Z : Type} (X : TypeId) (K : Nat × Nat × Nat × Bool → Option Z) : Option Z := Option.rec (motive := fun _ => (Nat × Nat × Nat × Bool → Option Z) → Option Z) (fun _ => none) (fun z K => K z) (arB X) K
noncomputable def pa {Z : Type} (X : TypeId) (K : Nat × Nat × Nat × Bool → Option Z) : Option Z := Option.rec (motive := fun _ => (Nat × Nat × Nat × Bool → Option Z) → Option Z) (fun _ => none) (fun z K => K z) (paB X) K
noncomputable def iaO (x : So) : TypeId → Int → Option AV := So.rec (motive := fun _ => TypeId → Int → Option AV) (fun _ _ => none) (fun _ _ => none) (fun id off n _ X j => el X fun _ s => idx j n fun j => nat (off + j * s) fun o => some (.x (.p id o))) (fun id off n _ X j => el X fun _ s => idx j n fun j => nat (off + j * s) fun o => some (.x (.p id o))) (fun _ _ _ => none) (fun _ _ _ => none) (fun _ _ _ => none) (fun _ _ => none) (fun _ _ _ => none) x
noncomputable def iaS (x : Sc) : TypeId → Int → Option AV := Sc.rec (motive := fun _ => TypeId → Int → Option AV) (fun _ _ _ _ => none) (fun _ _ _ => none) (fun id off X j => ar X fun q => idx j q.1 fun j => nat (off + j * q.2.2.1) fun o => some (.x (.p id o))) (fun x => iaO x) x
noncomputable def iaE (x : AV) : TypeId → Int → Option AV := AV.rec (motive := fun _ => TypeId → Int → Option AV) (fun s => iaS s) (fun _ _ _ => none) (fun _ _ _ => none) x
noncomputable def indexAddrE (X : TypeId) (x y : AV) : Option AV := asI y fun _ j => iaE x X j
noncomputable def drp {α : Type} (l : List α) (n : Nat) : List α := Nat.rec (motive := fun _ => List α → List α) (fun l => l) (fun _ ih l => List.rec (motive := fun _ => List α) [] (fun _ l _ => ih l) l) n l
noncomputable def tke {Z : Type} (l : List Sc) (n : Nat) (K : List Sc → Option Z) : Option Z := Nat.rec (motive := fun _ => List Sc → (List Sc → Option Z) → Option Z) (fun _ K => K []) (fun _ ih l K => List.rec (motive := fun _ => Option Z) none (fun v l _ => ih l fun r => K (v :: r)) l) n l K
noncomputable def hdE (l : List Sc) : Option AV := List.rec (motive := fun _ => Option AV) none (fun v _ _ => frc_s v fun v => some (.x v)) l
noncomputable def prt (ag : Bool) (off s : Nat) (l : List Sc) : Option AV :=
 Bool.rec (motive := fun _ => Nat → Nat → List Sc → Option AV) (fun off _ l => hdE (drp l off)) (fun off s l => tke (drp l off) s fun r => some (.a r)) ag off s l
noncomputable def fdB (S f : Nat) : Option (Nat × Bool × Nat) := match Pr.underlying S with
 | some (.struct fs) => match fs[f]? with
  | some fd => (tkB Pr fd.type).map fun z => (fd.offset, z.1, z.2)
  | none => none
 | _ => none
noncomputable def fieldE (S f : Nat) : Un := Option.rec (motive := fun _ => Un) (.mk fun _ => none) (fun z => .mk fun x => asA x fun l => prt z.2.1 z.1 z.2.2 l) (fdB S f)
noncomputable def byteAt (s : ByteArray) (j : Nat) : Option Nat := (s[j]?).map (·.toNat)
noncomputable def ixV (v : Value) (j : Int) : Option AV := match v with | .string s => idx j s.size fun j => (match byteAt s j with | some b => nat b fun b => some (.i .u8 (.ofNat b)) | none => none) | _ => none
noncomputable def ixO (x : So) : Int → Option AV := So.rec (motive := fun _ => Int → Option AV) (fun _ => none) (fun _ => none) (fun _ _ _ _ _ => none) (fun _ _ _ _ _ => none) (fun _ _ => none) (fun _ _ => none) (fun _ _ => none) (fun _ => none) (fun v j => ixV v j) x
noncomputable def ixS (x : Sc) : Int → Option AV := Sc.rec (motive := fun _ => Int → Option AV) (fun _ _ _ => none) (fun _ _ => none) (fun _ _ _ => none) (fun x => ixO x) x
noncomputable def ixE (x : AV) : TypeId → Int → Option AV := AV.rec (motive := fun _ => TypeId → Int → Option AV) (fun s X j => gd (isSt X) (ixS s j)) (fun l X j => ar X fun q => idx j q.1 fun j => prt q.2.2.2 (j * q.2.2.1) q.2.2.1 l) (fun _ _ _ => none) x
noncomputable def indexE (X : TypeId) (x y : AV) : Option AV := asI y fun _ j => ixE x X j
noncomputable def plB (X : TypeId) (i : Nat) : Option (Nat × Nat) := match Pr.underlying X with
 | some (.struct fs) => gd (fs.toList.all fun f => (tkB Pr f.type).isSome) (match fs[i]? with | some fd => (tkB Pr fd.type).map fun z => (fd.offset, z.2) | none => none)
 | some (.array _ E) => (tkB Pr E).map fun z => (i * z.2, z.2)
 | some (.slice E) => (tkB Pr E).map fun z => (i * z.2, z.2)
 | _ => none
noncomputable def app {α : Type} (a b : List α) : List α := List.rec (motive := fun _ => List α → List α) (fun b => b) (fun v _ ih b => v :: ih b) a b
noncomputable def spl {Z : Type} (off : Nat) (cs l : List Sc) (K : List Sc → Option Z) : Option Z := tke l off fun a => gd (Nat.ble (off + len cs) (len l)) (K (app a (app cs (drp l (off + len cs)))))
noncomputable def fillE {Z : Type} (X : TypeId) (τ : L3) (ps : List (Nat × Operand)) (l : List Sc) (K : List Sc → Option Z) : Option Z :=
 List.rec (motive := fun _ => TypeId → L3 → List Sc → (List Sc → Option Z) → Option Z) (fun _ _ l K => K l) (fun p _ ih X τ l K => Option.rec (motive := fun _ => Option Z) none (fun z => cellsOf ((evO p.2).v τ) fun cs => gd (Nat.beq (len cs) z.2) (spl z.1 cs l fun l => ih X τ l K)) (plB X p.1)) ps X τ l K
noncomputable def aggT (t : TypeId) : Bool := match Pr.underlying t with | some (.struct fs) => fs.toList.all fun f => (tkB Pr f.type).isSome | some (.array _ E) => (tkB Pr E).isSome | _ => false
noncomputable def buildE (X : TypeId) (ps : List (Nat × Operand)) (τ : L3) : Option AV := gd (aggT X) (obn (zeroE X).g fun l => fillE X τ ps l fun l => some (.a l))
noncomputable def repL (l : List Sc) (m : Nat) : List Sc := Nat.rec (motive := fun _ => List Sc) [] (fun _ ih => app l ih) m
noncomputable def jE (X : TypeId) (m : Nat) (ps : List (Nat × Operand)) (τ : L3) : Option Al :=
 el X fun E s => gd (Nat.ble (m * s) 4096) (obn (zeroE E).g fun l => gd (Nat.beq (len l) s) (fillE X τ ps (repL l m) fun l => obn (cellsN E l) fun b => some (.mk b fun id => .x (.o (.s id 0 m m)))))
noncomputable def szB (E : TypeId) : Bool := match rowB Pr E with | some t => Nat.ble t.2.2 1073741824 && Nat.blt 0 t.2.1 && Nat.beq t.1.cells.size t.2.1 | none => false
noncomputable def makeSliceE (X : TypeId) (x y : AV) : Option Al :=
 el X fun E s => asI x fun _ a => asI y fun _ b => nn a fun a => nn b fun b => gd (Nat.ble a b && Nat.ble b 100000 && szB E) (obn (zeroE E).g fun l => gd (Nat.beq (len l) s) (obn (cellsN E (repL l b)) fun bk => some (.mk bk fun id => .x (.o (.s id 0 a b)))))
noncomputable def qa {Z : Type} (x : Option Operand) (τ : L3) (d : Nat) (K : Nat → Option Z) : Option Z :=
 Option.rec (motive := fun _ => L3 → Nat → (Nat → Option Z) → Option Z) (fun _ d K => K d) (fun o τ d K => asI ((evO o).v τ) fun _ n => nn n fun n => K n) x τ d K
noncomputable def bgn (off l m s : Nat) : Nat := off + Nat.rec (motive := fun _ => Nat) 0 (fun _ _ => l * s) (m - l)
noncomputable def cut (id off s l u m : Nat) : Option AV := nat (bgn off l m s) fun o => nat (u - l) fun n => nat (m - l) fun c => some (.x (.o (.s id o n c)))
noncomputable def slV (v : Value) (X : TypeId) (lo hi mx : Option Operand) (τ : L3) : Option AV := match v with
 | .slice none 0 0 => el X fun _ _ => qa lo τ 0 fun l => qa hi τ 0 fun u => qa mx τ 0 fun m => gd (Nat.beq (l + u + m) 0) (some (.x (.o (.c (.slice none 0 0)))))
 | .string s => gd (isSt X) (match mx with | none => qa lo τ 0 fun l => qa hi τ s.size fun u => gd (Nat.ble l u && Nat.ble u s.size) (some (.x (.o (.c (.string (s.extract l u)))))) | some _ => none)
 | _ => none
noncomputable def slO (x : So) : TypeId → Option Operand → Option Operand → Option Operand → L3 → Option AV := So.rec (motive := fun _ => TypeId → Option Operand → Option Operand → Option Operand → L3 → Option AV) (fun _ _ _ _ _ => none) (fun _ _ _ _ _ => none) (fun id off len cap X lo hi mx τ => el X fun _ s => qa lo τ 0 fun l => qa hi τ len fun u => qa mx τ cap fun m => gd (Nat.ble l u && Nat.ble u m && Nat.ble m cap) (cut id off s l u m)) (fun id off len ct X lo hi mx τ => el X fun _ s => qa lo τ 0 fun l => qa hi τ len fun u => Option.rec (motive := fun _ => Option AV) (gd (Nat.ble l u && Nat.ble u len) (jR (Nat.blt l len || Nat.beq l 0) (nat (off + l * s) fun o => nat (u - l) fun n => nat (ct + l) fun c => some (.x (.o (.w id o n c)))) (some (.x (.o .e))))) (fun mo => qa (some mo) τ 0 fun m => gd (Nat.ble l u && Nat.ble u m && Nat.ble m len) (cut id off s l u m)) mx) (fun _ _ _ _ _ _ => none) (fun _ _ _ _ _ _ => none) (fun _ _ _ _ _ _ => none) (fun X lo hi mx τ => el X fun _ _ => qa lo τ 0 fun l => qa hi τ 0 fun u => Option.rec (motive := fun _ => Option AV) (gd (Nat.beq (l + u) 0) (some (.x (.o .e)))) (fun _ => none) mx) (fun v X lo hi mx τ => slV v X lo hi mx τ) x
noncomputable def slS (x : Sc) : TypeId → Option Operand → Option Operand → Option Operand → L3 → Option AV := Sc.rec (motive := fun _ => TypeId → Option Operand → Option Operand → Option Operand → L3 → Option AV) (fun _ _ _ _ _ _ _ => none) (fun _ _ _ _ _ _ => none) (fun id off X lo hi mx τ => pa X fun q => qa lo τ 0 fun l => qa hi τ q.1 fun u => qa mx τ q.1 fun m => gd (Nat.ble l u && Nat.ble u m && Nat.ble m q.1) (cut id off q.2.2.1 l u m)) (fun x => slO x) x
noncomputable def sliceV (x : AV) : TypeId → Option Operand → Option Operand → Option Operand → L3 → Option AV := AV.rec (motive := fun _ => TypeId → Option Operand → Option Operand → Option Operand → L3 → Option AV) (fun s => slS s) (fun _ _ _ _ _ _ => none) (fun _ _ _ _ _ _ => none) x
noncomputable def okM (hi mx : Option Operand) : Bool := match hi, mx with | none, some _ => false | _, _ => true
noncomputable def sliceE (x : AV) (X : TypeId) (lo hi mx : Option Operand) (τ : L3) : Option AV := gd (okM hi mx) (sliceV x X lo hi mx τ)
noncomputable def nlV {Z : Type} (v : Value) (K : Option Z) : Option Z := match v with | .slice none 0 0 => K | _ => none
noncomputable def lnV (v : Value) : Option AV := match v with | .slice none 0 0 => some (.i .i64 (.ofNat 0)) | .string s => nat s.size fun n => gd (Nat.blt n 9223372036854775808) (some (.i .i64 (.ofNat n))) | .map none => some (.i .i64 (.ofNat 0)) | _ => none
noncomputable def iLn (n : Nat) : Option AV := gd (Nat.blt n 9223372036854775808) (some (.i .i64 (.ofNat n)))
noncomputable def lnO (x : So) : H → Option AV := So.rec (motive := fun _ => H → Option AV) (fun _ => none) (fun _ => none) (fun _ _ l _ h => iLn l) (fun _ _ l _ h => iLn l) (fun id h => blkO h id fun b => (match b with | .m l => nat (len l) fun n => iLn n | _ => none)) (fun _ _ => none) (fun _ _ => none) (fun _ => iLn 0) (fun v h => lnV v) x
noncomputable def cpO (x : So) : Option AV := So.rec (motive := fun _ => Option AV) (none) (none) (fun _ _ _ c => iLn c) (fun _ _ _ _ => none) (fun _ => none) (fun _ => none) (fun _ => none) (none) (fun v => nlV v (iLn 0)) x
noncomputable def csE {Z : Type} (id off l s : Nat) (h : H) (K : Nat → List Sc → Option Z) : Option Z := Nat.rec (motive := fun _ => Option Z) (K 0 []) (fun _ _ => jl h id fun E n t => gd (Nat.ble (off + l * s) n) (getL t off (l * s) fun r => K l r)) l
noncomputable def cellsS {Z : Type} (x : So) : Nat → H → (Nat → List Sc → Option Z) → Option Z := So.rec (motive := fun _ => Nat → H → (Nat → List Sc → Option Z) → Option Z) (fun _ _ _ => none) (fun _ _ _ => none) (fun id off l _ s h K => csE id off l s h K) (fun id off l _ s h K => csE id off l s h K) (fun _ _ _ _ => none) (fun _ _ _ _ => none) (fun _ _ _ _ => none) (fun _ _ K => K 0 []) (fun v _ h K => nlV v (K 0 [])) x
noncomputable def stV {Z : Type} (v : Value) (K : Nat → List Sc → Option Z) : Option Z := match v with | .string s => nat s.size fun n => K n (s.toList.map fun b => .i .u8 (.ofNat b.toNat)) | _ => none
noncomputable def fits (n m : Nat) : Bool := Nat.ble m 8 || (Nat.blt 8 n && Nat.ble m 64) || (Nat.blt 64 n && Nat.ble m 512) || (Nat.blt 512 n && Nat.ble m 4096)
noncomputable def newV (h : H) (b : Option B) (v : Nat → AV) (K : KV) : R := obn b fun b => newB h b fun id h => K (v id) h
noncomputable def apO (x : So) : Nat → Nat → Nat → List Sc → H → KV → R := So.rec (motive := fun _ => Nat → Nat → Nat → List Sc → H → KV → R) (fun _ _ _ _ _ _ => none) (fun _ _ _ _ _ _ => none) (fun id off l c E s m new h K => jR (Nat.ble (l + m) c) (editB h id fun n t mk => gd (Nat.ble (off + (l + m) * s) n) (setL new t (off + l * s) fun t => kJ h id (mk t) fun h => nat (l + m) fun lm => K (.x (.o (.s id off lm c))) h)) (csE id off l s h fun _ old => nat (l + m) fun lm => newV h (rowN E (app old new)) (fun id => .x (.o (.w id 0 lm 0))) K)) (fun id off l c E s m new h K => rowK h id fun E' n t => gd (Nat.beq E' E && Nat.beq off (c * s) && Nat.blt 0 s) (jR (Nat.ble (off + (l + m) * s) n) (setL new t (off + l * s) fun t => kJ h id (.r E n t) fun h => nat (l + m) fun lm => K (.x (.o (.w id off lm c))) h) (gd (Nat.beq off 0 && Nat.beq c 0 && Nat.ble (l * s) n) (kJ h id .x fun h => nat ((l + m) * s) fun n' => Bool.rec (motive := fun _ => R) (TV.emp n' fun t' => getL t 0 (l * s) fun old => setL old t' 0 fun t => setL new t (l * s) fun t => newB h (.r E n' t) fun id h => nat (l + m) fun lm => K (.x (.o (.w id 0 lm 0))) h) (setL new t n fun t => newB h (.r E n' t) fun id h => nat (l + m) fun lm => K (.x (.o (.w id 0 lm 0))) h) (Nat.beq (l * s) n && fits n n'))))) (fun _ _ _ _ _ _ _ => none) (fun _ _ _ _ _ _ _ => none) (fun _ _ _ _ _ _ _ => none) (fun _ _ _ _ _ _ => none) (fun v E s m new h K => nlV v (nat m fun m => newV h (rowN E new) (fun id => .x (.o (.w id 0 m 0))) K)) x
noncomputable def apZ (x : So) : H → KV → R := So.rec (motive := fun _ => H → KV → R) (fun _ _ => none) (fun _ _ => none) (fun id off l c h K => gd (Nat.ble l c) (K (.x (.o (.s id off l c))) h)) (fun id off l c h K => K (.x (.o (.w id off l c))) h) (fun _ _ _ => none) (fun _ _ _ => none) (fun _ _ _ => none) (fun h K => K (.x (.o .e)) h) (fun v h K => nlV v (K (.x (.o (.c v))) h)) x
noncomputable def appW (E s : Nat) (x : AV) (m : Nat) (new : List Sc) (h : H) (K : KV) : R := Nat.rec (motive := fun _ => R) (asO x fun x => apZ x h K) (fun _ _ => gd (Nat.ble (m * s) 4096) (asO x fun x => apO x E s m new h K)) m
noncomputable def isB (E : TypeId) : Bool := match Pr.underlying E with | some (.int .u8) => true | _ => false
structure Ap where
 mk :: (g : AV → AV → H → KV → R)
noncomputable def apK (Y : TypeId) : Nat := match Pr.underlying Y with | some (.int _) => 0 | some .string => 1 | some (.slice _) => 2 | _ => 3
noncomputable def apdE (X Y : TypeId) : Ap := Option.rec (motive := fun _ => Ap) (.mk fun _ _ _ _ => none) (fun e => Bool.rec (motive := fun _ => Ap) (.mk fun _ _ _ _ => none) (
 Nat.rec (motive := fun _ => Ap) (Option.rec (motive := fun _ => Ap) (.mk fun _ _ _ _ => none) (fun z => .mk fun x y h K => asI y fun _ n => nn n fun m => gd (Nat.beq (len z) e.2 && Nat.blt 0 m && Nat.ble (m * e.2) 4096) (asO x fun x => (match x with | .c v => nlV v (nat m fun m => newV h (rowN e.1 (repL z m)) (fun id => .x (.o (.w id 0 m 0))) K) | _ => none))) (zeroE e.1).g)
  (fun k _ => Nat.rec (motive := fun _ => Ap) (.mk fun x y h K => gd (isB e.1 && Nat.beq e.2 1) (asO y fun y => (match y with | .c v => stV v fun m new => appW e.1 e.2 x m new h K | _ => none)))
   (fun k _ => Nat.rec (motive := fun _ => Ap) (.mk fun x y h K => asO y fun y => cellsS y e.2 h fun m new => appW e.1 e.2 x m new h K) (fun _ _ => .mk fun _ _ _ _ => none) k) k) (apK Y)) (szB e.1)) (elB X)
noncomputable def storeL (id off : Nat) (l : List Sc) (h : H) (K : H → R) : R := editB h id fun n t mk => gd (Nat.ble (off + len l) n) (setL l t off fun t => kJ h id (mk t) K)
noncomputable def cpE (id off l m s : Nat) (new : List Sc) (h : H) (K : KV) : R := nat (bif Nat.ble l m then l else m) fun q => Nat.rec (motive := fun _ => R) (obn (iLn 0) fun v => K v h) (fun _ _ => tke new (q * s) fun new => storeL id off new h fun h => obn (iLn q) fun v => K v h) q
noncomputable def cpyO (x : So) : Nat → Nat → List Sc → H → KV → R := So.rec (motive := fun _ => Nat → Nat → List Sc → H → KV → R) (fun _ _ _ _ _ => none) (fun _ _ _ _ _ => none) (fun id off l _ s m new h K => cpE id off l m s new h K) (fun id off l _ s m new h K => cpE id off l m s new h K) (fun _ _ _ _ _ _ => none) (fun _ _ _ _ _ _ => none) (fun _ _ _ _ _ _ => none) (fun _ _ _ _ _ => none) (fun v s m new h K => nlV v (obn (iLn 0) fun v => K v h)) x
noncomputable def copyE (X : TypeId) (x y : AV) (h : H) (K : KV) : R := el X fun E s => asO y fun y => cellsS y s h fun m new => asO x fun x => cpyO x s m new h K
noncomputable def clE (id off l : Nat) (X : TypeId) (h : H) (K : KV) : R := el X fun E s => obn (zeroE E).g fun q => Nat.rec (motive := fun _ => R) (K (.t []) h) (fun _ _ => gd (Nat.beq (len q) s) (storeL id off (repL q l) h fun h => K (.t []) h)) l
noncomputable def clO (x : So) : TypeId → H → KV → R := So.rec (motive := fun _ => TypeId → H → KV → R) (fun _ _ _ => none) (fun _ _ _ => none) (fun id off l _ X h K => clE id off l X h K) (fun id off l _ X h K => clE id off l X h K) (fun _ _ _ _ => none) (fun _ _ _ _ => none) (fun _ _ _ _ => none) (fun _ _ _ => none) (fun v X h K => nlV v (el X fun _ _ => K (.t []) h)) x
/-! ### Maps -/
noncomputable def kyB (X : TypeId) : Option (TypeId × TypeId) := match Pr.underlying X with | some (.map K V) => some (K, V) | _ => none
structure My where
 mk :: (n : Nat) (eq : AV → AV → Option Bool) (z : AV)
noncomputable def kiB (t : TypeId) : Option Nat := match Pr.underlying t with | some (.int _) => some 0 | _ => (agB t).map (· + 1)
noncomputable def jN (n : Nat) (x y : AV) : Option Bool := Nat.rec (motive := fun _ => Option Bool) (xx x y fun x y => eqI x y some) (fun n _ => asA x fun l => asA y fun m => gd (Nat.beq (len l) n && Nat.beq (len m) n) (eqL n l m)) n
noncomputable def nums (l : List Sc) : Bool := List.rec (motive := fun _ => Bool) true (fun s _ ih => Sc.rec (motive := fun _ => Bool) (fun _ _ => ih) (fun _ => false) (fun _ _ => false) (fun _ => false) s) l
noncomputable def kg {Z : Type} (n : Nat) (y : AV) (K : AV → Option Z) : Option Z := Nat.rec (motive := fun _ => Option Z) (asI y fun k a => K (.i k a)) (fun n _ => asA y fun l => gd (Nat.beq (len l) n && nums l) (K (.a l))) n
noncomputable def mapK (X : TypeId) : Option My := Option.rec (motive := fun _ => Option My) none (fun q => Option.rec (motive := fun _ => Option My) none (fun n => Option.rec (motive := fun _ => Option My) none (fun z => some (.mk n (jN n) (ofV z))) (zR Pr q.2)) (kiB q.1)) (kyB X)
noncomputable def findM (eq : AV → AV → Option Bool) (k : AV) (l : List (AV × AV)) : Option (Option AV) :=
 List.rec (motive := fun _ => Option (Option AV)) (some none) (fun e _ ih => obn (eq k e.1) fun b => jR b (some (some e.2)) ih) l
noncomputable def putM (eq : AV → AV → Option Bool) (k v : AV) (l : List (AV × AV)) : Option (List (AV × AV)) :=
 List.rec (motive := fun _ => Option (List (AV × AV))) (some [(k, v)]) (fun e l ih => obn (eq k e.1) fun b => jR b (some ((k, v) :: l)) (obn ih fun r => some (e :: r))) l
noncomputable def delM (eq : AV → AV → Option Bool) (k : AV) (l : List (AV × AV)) : Option (List (AV × AV)) :=
 List.rec (motive := fun _ => Option (List (AV × AV))) (some []) (fun e l ih => obn (eq k e.1) fun b => jR b (some l) (obn ih fun r => some (e :: r))) l
noncomputable def asM {Z : Type} (x : AV) (K : Nat → Option Z) : Option Z := asO x fun x => (match x with | .m id => K id | _ => none)
noncomputable def mapB {Z : Type} (h : H) (id : Nat) (K : List (AV × AV) → Option Z) : Option Z := blkO h id fun b => (match b with | .m l => K l | _ => none)
noncomputable def toSum {Z : Type} (v : AV) (K : Sc ⊕ List Sc → Option Z) : Option Z := AV.rec (motive := fun _ => (Sc ⊕ List Sc → Option Z) → Option Z) (fun s K => K (.inl s)) (fun l K => K (.inr l)) (fun _ _ => none) v K
noncomputable def lkV (ok b : Bool) (v : AV) : Option AV := jR ok (toSum v fun v => some (.t [v, .inl (.b b)])) (some v)
noncomputable def lookupE (X : TypeId) (x y : AV) (ok : Bool) (h : H) : Option AV := obn (mapK X) fun k => kg k.n y fun y => asM x fun id => mapB h id fun l => obn (findM k.eq y l) fun o => Option.rec (motive := fun _ => Option AV) (lkV ok false k.z) (fun v => lkV ok true v) o
noncomputable def updE (X : TypeId) (x y v : AV) (h : H) (K : H → R) : R := obn (mapK X) fun k => kg k.n y fun y => asM x fun id => mapB h id fun l => obn (putM k.eq y v l) fun l => kJ h id (.o (.m l)) K
noncomputable def delE (X : TypeId) (x y : AV) (h : H) (K : H → R) : R := obn (mapK X) fun k => kg k.n y fun y => asM x fun id => blkO h id fun b => (match b with
 | .m l => obn (delM k.eq y l) fun l => kJ h id (.o (.m l)) K
 | .g key gone l => obn (k.eq y key) fun b => gd (b && !gone && okW h id) (ja h id (.o (.g key true l)) K)
 | _ => none)
noncomputable def isMp (X : TypeId) : Bool := match Pr.underlying X with | some (.map _ _) => true | _ => false
noncomputable def rangeE (x : AV) (h : H) (K : KV) : R := asM x fun mid => mapB h mid fun l => kJ h mid (.o .h) fun h => newB h (.o (.i mid l)) fun id h => K (.x (.p id 0)) h
noncomputable def both (a b : R) : R := obn a fun l => obn b fun m => some (app l m)
noncomputable def nxF : AV := .t [.inl (.b false)]
noncomputable def nxT (k v : AV) (K : AV → R) : R := toSum k fun k => toSum v fun v => K (.t [.inl (.b true), k, v])
noncomputable def eachB (pre rem : List (AV × AV)) (K : AV × AV → List (AV × AV) → R) : R :=
 List.rec (motive := fun _ => List (AV × AV) → R) (fun _ => some []) (fun e r ih pre => both (K e (app pre r)) (ih (app pre [e]))) rem pre
noncomputable def stepB (id m : Nat) (l rem : List (AV × AV)) (h : H) (K : KV) : R :=
 List.rec (motive := fun _ => R) (kJ h id (.o .z) fun h => kJ h m (.o (.m l)) fun h => K nxF h) (fun _ _ _ => eachB [] rem fun e r => kJ h id (.o (.c m e.1 e.2 l r)) fun h => nxT e.1 e.2 fun v => K v h) rem
noncomputable def shpK (k : AV) : Option Nat := match k with | .x (.i _ _) => some 0 | .a l => some (Nat.succ (len l)) | _ => none
noncomputable def neK (n : Nat) (k : AV) (l : List (AV × AV)) : Bool := List.rec (motive := fun _ => Bool) true (fun e _ ih => match jN n k e.1, jN n e.1 k with | some false, some false => ih | _, _ => false) l
noncomputable def dstK (l : List (AV × AV)) : Bool := List.rec (motive := fun _ => Bool) true (fun e l ih => match shpK e.1 with | some n => neK n e.1 l && ih | none => false) l
noncomputable def eachJ (l : List ((AV × AV) × Bool)) (K : Nat → (AV × AV) × Bool → R) (E : R) (i : Nat) : R := List.rec (motive := fun _ => Nat → R) (fun _ => E) (fun e _ ih i => both (K i e) (ih (Nat.succ i))) l i
noncomputable def stay (l : List ((AV × AV) × Bool)) : List (AV × AV) := List.rec (motive := fun _ => List (AV × AV)) [] (fun e _ ih => Bool.rec (motive := fun _ => List (AV × AV)) ih (e.1 :: ih) e.2) l
noncomputable def nextO (id : Nat) (b : BO) (h : H) (K : KV) : R := match b with
 | .i m l => stepB id m l l h K
 | .b m l rem => stepB id m l rem h K
 | .c m _ _ l rem => stepB id m l rem h K
 | .j m l x => gd (okW h id && okW h m) (eachJ l (fun i e => ja h id (.o (.k m e.1.1 e.1.2 l e.2 x (Nat.beq x (Nat.succ i)))) fun h => ja h m (.o (.g e.1.1 false l)) fun h => nxT e.1.1 e.1.2 fun v => K v h) (Bool.rec (motive := fun _ => R) (gd (Nat.ble x (len l)) (some [])) (ja h id (.o .z) fun h => ja h m (.o (.m (stay l))) fun h => K nxF h) (Nat.beq x 0)) 0)
 | .q m k v => ja h id (.o (.k m k v [] true 0 false)) fun h => ja h m (.o (.g k false [])) fun h => nxT k v fun v => K v h
 | _ => none
noncomputable def nextE (x : AV) (h : H) (K : KV) : R := asP x fun id off => gd (Nat.beq off 0) (blkO h id fun b => nextO id b h K)
end Go.Ev
end
section
namespace Go.Ev
structure Orc where
 mk :: (g : List AV → H → KV → R)
noncomputable def Mg (f : FuncId) : Nat := bif Nat.beq f 131 then 1 else bif Nat.beq f 445 then 1 else bif Nat.beq f 175 then 2 else 0
end Go.Ev
end
section
set_option linter.unusedVariables false
set_option linter.constructorNameAsVariable false
namespace Go.Ev
open Go.Lw
abbrev KC := Ex → L3 → H → R
structure IH where
 mk :: (run : Code → L3 → H → KC → R) (oc : FuncId → Option Orc)
abbrev KO := L3 → H → R
noncomputable def evL {Z : Type} (l : List Operand) (τ : L3) (K : List AV → Option Z) : Option Z :=
 List.rec (motive := fun _ => L3 → (List AV → Option Z) → Option Z) (fun _ K => K []) (fun o _ ih τ K => frc ((evO o).v τ) fun v => ih τ fun r => K (v :: r)) l τ K
noncomputable def resE (l : List ResultVar) (τ : L3) (h : H) (K : List AV → R) : R :=
 List.rec (motive := fun _ => L3 → H → (List AV → R) → R) (fun _ _ K => K []) (fun o _ ih τ h K => ResultVar.rec (motive := fun _ => R) (fun t => frc ((q3 t).g τ) fun v => ih τ h fun r => K (v :: r)) (fun t T => obn ((loadE T).g ((q3 t).g τ) h) fun v => ih τ h fun r => K (v :: r)) o) l τ h K
noncomputable def sums (l : List AV) (K : List (Sc ⊕ List Sc) → R) : R := List.rec (motive := fun _ => (List (Sc ⊕ List Sc) → R) → R) (fun K => K []) (fun v _ ih K => toSum v fun s => ih fun r => K (s :: r)) l K
noncomputable def one (l : List AV) (K : AV → R) : R := List.rec (motive := fun _ => (AV → R) → R) (fun K => K (.t [])) (fun v r _ K => List.rec (motive := fun _ => AV → (AV → R) → R) (fun v K => K v) (fun x r _ v K => sums (v :: x :: r) fun l => K (.t l)) r v K) l K
noncomputable def retE (rs : List ResultVar) (τ : L3) (h : H) (K : KV) : R := resE rs τ h fun l => one l fun v => K v h
noncomputable def setA (l : List AV) (t : L3) (i : Nat) (K : L3 → R) : R :=
 List.rec (motive := fun _ => L3 → Nat → (L3 → R) → R) (fun t _ K => K t) (fun v _ ih t i K => nat i fun i => (q3 i).s t v fun t => ih t (Nat.succ i) K) l t i K
/-! ### What is looked at in code, once -/
def okO (n : Nat) (x : Operand) : Bool := match x with | .tmp t => Nat.blt t n | _ => true
def okP (n : Nat) (ops : Array Oper) (o : Oper) : Bool := o.op.operands.toList.all (okO n) && o.dst.toList.all (Nat.blt · n) && Nd o && (match o.guard with | none => true | some (g, _) => (match ops[g]? with | some od => (match od.dst with | some d => Nat.blt d n | none => false) | none => false))
noncomputable def okC (n : Nat) (c : Code) : Bool := Code.rec (motive := fun _ => Bool) true (fun _ ops _ => ops.toList.all (okP n ops)) (fun _ _ a b => a && b) (fun c _ _ a b => okO n c && a && b) (fun _ _ a => a) (fun _ a => a) (fun f ps _ _ a b => okO n f && ps.toList.all (Nat.blt · n) && a && b) (fun _ => true) (fun _ a => a) (fun _ => true) (fun _ => true) true (fun _ => true) c
noncomputable def wro (l : List Oper) : List Nat := List.rec (motive := fun _ => List Nat) [] (fun o _ ih => Option.rec (motive := fun _ => List Nat) ih (fun d => d :: ih) o.dst) l
noncomputable def wrC (c : Code) : List Nat := Code.rec (motive := fun _ => List Nat) [] (fun _ ops _ => wro ops.toList) (fun _ _ a b => app a b) (fun _ _ _ a b => app a b) (fun _ _ a => a) (fun _ a => a) (fun _ _ _ _ _ _ => [1000]) (fun _ => []) (fun _ a => a) (fun _ => []) (fun _ => []) [] (fun _ => []) c
noncomputable def delC (c : Code) : Bool := Code.rec (motive := fun _ => Bool) false (fun _ ops _ => ops.toList.any fun o => match o.op with | .call c => (match c.callee with | .builtin .delete => true | _ => false) | _ => false) (fun _ _ a b => a || b) (fun _ _ _ a b => a || b) (fun _ _ a => a) (fun _ a => a) (fun _ _ _ _ a b => a || b) (fun _ => false) (fun _ a => a) (fun _ => false) (fun _ => false) false (fun _ => false) c
/-! ### Calls -/
structure Fc where
 mk :: (g : IH → List AV → H → KV → R)
noncomputable def bodE (c : Code) (rs : List ResultVar) (n : Nat) : Fc := .mk fun ih args h K => gd (Nat.ble (len args) n) (setA args L3.e 0 fun t => ih.run c t h fun ex τ h =>
  Ex.rec (motive := fun _ => L3 → H → KV → R) (fun τ h K => retE rs τ h K) (fun _ _ _ _ => none) (fun τ h K => retE rs τ h K) ex τ h K)
def rngN (a : Nat) (n : Nat) : List Nat := Nat.rec (motive := fun _ => Nat → List Nat) (fun _ => []) (fun _ ih a => a :: ih (Nat.succ a)) n a
noncomputable def scB (x y : Sc) : Bool := match x, y with
 | .i k a, .i k' b => Nat.beq (kNo k) (kNo k') && ieqB a b
 | .b a, .b b => a == b
 | .p i a, .p j b => Nat.beq i j && Nat.beq a b
 | .o (.s i a b c), .o (.s j a' b' c') => Nat.beq i j && Nat.beq a a' && Nat.beq b b' && Nat.beq c c'
 | .o (.w i a b c), .o (.w j a' b' c') => Nat.beq i j && Nat.beq a a' && Nat.beq b b' && Nat.beq c c'
 | .o (.m i), .o (.m j) => Nat.beq i j
 | .o (.f i), .o (.f j) => Nat.beq i j
 | .o (.y i), .o (.y j) => Nat.beq i j
 | .o .n, .o .n => true
 | .o (.c (.string s)), .o (.c (.string t)) => s == t
 | .o (.c (.slice none 0 0)), .o (.c (.slice none 0 0)) => true
 | .o (.c (.pointer none)), .o (.c (.pointer none)) => true
 | .o (.c (.map none)), .o (.c (.map none)) => true
 | .o (.c .nilFunc), .o (.c .nilFunc) => true
 | .o .e, .o .e => true
 | .o (.c (.func (.func f) a b)), .o (.c (.func (.func f') a' b')) => Nat.beq f f' && Nat.beq (a.size + b.size) 0 && Nat.beq (a'.size + b'.size) 0
 | _, _ => false
noncomputable def scL (l m : List Sc) : Bool := List.rec (motive := fun _ => List Sc → Bool) (fun m => List.rec (motive := fun _ => Bool) true (fun _ _ _ => false) m) (fun x _ ih m => List.rec (motive := fun _ => Bool) false (fun y m _ => scB x y && ih m) m) l m
noncomputable def sumB (x y : Sc ⊕ List Sc) : Bool := match x, y with | .inl x, .inl y => scB x y | .inr l, .inr m => scL l m | _, _ => false
noncomputable def jr (l m : List (Sc ⊕ List Sc)) : Bool := List.rec (motive := fun _ => List (Sc ⊕ List Sc) → Bool) (fun m => List.rec (motive := fun _ => Bool) true (fun _ _ _ => false) m) (fun x _ ih m => List.rec (motive := fun _ => Bool) false (fun y m _ => sumB x y && ih m) m) l m
noncomputable def avB (x y : AV) : Bool := match x, y with | .x x, .x y => scB x y | .a l, .a m => scL l m | .t l, .t m => jr l m | _, _ => false
noncomputable def tvL (t u : TV) (n off : Nat) : Bool := Nat.rec (motive := fun _ => Nat → Bool) (fun _ => true) (fun _ ih off => avB (t.get off) (u.get off) && ih (Nat.succ off)) n off
noncomputable def kT (t : TV) : Nat := TV.rec (motive := fun _ => Nat) (fun _ => 8) (fun _ => 64) (fun _ => 512) (fun _ => 4096) t
noncomputable def blB (a b : B) : Bool := match a, b with
 | .c E n t, .c E' n' u => Nat.beq E E' && Nat.beq n n' && Nat.ble n (kT u) && tvL t u n 0
 | .r E n t, .r E' n' u => Nat.beq E E' && Nat.beq n n' && Nat.ble n (kT u) && tvL t u n 0
 | _, _ => false
noncomputable def agree (i : Nat) (b : B) (rs : List (AV × H)) : Bool := List.rec (motive := fun _ => Bool) true (fun r _ ih => blB (hget r.2 i) b && ih) rs
noncomputable def layM (fl : Bool) (l : List Nat) (r : H) (rs : List (AV × H)) (h : H) (K : H → R) : R := List.rec (motive := fun _ => H → R) (fun h => K h) (fun i _ ih h => Bool.rec (motive := fun _ => R) (newB h .x fun _ h => ih h) (newB h (hget r i) fun _ h => ih h) (fl && agree i (hget r i) rs)) l h
noncomputable def isX (b : B) : Bool := B.rec (motive := fun _ => Bool) true (fun _ _ _ => false) (fun _ _ _ => false) (fun _ => false) b
noncomputable def leH (l : List Nat) (g h : H) : Bool := List.rec (motive := fun _ => Bool) true (fun i _ ih => (isX (hget h i) || blB (hget g i) (hget h i)) && ih) l
noncomputable def mrgE (fl : Bool) (c : Fc) : Fc := .mk fun ih args h K => shut h (0, 0) fun nx lo h1 =>
 obn (c.g ih args h1 fun v h => some [(v, h)]) fun rs => List.rec (motive := fun _ => R) none (fun r _ _ =>
  layM fl (rngN nx (r.2.nxt - nx)) r.2 rs h1 fun hm => obn (c.g ih args h1 fun v g => gd (avB v r.1 && Nat.beq g.nxt hm.nxt && Nat.beq g.lo nx && leH (rngN nx (hm.nxt - nx)) g hm) (some [])) fun _ => frc r.1 fun v => setLo hm (fun _ => lo) h.ac fun h => K v h) rs
noncomputable def mgE (m : Nat) (c : Fc) : Fc := Nat.rec (motive := fun _ => Fc) c (fun m _ => Nat.rec (motive := fun _ => Fc) (mrgE false c) (fun _ _ => mrgE true c) m) m
noncomputable def okR (n : Nat) (r : ResultVar) : Bool := match r with | .tmp t => Nat.blt t n | .cell t _ => Nat.blt t n
noncomputable def fncB (f : FuncId) : Fc :=
 Option.rec (motive := fun _ => Fc) (.mk fun _ _ _ _ => none) (fun fn => Option.rec (motive := fun _ => Fc) (.mk fun _ _ _ _ => none) (fun c => Bool.rec (motive := fun _ => Fc) (.mk fun _ _ _ _ => none)
  (mgE (Mg f) (bodE c fn.results.toList fn.ntmps))
  (Nat.ble fn.ntmps 512 && okC fn.ntmps c && fn.results.toList.all (okR fn.ntmps) && !(fn.name == "runtime.NumGoroutine"))) fn.body) Pr.funcs[f]?
noncomputable def fncE (f : FuncId) : Fc := .mk fun ih args h K => Option.rec (motive := fun _ => R) ((fncB f).g ih args h K) (fun o => o.g args h K) (ih.oc f)
noncomputable def bindE (ps : List Nat) (args : List AV) (t : L3) (K : L3 → R) : R :=
 List.rec (motive := fun _ => List AV → L3 → (L3 → R) → R) (fun args t K => List.rec (motive := fun _ => R) (K t) (fun _ _ _ => none) args) (fun p _ ih args t K => List.rec (motive := fun _ => R) none (fun v args _ => (q3 p).s t v fun t => ih args t K) args) ps args t K
noncomputable def loB (id lo : Nat) : Nat := bif Nat.ble lo id then lo else id
noncomputable def rndE (ps : List Nat) (assign body : Code) (t0 : L3) (ih : IH) (id : Nat) (args : List AV) (h : H) (K : KV) : R :=
 ja h id (.o (.v false ps assign body t0)) fun h => bindE ps args t0 fun t => ih.run assign t h fun ex t h =>
  Ex.rec (motive := fun _ => R) (ja h id (.o (.v true ps assign body t0)) fun h => ih.run body t h fun ex _ h => Ex.rec (motive := fun _ => R) (ja h id (.o (.l ps assign body t0)) fun h => K (.b true) h) (fun i => setLo h (loB id) h.ac fun h => ja h id (.o (.d (.x i))) fun h => K (.b false) h) (setLo h (loB id) h.ac fun h => ja h id (.o (.d .r)) fun h => K (.b false) h) ex) (fun _ => none) none ex
noncomputable def lendE (id : Nat) (τ : L3) (h : H) (K : KC) : R := blkO h id fun b => kJ h id .x fun h => (match b with | .l _ _ _ _ => K .n τ h | .d ex => K ex τ h | _ => none)
noncomputable def cvE (v : Value) (ih : IH) (args : List AV) (h : H) (K : KV) : R := match v with
 | .func (.func f) fs cs => gd (Nat.beq (fs.size + cs.size) 0) ((fncE f).g ih args h K)
 | _ => none
noncomputable def callO (x : So) : IH → List AV → H → KV → R := So.rec (motive := fun _ => IH → List AV → H → KV → R) (fun _ _ _ _ => none) (fun _ _ _ _ => none) (fun _ _ _ _ _ _ _ _ => none) (fun _ _ _ _ _ _ _ _ => none) (fun _ _ _ _ _ => none) (fun id ih args h K => blkO h id fun b => (match b with | .f f fs cs => (fncE f).g ih (app fs (app args cs)) h K | _ => none)) (fun id ih args h K => blkO h id fun b => (match b with | .l ps a b t => rndE ps a b t ih id args h K | _ => none)) (fun _ _ _ _ => none) (fun v ih args h K => cvE v ih args h K) x
noncomputable def callV (v : AV) (ih : IH) (args : List AV) (h : H) (K : KV) : R := asO v fun x => callO x ih args h K
noncomputable def mmx (mx : Bool) (x : AV) (l : List AV) : Option AV := List.rec (motive := fun _ => AV → Option AV)
 (fun x => asI x fun k a => some (.i k a)) (fun y _ ih x => two x y fun k a b => Bool.rec (motive := fun _ => Option AV) (ih x) (ih y) (Bool.rec (motive := fun _ => Bool) (!jy a b) (!jy b a) mx)) l x
noncomputable def jo {Z : Type} (l : List AV) (K : AV → Option Z) : Option Z := List.rec (motive := fun _ => (AV → Option Z) → Option Z) (fun _ => none) (fun x l _ K => List.rec (motive := fun _ => Option Z) (K x) (fun _ _ _ => none) l) l K
noncomputable def kD {Z : Type} (l : List AV) (K : AV → AV → Option Z) : Option Z := List.rec (motive := fun _ => (AV → AV → Option Z) → Option Z) (fun _ => none) (fun x l _ K => jo l (K x)) l K
inductive OK
 | p (g : L3 → Option AV)
 | r (g : L3 → H → Option AV)
 | a (g : L3 → Option Al)
 | w (g : IH → L3 → H → KV → R)
 | z
noncomputable def nilE (x : AV) : Option AV := match x with
 | .x (.p i o) => some (.x (.p i o))
 | .x (.o (.f i)) => some (.x (.o (.f i)))
 | .x (.o (.y i)) => some (.x (.o (.y i)))
 | .x (.o (.c (.func (.func f) a b))) => some (.x (.o (.c (.func (.func f) a b))))
 | _ => none
noncomputable def cvB (S T : TypeId) : Option IntKind := match Pr.underlying S, Pr.underlying T with
 | some (.int _), some (.int k) => some k
 | _, _ => none
noncomputable def convE (S T : TypeId) : Un := Option.rec (motive := fun _ => Un) (.mk fun _ => none) (fun k => .mk fun x => asI x fun _ n => mkI k n) (cvB S T)
noncomputable def extT (l : List (Sc ⊕ List Sc)) (j : Nat) : Option AV := List.rec (motive := fun _ => Option AV) none (fun s _ _ => Sum.rec (motive := fun _ => Option AV) (fun s => frc_s s fun s => some (.x s)) (fun l => some (.a l)) s) (drp l j)
noncomputable def extE (x : AV) (j : Nat) : Option AV := asT x fun l => extT l j
noncomputable def entryE (x : AV) (h : H) : Option AV := asP x fun id off => gd (Nat.beq off 0) (blkO h id fun b => (match b with
 | .c _ k v _ _ => toSum k fun k => toSum v fun v => some (.t [k, v])
 | .k m k v _ _ _ _ => blkO h m fun b => (match b with | .g _ false _ => toSum k fun k => toSum v fun v => some (.t [k, v]) | _ => none)
 | _ => none))
noncomputable def lenK (T : TypeId) (l : List Operand) : OK := match Pr.underlying T with
 | some (.map _ _) => .r fun τ h => evL l τ fun us => jo us fun x => asO x fun x => (match x with | .m id => lnO x h | .c (.map none) => iLn 0 | _ => none)
 | some (.slice _) => .p fun τ => evL l τ fun us => jo us fun x => asO x fun x => (match x with | .s _ _ n _ => iLn n | .w _ _ n _ => iLn n | .e => iLn 0 | .c (.slice none 0 0) => iLn 0 | _ => none)
 | some .string => .p fun τ => evL l τ fun us => jo us fun x => asO x fun x => (match x with | .c (.string s) => lnV (.string s) | _ => none)
 | _ => .z
noncomputable def sliceT (T : TypeId) : Bool := match Pr.underlying T with | some (.slice _) => true | _ => false
noncomputable def bltE (b : Builtin) (ts : List TypeId) (l : List Operand) : OK := match b with
 | .len => args' ts fun T => lenK T l
 | .cap => args' ts fun T => bif sliceT T then .p fun τ => evL l τ fun us => jo us fun x => asO x fun x => cpO x else .z
 | .append => (match ts with | X :: Y :: _ => .w fun _ τ h K => evL l τ fun us => kD us fun x y => (apdE X Y).g x y h K | _ => .z)
 | .copy => args' ts fun T => .w fun _ τ h K => evL l τ fun us => kD us fun x y => copyE T x y h K
 | .clear => args' ts fun T => .w fun _ τ h K => evL l τ fun us => jo us fun x => asO x fun x => clO x T h K
 | .delete => args' ts fun T => .w fun _ τ h K => evL l τ fun us => kD us fun x y => delE T x y h fun h => K (.t []) h
 | .max => .p fun τ => evL l τ fun us => (match us with | x :: r => mmx true x r | [] => none)
 | .min => .p fun τ => evL l τ fun us => (match us with | x :: r => mmx false x r | [] => none)
 | _ => .z
 where args' (ts : List TypeId) (k : TypeId → OK) : OK := match ts with | T :: _ => k T | [] => .z
noncomputable def calE (c : Callee) (ts : List TypeId) (l : List Operand) : OK := match c with
 | .value f => (match f with
  | .tmp t => .w fun ih τ h K => evL l τ fun args => callV ((q3 t).g τ) ih args h K
  | .const v => .w fun ih τ h K => evL l τ fun args => cvE v ih args h K
  | .func f => .w fun ih τ h K => evL l τ fun args => (fncE f).g ih args h K
  | .global _ => .z)
 | .invoke _ _ => .z
 | .builtin b => bltE b ts l
noncomputable def mkfE (fn : Fn) (fs cs : List Operand) : OK := match fn with
 | .func f => .a fun τ => evL fs τ fun fs => evL cs τ fun cs => some (.mk (.o (.f f fs cs)) fun id => .x (.o (.f id)))
 | _ => .z
noncomputable def opK (o : Op) : OK := Op.rec (motive := fun _ => OK)
 (fun x => .p fun τ => frc ((evO x).v τ) some)
 (fun x => .w fun _ τ h K => frc ((evO x).v τ) fun v => K v h)
 (fun c a b => .p fun τ => asB ((evO c).v τ) fun z => Bool.rec (motive := fun _ => L3 → Option AV) (fun τ => frc ((evO b).v τ) some) (fun τ => frc ((evO a).v τ) some) z τ)
 (fun E => .a fun _ => (allocE E).g)
 (fun E x => .a fun τ => boxE E ((evO x).v τ))
 (fun X ps => .p fun τ => buildE X ps.toList τ)
 (fun X m ps => .a fun τ => jE X m ps.toList τ)
 (fun X m k v => .w fun _ τ h K => frc ((evO k).v τ) fun k => frc ((evO v).v τ) fun v => updE X ((evO m).v τ) k v h fun h => K .n h)
 (fun T x => .r fun τ h => (loadE T).g ((evO x).v τ) h)
 (fun T x y => .w fun _ τ h K => (storeE T).g ((evO x).v τ) ((evO y).v τ) h fun h => K .n h)
 (fun _ => .z)
 (fun _ => .z)
 (fun x => .p fun τ => nilE ((evO x).v τ))
 (fun op X x y _ => .p fun τ => (binE op X).g ((evO x).v τ) ((evO y).v τ))
 (fun op X x => .p fun τ => (unE op).g ((evO x).v τ))
 (fun S T x => .p fun τ => (convE S T).g ((evO x).v τ))
 (fun _ _ => .z)
 (fun _ _ => .z)
 (fun fn fs cs => mkfE fn fs.toList cs.toList)
 (fun T r => Option.rec (motive := fun _ => OK) (.a fun _ => some (.mk (.o (.m [])) fun id => .x (.o (.m id)))) (fun _ => .z) r)
 (fun _ _ => .z)
 (fun X x y => .a fun τ => makeSliceE X ((evO x).v τ) ((evO y).v τ))
 (fun X x lo hi mx => .p fun τ => sliceE ((evO x).v τ) X lo hi mx τ)
 (fun S x f => .p fun τ => (jD S f).g ((evO x).v τ))
 (fun S x f => .p fun τ => (fieldE S f).g ((evO x).v τ))
 (fun X x y => .p fun τ => indexAddrE X ((evO x).v τ) ((evO y).v τ))
 (fun X x y => .p fun τ => indexE X ((evO x).v τ) ((evO y).v τ))
 (fun X x y ok => .r fun τ h => lookupE X ((evO x).v τ) ((evO y).v τ) ok h)
 (fun X m k v => .w fun _ τ h K => frc ((evO k).v τ) fun k => frc ((evO v).v τ) fun v => updE X ((evO m).v τ) k v h fun h => K .n h)
 (fun _ _ _ => .z)
 (fun _ _ _ _ => .z)
 (fun X x => .w fun _ τ h K => gd (isMp X) (rangeE ((evO x).v τ) h K))
 (fun x s => Bool.rec (motive := fun _ => OK) (.w fun _ τ h K => nextE ((evO x).v τ) h K) .z s)
 (fun x => .r fun τ h => entryE ((evO x).v τ) h)
 (fun _ _ _ _ => .z)
 (fun x j => .p fun τ => extE ((evO x).v τ) j)
 (fun c => calE c.callee c.argTypes.toList c.args.toList)
 (fun _ => .z)
 (fun _ => .z)
 (fun _ => .z)
 (fun _ _ => .z)
 (fun _ _ _ => .z)
 (fun _ _ => .z) o
noncomputable def dstOf (ops : List Oper) (j : Nat) : Option Nat := Nat.rec (motive := fun _ => List Oper → Option Nat) (fun l => List.rec (motive := fun _ => Option Nat) none (fun o _ _ => o.dst) l) (fun _ ih l => List.rec (motive := fun _ => Option Nat) none (fun _ l _ => ih l) l) j ops
structure Re where
 mk :: (g : IH → L3 → H → KO → R)
noncomputable def putE (d : Option Nat) (v : AV) (τ : L3) (h : H) (K : KO) : R := Option.rec (motive := fun _ => R) (K τ h) (fun d => (q3 d).s τ v fun τ => K τ h) d
noncomputable def stpE (k : OK) (d : Option Nat) : Re := OK.rec (motive := fun _ => Re)
 (fun g => .mk fun _ τ h K => obn (g τ) fun v => putE d v τ h K)
 (fun g => .mk fun _ τ h K => obn (g τ h) fun v => putE d v τ h K)
 (fun g => .mk fun _ τ h K => obn (g τ) fun a => newB h a.b fun id h => putE d (a.v id) τ h K)
 (fun g => .mk fun ih τ h K => g ih τ h fun v h => putE d v τ h K)
 (.mk fun _ _ _ _ => none) k
noncomputable def skpE (d : Option Nat) : Re := .mk fun _ τ h K => putE d .n τ h K
noncomputable def wantB (want : Bool) (v : AV) : Option Bool := match v with
 | .x (.b c) => some (c == want)
 | .x (.o .n) => some false
 | _ => none
noncomputable def operE (all : List Oper) (o : Oper) : Re :=
 Option.rec (motive := fun _ => Re) (stpE (opK o.op) o.dst) (fun g => Option.rec (motive := fun _ => Re) (.mk fun _ _ _ _ => none) (fun d => 
  .mk fun ih τ h K => obn (wantB g.2 ((q3 d).g τ)) fun b => Bool.rec (motive := fun _ => IH → L3 → H → KO → R) (fun ih τ h K => (skpE o.dst).g ih τ h K) (fun ih τ h K => (stpE (opK o.op) o.dst).g ih τ h K) b ih τ h K) (dstOf all g.1)) o.guard
noncomputable def opsE (all l : List Oper) : Re :=
 List.rec (motive := fun _ => List Oper → Re) (fun _ => .mk fun _ τ h K => K τ h) (fun o l ih all => .mk fun i τ h K => (operE all o).g i τ h fun τ h => (ih all).g i τ h K) l all
/-! ### Regions whose order is drawn -/
noncomputable def kdO (k : OK) : Nat := OK.rec (motive := fun _ => Nat) (fun _ => 0) (fun _ => 1) (fun _ => 2) (fun _ => 3) 3 k
structure Rw where
 i : Nat
 o : Oper
 wt : Nat
 lk : Nat
 ds : Nat
 kd : Nat
def nth : List Nat → Nat → Nat
 | [], _ => 0
 | x :: _, 0 => x
 | _ :: l, n + 1 => nth l n
noncomputable def wtO (o : Oper) (i : Nat) (done : List Nat) : Nat := o.after.toList.foldr (fun e m => bif Region.binds .any e && Nat.blt e.on i then Nat.lor m (Nat.lor (Nat.shiftLeft 1 e.on) (nth done e.on)) else m) 0
noncomputable def rows (ops : Array Oper) : List Oper → Nat → List Nat → List Rw
 | [], _, _ => []
 | o :: l, i, done => nat (wtO o i done) fun m => { i := i, o := o, wt := m, lk := bitsOf (o.looksAt ops), ds := bitsOf o.dst.toList, kd := kdO (opK o.op) } :: rows ops l (i + 1) (done ++ [m])
noncomputable def rdyB (m : Nat) (r : Rw) : Bool := !Nat.testBit m r.i && Nat.beq (Nat.land r.wt m) r.wt
noncomputable def pick1 (l : List Rw) (m : Nat) : Option Rw := List.rec (motive := fun _ => Option Rw) none (fun r _ ih => bif !Nat.beq r.kd 3 && rdyB m r then some r else ih) l
noncomputable def pick2 (l : List Rw) (m : Nat) : Option Rw := List.rec (motive := fun _ => Option Rw) none (fun r _ ih => bif rdyB m r then some r else ih) l
noncomputable def ordE (l : List Rw) : Nat → Nat → List Rw
 | 0, _ => []
 | n + 1, m => match pick1 l m with
  | some r => r :: ordE l n (Nat.lor m (Nat.shiftLeft 1 r.i))
  | none => (match pick2 l m with | some r => r :: ordE l n (Nat.lor m (Nat.shiftLeft 1 r.i)) | none => [])
noncomputable def okPair (r s : Rw) : Bool :=
 !Nat.beq r.i s.i && (!Nat.beq r.kd 3 || Nat.testBit s.wt r.i) && (Nat.beq (Nat.land s.lk r.ds) 0 || Nat.testBit s.wt r.i) && (Nat.beq (Nat.land r.lk s.ds) 0 || (Nat.beq s.kd 3 && Nat.testBit s.wt r.i)) && Nat.beq (Nat.land r.ds s.ds) 0
noncomputable def okRow (r : Rw) : Bool := (Nat.beq r.kd 3 || Nat.beq (Nat.land r.lk r.ds) 0) && r.o.after.toList.all (fun e => !Region.binds .any e || Nat.testBit r.wt e.on)
noncomputable def okPlan : List Rw → Nat → Bool
 | [], _ => true
 | r :: l, m => okRow r && Nat.beq (Nat.land r.wt m) r.wt && l.all (okPair r) && okPlan l (Nat.lor m (Nat.shiftLeft 1 r.i))
structure Rk where
 mk :: (g : L3 → H → Bool)
noncomputable def rdK (k : OK) (d : Option Nat) : Rk := match k, d with
 | .r g, some d => .mk fun τ h => Option.rec (motive := fun _ => Bool) false (fun v => avB v ((q3 d).g τ)) (g τ h)
 | _, _ => .mk fun _ _ => false
noncomputable def rckE (all : List Oper) (o : Oper) : Rk := match o.guard with
 | none => rdK (opK o.op) o.dst
 | some g => (match dstOf all g.1 with
  | some d => .mk fun τ h => Option.rec (motive := fun _ => Bool) false (fun b => Bool.rec (motive := fun _ => Bool) true ((rdK (opK o.op) o.dst).g τ h) b) (wantB g.2 ((q3 d).g τ))
  | none => .mk fun _ _ => false)
noncomputable def rcksE (all : List Oper) (l : List Rw) : Rk := List.rec (motive := fun _ => Rk) (.mk fun _ _ => true) (fun r _ ih => .mk fun τ h => (rckE all r.o).g τ h && ih.g τ h) l
noncomputable def pend (r : Rw) (done : List Rw) : List Rw := List.rec (motive := fun _ => List Rw) [] (fun s _ ih => bif Nat.beq s.kd 1 && !Nat.testBit r.wt s.i then s :: ih else ih) done
noncomputable def runP (all : List Oper) (l : List Rw) : List Rw → Re :=
 List.rec (motive := fun _ => List Rw → Re) (fun _ => .mk fun _ τ h K => K τ h) (fun r _ ih done => Bool.rec (motive := fun _ => Re)
  (.mk fun i τ h K => (operE all r.o).g i τ h fun τ h => (ih (r :: done)).g i τ h K)
  (.mk fun i τ h K => (operE all r.o).g i τ h fun τ h => gd ((rcksE all (pend r done)).g τ h) ((ih (r :: done)).g i τ h K)) (Nat.beq r.kd 3)) l
noncomputable def planE (ops : Array Oper) : List Rw := ordE (rows ops ops.toList 0 []) ops.size 0
noncomputable def regE (ops : Array Oper) (draw : Bool) : Re := Bool.rec (motive := fun _ => Re) (opsE ops.toList ops.toList)
 (Bool.rec (motive := fun _ => Re) (.mk fun _ _ _ _ => none) (runP ops.toList (planE ops) []) (((List.range ops.size).all fun i => (planE ops).any fun r => Nat.beq r.i i) && okPlan (planE ops) 0)) draw
/-! ### Code -/
noncomputable def loopE (n : Nat) (g : L3 → H → KC → R) : L3 → H → KC → R :=
 Nat.rec (motive := fun _ => (L3 → H → KC → R) → L3 → H → KC → R) (fun _ _ _ _ => none) (fun _ lp g τ h K => g τ h fun ex τ h => Ex.rec (motive := fun _ => R) (lp g τ h K) (fun id => K (.x id) τ h) (K .r τ h) ex) n g
noncomputable def fgt (l : List Nat) (τ : L3) (K : L3 → R) : R := List.rec (motive := fun _ => L3 → (L3 → R) → R) (fun τ K => K τ) (fun d _ ih τ K => (q3 d).s τ .u fun τ => ih τ K) l τ K
noncomputable def yldC (c : Code) : Bool := Code.rec (motive := fun _ => Bool) false (fun _ ops _ => ops.toList.any fun o => match o.op with | .call c => (match c.callee with | .value (.tmp _) => true | _ => false) | _ => false) (fun _ _ a b => a || b) (fun _ _ _ a b => a || b) (fun _ _ a => a) (fun _ a => a) (fun _ _ _ _ a b => a || b) (fun _ => false) (fun _ a => a) (fun _ => false) (fun _ => false) false (fun _ => false) c
noncomputable def mrC (c : Code) : Option Nat := match c with | .seq (.region _ ops _) _ => (match ops.toList with | o :: _ => (match o.op with | .next (.tmp t) false => bif delC c || yldC c then some t else none | _ => none) | [] => none) | _ => none
noncomputable def entE (g : L3 → H → KC → R) (τ : L3) (h : H) (id mid : Nat) (l : List (AV × AV)) : Option (List ((AV × AV) × Bool)) :=
 List.rec (motive := fun _ => Option (List ((AV × AV) × Bool))) (some []) (fun e _ ih => obn (ja h id (.o (.q mid e.1 e.2)) fun h => ja h mid (.o .h) fun h => g τ h fun ex _ h =>
  blkO h mid fun b => (match b with | .g _ gone _ => some [(.b gone, .mk 0 0 (0, 0) H5.e)] | _ => none))
  fun rs => List.rec (motive := fun _ => Option (List ((AV × AV) × Bool))) none (fun r _ _ => asB r.1 fun gone => obn ih fun m => some ((e, Bool.rec (motive := fun _ => Bool) true false gone) :: m)) rs) l
noncomputable def lvE (g : L3 → H → KC → R) (τ : L3) (h : H) (id mid : Nat) (l : List (AV × AV)) (i : Nat) : Nat :=
 List.rec (motive := fun _ => Nat → Nat) (fun _ => 0) (fun e _ ih i => Option.rec (motive := fun _ => Nat) (ih (Nat.succ i)) (fun _ => Nat.succ i) (ja h id (.o (.q mid e.1 e.2)) fun h => ja h mid (.o .h) fun h => g τ h fun ex _ h => Ex.rec (motive := fun _ => R) none (fun _ => some []) (some []) ex)) l i
noncomputable def rndJ (id lo : Nat) (h : H) : R := blkO h id fun b => (match b with | .k m _ _ _ keep _ cur => blkO h m fun b => (match b with | .g _ gone _ => gd (xor gone keep && !cur && Nat.beq h.lo lo) (some []) | _ => none) | _ => none)
noncomputable def outJ (lo' lh : Nat) : Nat := bif Nat.ble lo' lh then lo' else lh
noncomputable def mapLoop (t : Nat) (ws : List Nat) (y : Bool) (g : L3 → H → KC → R) (τ : L3) (h : H) (K : KC) : R :=
 asP ((q3 t).g τ) fun id off => gd (Nat.beq off 0 && !ws.contains t && !ws.contains 1000 && Nat.ble h.lo id) (blkO h id fun b => (match b with
  | .i mid l => gd (Nat.ble h.lo mid && dstK l) (shut h (Nat.succ id, Nat.succ mid) fun nx lo h1 => fgt ws τ fun τ => obn (entE g τ h1 id mid l) fun r =>
   ja h1 id (.o (.j mid r (Bool.rec (motive := fun _ => Nat) 0 (lvE g τ h1 id mid l 0) y))) fun hJ => ja hJ mid (.o .h) fun hJ => g τ hJ fun ex τ' h' =>
    Ex.rec (motive := fun _ => R) (rndJ id nx h') (fun i => setLo h' (outJ lo) h.ac fun h' => ja h' id (.o .z) fun h' => K (.x i) τ' h') (setLo h' (outJ lo) h.ac fun h' => ja h' id (.o .z) fun h' => K .r τ' h') ex)
  | _ => none))
noncomputable def notY (v : AV) : Bool := match v with | .x (.o (.y _)) => false | _ => true
structure Ce where
 mk :: (g : IH → Nat → L3 → H → KC → R)
noncomputable def codeE (c : Code) : Ce := Code.rec (motive := fun _ => Ce)
 (.mk fun _ _ τ h K => K .n τ h)
 (fun _ ops dr => .mk fun ih _ τ h K => (regE ops dr).g ih τ h fun τ h => K .n τ h)
 (fun _ _ ga gb => .mk fun ih n τ h K => ga.g ih n τ h fun ex τ h => Ex.rec (motive := fun _ => R) (gb.g ih n τ h K) (fun id => K (.x id) τ h) (K .r τ h) ex)
 (fun c _ _ ga gb => .mk fun ih n τ h K => asB ((evO c).v τ) fun b => Bool.rec (motive := fun _ => IH → Nat → L3 → H → KC → R) (fun ih n τ h K => gb.g ih n τ h K) (fun ih n τ h K => ga.g ih n τ h K) b ih n τ h K)
 (fun id _ g => .mk fun ih n τ h K => g.g ih n τ h fun ex τ h => Ex.rec (motive := fun _ => R) (K .n τ h) (fun i => Bool.rec (motive := fun _ => R) (K (.x i) τ h) (K .n τ h) (Nat.beq i id)) (K .r τ h) ex)
 (fun c g => Option.rec (motive := fun _ => Ce) (.mk fun ih n τ h K => loopE n (g.g ih n) τ h K) (fun t => .mk fun ih n τ h K => mapLoop t (wrC c) (yldC c) (g.g ih n) τ h K) (mrC c))
 (fun f ps assign body _ _ => .mk fun ih _ τ h K => newB h (.o .t) fun _ h => newB h (.o (.l ps.toList assign body τ)) fun id h => gd (notY ((evO f).v τ)) (callV ((evO f).v τ) ih [.x (.o (.y id))] h fun _ h => lendE id τ h K))
 (fun id => .mk fun _ _ τ h K => K (.x id) τ h)
 (fun _ g => .mk fun ih n τ h K => g.g ih n τ h K)
 (fun _ => .mk fun _ _ τ h K => K .n τ h)
 (fun _ => .mk fun _ _ _ _ _ => none)
 (.mk fun _ _ τ h K => K .r τ h)
 (fun _ => .mk fun _ _ _ _ _ => none) c
noncomputable def runC (O : FuncId → Option Orc) (n : Nat) : Code → L3 → H → KC → R := Nat.rec (motive := fun _ => Code → L3 → H → KC → R) (fun _ _ _ _ => none) (fun _ ih c τ h K => (codeE c).g (.mk ih O) 100000 τ h K) n
noncomputable def fuel (O : FuncId → Option Orc) (n : Nat) : IH := .mk (runC O n) O
noncomputable def run (O : FuncId → Option Orc) (f : FuncId) (args : List AV) (h : H) (K : KV) : R := (fncB f).g (fuel O 1000) args h K
noncomputable def O0 (f : FuncId) : Option Orc := none
noncomputable def isT (r : R) : Bool := match r with | some _ => true | none => false
noncomputable def H.e : H := .mk 0 0 (0, 0) H5.e
noncomputable def runs (O : FuncId → Option Orc) (f : FuncId) : Bool := isT (run O f [] H.e fun v h => asB v fun b => gd b (some []))
end Go.Ev
end
section
set_option linter.unusedVariables false
set_option linter.constructorNameAsVariable false
namespace Go.Ev
theorem dOf_inj : ∀ {a b : Nat}, a < 8 → b < 8 → dOf a = dOf b → a = b := by
 intro a b ha hb
 have h : ∀ a : Fin 8, ∀ b : Fin 8, dOf a.1 = dOf b.1 → a = b := by
  intro a b
  rcases a with ⟨a, ha⟩
  rcases b with ⟨b, hb⟩
  match a, ha, b, hb with
  | 0, _, 0, _ => exact fun _ => rfl
  | 0, _, 1, _ => exact fun h => by cases (show D.d0 = D.d1 from h)
  | 0, _, 2, _ => exact fun h => by cases (show D.d0 = D.d2 from h)
  | 0, _, 3, _ => exact fun h => by cases (show D.d0 = D.d3 from h)
  | 0, _, 4, _ => exact fun h => by cases (show D.d0 = D.d4 from h)
  | 0, _, 5, _ => exact fun h => by cases (show D.d0 = D.d5 from h)
  | 0, _, 6, _ => exact fun h => by cases (show D.d0 = D.d6 from h)
  | 0, _, 7, _ => exact fun h => by cases (show D.d0 = D.d7 from h)
  | 1, _, 0, _ => exact fun h => by cases (show D.d1 = D.d0 from h)
  | 1, _, 1, _ => exact fun _ => rfl
  | 1, _, 2, _ => exact fun h => by cases (show D.d1 = D.d2 from h)
  | 1, _, 3, _ => exact fun h => by cases (show D.d1 = D.d3 from h)
  | 1, _, 4, _ => exact fun h => by cases (show D.d1 = D.d4 from h)
  | 1, _, 5, _ => exact fun h => by cases (show D.d1 = D.d5 from h)
  | 1, _, 6, _ => exact fun h => by cases (show D.d1 = D.d6 from h)
  | 1, _, 7, _ => exact fun h => by cases (show D.d1 = D.d7 from h)
  | 2, _, 0, _ => exact fun h => by cases (show D.d2 = D.d0 from h)
  | 2, _, 1, _ => exact fun h => by cases (show D.d2 = D.d1 from h)
  | 2, _, 2, _ => exact fun _ => rfl
  | 2, _, 3, _ => exact fun h => by cases (show D.d2 = D.d3 from h)
  | 2, _, 4, _ => exact fun h => by cases (show D.d2 = D.d4 from h)
  | 2, _, 5, _ => exact fun h => by cases (show D.d2 = D.d5 from h)
  | 2, _, 6, _ => exact fun h => by cases (show D.d2 = D.d6 from h)
  | 2, _, 7, _ => exact fun h => by cases (show D.d2 = D.d7 from h)
  | 3, _, 0, _ => exact fun h => by cases (show D.d3 = D.d0 from h)
  | 3, _, 1, _ => exact fun h => by cases (show D.d3 = D.d1 from h)
  | 3, _, 2, _ => exact fun h => by cases (show D.d3 = D.d2 from h)
  | 3, _, 3, _ => exact fun _ => rfl
  | 3, _, 4, _ => exact fun h => by cases (show D.d3 = D.d4 from h)
  | 3, _, 5, _ => exact fun h => by cases (show D.d3 = D.d5 from h)
  | 3, _, 6, _ => exact fun h => by cases (show D.d3 = D.d6 from h)
  | 3, _, 7, _ => exact fun h => by cases (show D.d3 = D.d7 from h)
  | 4, _, 0, _ => exact fun h => by cases (show D.d4 = D.d0 from h)
  | 4, _, 1, _ => exact fun h => by cases (show D.d4 = D.d1 from h)
  | 4, _, 2, _ => exact fun h => by cases (show D.d4 = D.d2 from h)
  | 4, _, 3, _ => exact fun h => by cases (show D.d4 = D.d3 from h)
  | 4, _, 4, _ => exact fun _ => rfl
  | 4, _, 5, _ => exact fun h => by cases (show D.d4 = D.d5 from h)
  | 4, _, 6, _ => exact fun h => by cases (show D.d4 = D.d6 from h)
  | 4, _, 7, _ => exact fun h => by cases (show D.d4 = D.d7 from h)
  | 5, _, 0, _ => exact fun h => by cases (show D.d5 = D.d0 from h)
  | 5, _, 1, _ => exact fun h => by cases (show D.d5 = D.d1 from h)
  | 5, _, 2, _ => exact fun h => by cases (show D.d5 = D.d2 from h)
  | 5, _, 3, _ => exact fun h => by cases (show D.d5 = D.d3 from h)
  | 5, _, 4, _ => exact fun h => by cases (show D.d5 = D.d4 from h)
  | 5, _, 5, _ => exact fun _ => rfl
  | 5, _, 6, _ => exact fun h => by cases (show D.d5 = D.d6 from h)
  | 5, _, 7, _ => exact fun h => by cases (show D.d5 = D.d7 from h)
  | 6, _, 0, _ => exact fun h => by cases (show D.d6 = D.d0 from h)
  | 6, _, 1, _ => exact fun h => by cases (show D.d6 = D.d1 from h)
  | 6, _, 2, _ => exact fun h => by cases (show D.d6 = D.d2 from h)
  | 6, _, 3, _ => exact fun h => by cases (show D.d6 = D.d3 from h)
  | 6, _, 4, _ => exact fun h => by cases (show D.d6 = D.d4 from h)
  | 6, _, 5, _ => exact fun h => by cases (show D.d6 = D.d5 from h)
  | 6, _, 6, _ => exact fun _ => rfl
  | 6, _, 7, _ => exact fun h => by cases (show D.d6 = D.d7 from h)
  | 7, _, 0, _ => exact fun h => by cases (show D.d7 = D.d0 from h)
  | 7, _, 1, _ => exact fun h => by cases (show D.d7 = D.d1 from h)
  | 7, _, 2, _ => exact fun h => by cases (show D.d7 = D.d2 from h)
  | 7, _, 3, _ => exact fun h => by cases (show D.d7 = D.d3 from h)
  | 7, _, 4, _ => exact fun h => by cases (show D.d7 = D.d4 from h)
  | 7, _, 5, _ => exact fun h => by cases (show D.d7 = D.d5 from h)
  | 7, _, 6, _ => exact fun h => by cases (show D.d7 = D.d6 from h)
  | 7, _, 7, _ => exact fun _ => rfl
 intro e
 have := h ⟨a, ha⟩ ⟨b, hb⟩ e
 simpa using this
theorem kz (n : Nat) : Nat.land n 7 = n % 8 := by
 have := Nat.and_two_pow_sub_one_eq_mod n 3
 simpa using this
theorem dg1_eq {i j : Nat} (h : dg1 i = dg1 j) : i % 8 = j % 8 := by
 have := dOf_inj (by rw [kz]; omega) (by rw [kz]; omega) h
 rwa [kz, kz] at this
theorem dg2_eq {i j : Nat} (h : dg2 i = dg2 j) : i / 8 % 8 = j / 8 % 8 := by
 have := dOf_inj (by rw [kz]; omega) (by rw [kz]; omega) h
 rw [kz, kz] at this
 have e : ∀ n, Nat.shiftRight n 3 = n / 8 := fun n => by have := Nat.shiftRight_eq_div_pow n 3; simpa using this
 rwa [e, e] at this
theorem dg3_eq {i j : Nat} (h : dg3 i = dg3 j) : i / 64 % 8 = j / 64 % 8 := by
 have := dOf_inj (by rw [kz]; omega) (by rw [kz]; omega) h
 rw [kz, kz] at this
 have e : ∀ n, Nat.shiftRight n 6 = n / 64 := fun n => by have := Nat.shiftRight_eq_div_pow n 6; simpa using this
 rwa [e, e] at this
theorem dg4_eq {i j : Nat} (h : dg4 i = dg4 j) : i / 512 % 8 = j / 512 % 8 := by
 have := dOf_inj (by rw [kz]; omega) (by rw [kz]; omega) h
 rw [kz, kz] at this
 have e : ∀ n, Nat.shiftRight n 9 = n / 512 := fun n => by have := Nat.shiftRight_eq_div_pow n 9; simpa using this
 rwa [e, e] at this
theorem dg5_eq {i j : Nat} (h : dg5 i = dg5 j) : i / 4096 % 8 = j / 4096 % 8 := by
 have := dOf_inj (by rw [kz]; omega) (by rw [kz]; omega) h
 rw [kz, kz] at this
 have e : ∀ n, Nat.shiftRight n 12 = n / 4096 := fun n => by have := Nat.shiftRight_eq_div_pow n 12; simpa using this
 rwa [e, e] at this
theorem p1_dig {i j : Nat} (t : H1) (h : dg1 j = dg1 i) : (p1 j).g t = (p1 i).g t := by unfold p1; rw [h]
theorem p2_dig {i j : Nat} (t : H2) (h : dg2 j = dg2 i ∧ dg1 j = dg1 i) : (p2 j).g t = (p2 i).g t := by
 obtain ⟨h, h1⟩ := h
 unfold p2; rw [h]; generalize dg2 i = d; cases d <;> exact p1_dig _ h1
theorem p3_dig {i j : Nat} (t : H3) (h : dg3 j = dg3 i ∧ dg2 j = dg2 i ∧ dg1 j = dg1 i) : (p3 j).g t = (p3 i).g t := by
 obtain ⟨h, h2, h1⟩ := h
 unfold p3; rw [h]; generalize dg3 i = d; cases d <;> exact p2_dig _ ⟨h2, h1⟩
theorem p4_dig {i j : Nat} (t : H4) (h : dg4 j = dg4 i ∧ dg3 j = dg3 i ∧ dg2 j = dg2 i ∧ dg1 j = dg1 i) : (p4 j).g t = (p4 i).g t := by
 obtain ⟨h, h3, h2, h1⟩ := h
 unfold p4; rw [h]; generalize dg4 i = d; cases d <;> exact p3_dig _ ⟨h3, h2, h1⟩
theorem p5_dig {i j : Nat} (t : H5) (h : dg5 j = dg5 i ∧ dg4 j = dg4 i ∧ dg3 j = dg3 i ∧ dg2 j = dg2 i ∧ dg1 j = dg1 i) : (p5 j).g t = (p5 i).g t := by
 obtain ⟨h, h4, h3, h2, h1⟩ := h
 unfold p5; rw [h]; generalize dg5 i = d; cases d <;> exact p4_dig _ ⟨h4, h3, h2, h1⟩
theorem q1_law (i : Nat) (t : L1) (v : AV) : ∃ t', (∀ {Z : Type} (k : L1 → Z), (q1 i).s t v k = k t') ∧ (∀ j, dg1 j = dg1 i → (q1 j).g t' = v) ∧ ∀ j, ¬ (dg1 j = dg1 i) → (q1 j).g t' = (q1 j).g t := by
 obtain ⟨c0, c1, c2, c3, c4, c5, c6, c7⟩ := t
 unfold q1
 generalize dg1 i = d
 cases d <;> exact ⟨_, fun k => rfl, fun j h => by rw [h], fun j h => by generalize dg1 j = e at *; cases e <;> first | rfl | exact absurd rfl h⟩
theorem q2_law (i : Nat) (t : L2) (v : AV) : ∃ t', (∀ {Z : Type} (k : L2 → Z), (q2 i).s t v k = k t') ∧ (∀ j, dg2 j = dg2 i ∧ dg1 j = dg1 i → (q2 j).g t' = v) ∧ ∀ j, ¬ (dg2 j = dg2 i ∧ dg1 j = dg1 i) → (q2 j).g t' = (q2 j).g t := by
 obtain ⟨c0, c1, c2, c3, c4, c5, c6, c7⟩ := t
 unfold q2
 generalize dg2 i = d
 cases d
 ·obtain ⟨y, h1, h2, h3⟩ := q1_law i c0 v
  refine ⟨_, fun k => h1 _, fun j h => ?_, fun j h => ?_⟩
  ·obtain ⟨h, h'⟩ := h
   rw [h]; exact h2 j h'
  ·generalize dg2 j = e at *
   cases e <;> first | rfl | exact h3 j fun h' => h ⟨rfl, h'⟩
 ·obtain ⟨y, h1, h2, h3⟩ := q1_law i c1 v
  refine ⟨_, fun k => h1 _, fun j h => ?_, fun j h => ?_⟩
  ·obtain ⟨h, h'⟩ := h
   rw [h]; exact h2 j h'
  ·generalize dg2 j = e at *
   cases e <;> first | rfl | exact h3 j fun h' => h ⟨rfl, h'⟩
 ·obtain ⟨y, h1, h2, h3⟩ := q1_law i c2 v
  refine ⟨_, fun k => h1 _, fun j h => ?_, fun j h => ?_⟩
  ·obtain ⟨h, h'⟩ := h
   rw [h]; exact h2 j h'
  ·generalize dg2 j = e at *
   cases e <;> first | rfl | exact h3 j fun h' => h ⟨rfl, h'⟩
 ·obtain ⟨y, h1, h2, h3⟩ := q1_law i c3 v
  refine ⟨_, fun k => h1 _, fun j h => ?_, fun j h => ?_⟩
  ·obtain ⟨h, h'⟩ := h
   rw [h]; exact h2 j h'
  ·generalize dg2 j = e at *
   cases e <;> first | rfl | exact h3 j fun h' => h ⟨rfl, h'⟩
 ·obtain ⟨y, h1, h2, h3⟩ := q1_law i c4 v
  refine ⟨_, fun k => h1 _, fun j h => ?_, fun j h => ?_⟩
  ·obtain ⟨h, h'⟩ := h
   rw [h]; exact h2 j h'
  ·generalize dg2 j = e at *
   cases e <;> first | rfl | exact h3 j fun h' => h ⟨rfl, h'⟩
 ·obtain ⟨y, h1, h2, h3⟩ := q1_law i c5 v
  refine ⟨_, fun k => h1 _, fun j h => ?_, fun j h => ?_⟩
  ·obtain ⟨h, h'⟩ := h
   rw [h]; exact h2 j h'
  ·generalize dg2 j = e at *
   cases e <;> first | rfl | exact h3 j fun h' => h ⟨rfl, h'⟩
 ·obtain ⟨y, h1, h2, h3⟩ := q1_law i c6 v
  refine ⟨_, fun k => h1 _, fun j h => ?_, fun j h => ?_⟩
  ·obtain ⟨h, h'⟩ := h
   rw [h]; exact h2 j h'
  ·generalize dg2 j = e at *
   cases e <;> first | rfl | exact h3 j fun h' => h ⟨rfl, h'⟩
 ·obtain ⟨y, h1, h2, h3⟩ := q1_law i c7 v
  refine ⟨_, fun k => h1 _, fun j h => ?_, fun j h => ?_⟩
  ·obtain ⟨h, h'⟩ := h
   rw [h]; exact h2 j h'
  ·generalize dg2 j = e at *
   cases e <;> first | rfl | exact h3 j fun h' => h ⟨rfl, h'⟩
theorem q3_law (i : Nat) (t : L3) (v : AV) : ∃ t', (∀ {Z : Type} (k : L3 → Z), (q3 i).s t v k = k t') ∧ (∀ j, dg3 j = dg3 i ∧ dg2 j = dg2 i ∧ dg1 j = dg1 i → (q3 j).g t' = v) ∧ ∀ j, ¬ (dg3 j = dg3 i ∧ dg2 j = dg2 i ∧ dg1 j = dg1 i) → (q3 j).g t' = (q3 j).g t := by
 obtain ⟨c0, c1, c2, c3, c4, c5, c6, c7⟩ := t
 unfold q3
 generalize dg3 i = d
 cases d
 ·obtain ⟨y, h1, h2, h3⟩ := q2_law i c0 v
  refine ⟨_, fun k => h1 _, fun j h => ?_, fun j h => ?_⟩
  ·obtain ⟨h, h'⟩ := h
   rw [h]; exact h2 j h'
  ·generalize dg3 j = e at *
   cases e <;> first | rfl | exact h3 j fun h' => h ⟨rfl, h'⟩
 ·obtain ⟨y, h1, h2, h3⟩ := q2_law i c1 v
  refine ⟨_, fun k => h1 _, fun j h => ?_, fun j h => ?_⟩
  ·obtain ⟨h, h'⟩ := h
   rw [h]; exact h2 j h'
  ·generalize dg3 j = e at *
   cases e <;> first | rfl | exact h3 j fun h' => h ⟨rfl, h'⟩
 ·obtain ⟨y, h1, h2, h3⟩ := q2_law i c2 v
  refine ⟨_, fun k => h1 _, fun j h => ?_, fun j h => ?_⟩
  ·obtain ⟨h, h'⟩ := h
   rw [h]; exact h2 j h'
  ·generalize dg3 j = e at *
   cases e <;> first | rfl | exact h3 j fun h' => h ⟨rfl, h'⟩
 ·obtain ⟨y, h1, h2, h3⟩ := q2_law i c3 v
  refine ⟨_, fun k => h1 _, fun j h => ?_, fun j h => ?_⟩
  ·obtain ⟨h, h'⟩ := h
   rw [h]; exact h2 j h'
  ·generalize dg3 j = e at *
   cases e <;> first | rfl | exact h3 j fun h' => h ⟨rfl, h'⟩
 ·obtain ⟨y, h1, h2, h3⟩ := q2_law i c4 v
  refine ⟨_, fun k => h1 _, fun j h => ?_, fun j h => ?_⟩
  ·obtain ⟨h, h'⟩ := h
   rw [h]; exact h2 j h'
  ·generalize dg3 j = e at *
   cases e <;> first | rfl | exact h3 j fun h' => h ⟨rfl, h'⟩
 ·obtain ⟨y, h1, h2, h3⟩ := q2_law i c5 v
  refine ⟨_, fun k => h1 _, fun j h => ?_, fun j h => ?_⟩
  ·obtain ⟨h, h'⟩ := h
   rw [h]; exact h2 j h'
  ·generalize dg3 j = e at *
   cases e <;> first | rfl | exact h3 j fun h' => h ⟨rfl, h'⟩
 ·obtain ⟨y, h1, h2, h3⟩ := q2_law i c6 v
  refine ⟨_, fun k => h1 _, fun j h => ?_, fun j h => ?_⟩
  ·obtain ⟨h, h'⟩ := h
   rw [h]; exact h2 j h'
  ·generalize dg3 j = e at *
   cases e <;> first | rfl | exact h3 j fun h' => h ⟨rfl, h'⟩
 ·obtain ⟨y, h1, h2, h3⟩ := q2_law i c7 v
  refine ⟨_, fun k => h1 _, fun j h => ?_, fun j h => ?_⟩
  ·obtain ⟨h, h'⟩ := h
   rw [h]; exact h2 j h'
  ·generalize dg3 j = e at *
   cases e <;> first | rfl | exact h3 j fun h' => h ⟨rfl, h'⟩
theorem q4_law (i : Nat) (t : L4) (v : AV) : ∃ t', (∀ {Z : Type} (k : L4 → Z), (q4 i).s t v k = k t') ∧ (∀ j, dg4 j = dg4 i ∧ dg3 j = dg3 i ∧ dg2 j = dg2 i ∧ dg1 j = dg1 i → (q4 j).g t' = v) ∧ ∀ j, ¬ (dg4 j = dg4 i ∧ dg3 j = dg3 i ∧ dg2 j = dg2 i ∧ dg1 j = dg1 i) → (q4 j).g t' = (q4 j).g t := by
 obtain ⟨c0, c1, c2, c3, c4, c5, c6, c7⟩ := t
 unfold q4
 generalize dg4 i = d
 cases d
 ·obtain ⟨y, h1, h2, h3⟩ := q3_law i c0 v
  refine ⟨_, fun k => h1 _, fun j h => ?_, fun j h => ?_⟩
  ·obtain ⟨h, h'⟩ := h
   rw [h]; exact h2 j h'
  ·generalize dg4 j = e at *
   cases e <;> first | rfl | exact h3 j fun h' => h ⟨rfl, h'⟩
 ·obtain ⟨y, h1, h2, h3⟩ := q3_law i c1 v
  refine ⟨_, fun k => h1 _, fun j h => ?_, fun j h => ?_⟩
  ·obtain ⟨h, h'⟩ := h
   rw [h]; exact h2 j h'
  ·generalize dg4 j = e at *
   cases e <;> first | rfl | exact h3 j fun h' => h ⟨rfl, h'⟩
 ·obtain ⟨y, h1, h2, h3⟩ := q3_law i c2 v
  refine ⟨_, fun k => h1 _, fun j h => ?_, fun j h => ?_⟩
  ·obtain ⟨h, h'⟩ := h
   rw [h]; exact h2 j h'
  ·generalize dg4 j = e at *
   cases e <;> first | rfl | exact h3 j fun h' => h ⟨rfl, h'⟩
 ·obtain ⟨y, h1, h2, h3⟩ := q3_law i c3 v
  refine ⟨_, fun k => h1 _, fun j h => ?_, fun j h => ?_⟩
  ·obtain ⟨h, h'⟩ := h
   rw [h]; exact h2 j h'
  ·generalize dg4 j = e at *
   cases e <;> first | rfl | exact h3 j fun h' => h ⟨rfl, h'⟩
 ·obtain ⟨y, h1, h2, h3⟩ := q3_law i c4 v
  refine ⟨_, fun k => h1 _, fun j h => ?_, fun j h => ?_⟩
  ·obtain ⟨h, h'⟩ := h
   rw [h]; exact h2 j h'
  ·generalize dg4 j = e at *
   cases e <;> first | rfl | exact h3 j fun h' => h ⟨rfl, h'⟩
 ·obtain ⟨y, h1, h2, h3⟩ := q3_law i c5 v
  refine ⟨_, fun k => h1 _, fun j h => ?_, fun j h => ?_⟩
  ·obtain ⟨h, h'⟩ := h
   rw [h]; exact h2 j h'
  ·generalize dg4 j = e at *
   cases e <;> first | rfl | exact h3 j fun h' => h ⟨rfl, h'⟩
 ·obtain ⟨y, h1, h2, h3⟩ := q3_law i c6 v
  refine ⟨_, fun k => h1 _, fun j h => ?_, fun j h => ?_⟩
  ·obtain ⟨h, h'⟩ := h
   rw [h]; exact h2 j h'
  ·generalize dg4 j = e at *
   cases e <;> first | rfl | exact h3 j fun h' => h ⟨rfl, h'⟩
 ·obtain ⟨y, h1, h2, h3⟩ := q3_law i c7 v
  refine ⟨_, fun k => h1 _, fun j h => ?_, fun j h => ?_⟩
  ·obtain ⟨h, h'⟩ := h
   rw [h]; exact h2 j h'
  ·generalize dg4 j = e at *
   cases e <;> first | rfl | exact h3 j fun h' => h ⟨rfl, h'⟩
theorem p1_law (i : Nat) (t : H1) (v : B) : ∃ t', (∀ {Z : Type} (k : H1 → Z), (p1 i).s t v k = k t') ∧ (∀ j, dg1 j = dg1 i → (p1 j).g t' = v) ∧ ∀ j, ¬ (dg1 j = dg1 i) → (p1 j).g t' = (p1 j).g t := by
 obtain ⟨c0, c1, c2, c3, c4, c5, c6, c7⟩ := t
 unfold p1
 generalize dg1 i = d
 cases d <;> exact ⟨_, fun k => rfl, fun j h => by rw [h], fun j h => by generalize dg1 j = e at *; cases e <;> first | rfl | exact absurd rfl h⟩
theorem p2_law (i : Nat) (t : H2) (v : B) : ∃ t', (∀ {Z : Type} (k : H2 → Z), (p2 i).s t v k = k t') ∧ (∀ j, dg2 j = dg2 i ∧ dg1 j = dg1 i → (p2 j).g t' = v) ∧ ∀ j, ¬ (dg2 j = dg2 i ∧ dg1 j = dg1 i) → (p2 j).g t' = (p2 j).g t := by
 obtain ⟨c0, c1, c2, c3, c4, c5, c6, c7⟩ := t
 unfold p2
 generalize dg2 i = d
 cases d
 ·obtain ⟨y, h1, h2, h3⟩ := p1_law i c0 v
  refine ⟨_, fun k => h1 _, fun j h => ?_, fun j h => ?_⟩
  ·obtain ⟨h, h'⟩ := h
   rw [h]; exact h2 j h'
  ·generalize dg2 j = e at *
   cases e <;> first | rfl | exact h3 j fun h' => h ⟨rfl, h'⟩
 ·obtain ⟨y, h1, h2, h3⟩ := p1_law i c1 v
  refine ⟨_, fun k => h1 _, fun j h => ?_, fun j h => ?_⟩
  ·obtain ⟨h, h'⟩ := h
   rw [h]; exact h2 j h'
  ·generalize dg2 j = e at *
   cases e <;> first | rfl | exact h3 j fun h' => h ⟨rfl, h'⟩
 ·obtain ⟨y, h1, h2, h3⟩ := p1_law i c2 v
  refine ⟨_, fun k => h1 _, fun j h => ?_, fun j h => ?_⟩
  ·obtain ⟨h, h'⟩ := h
   rw [h]; exact h2 j h'
  ·generalize dg2 j = e at *
   cases e <;> first | rfl | exact h3 j fun h' => h ⟨rfl, h'⟩
 ·obtain ⟨y, h1, h2, h3⟩ := p1_law i c3 v
  refine ⟨_, fun k => h1 _, fun j h => ?_, fun j h => ?_⟩
  ·obtain ⟨h, h'⟩ := h
   rw [h]; exact h2 j h'
  ·generalize dg2 j = e at *
   cases e <;> first | rfl | exact h3 j fun h' => h ⟨rfl, h'⟩
 ·obtain ⟨y, h1, h2, h3⟩ := p1_law i c4 v
  refine ⟨_, fun k => h1 _, fun j h => ?_, fun j h => ?_⟩
  ·obtain ⟨h, h'⟩ := h
   rw [h]; exact h2 j h'
  ·generalize dg2 j = e at *
   cases e <;> first | rfl | exact h3 j fun h' => h ⟨rfl, h'⟩
 ·obtain ⟨y, h1, h2, h3⟩ := p1_law i c5 v
  refine ⟨_, fun k => h1 _, fun j h => ?_, fun j h => ?_⟩
  ·obtain ⟨h, h'⟩ := h
   rw [h]; exact h2 j h'
  ·generalize dg2 j = e at *
   cases e <;> first | rfl | exact h3 j fun h' => h ⟨rfl, h'⟩
 ·obtain ⟨y, h1, h2, h3⟩ := p1_law i c6 v
  refine ⟨_, fun k => h1 _, fun j h => ?_, fun j h => ?_⟩
  ·obtain ⟨h, h'⟩ := h
   rw [h]; exact h2 j h'
  ·generalize dg2 j = e at *
   cases e <;> first | rfl | exact h3 j fun h' => h ⟨rfl, h'⟩
 ·obtain ⟨y, h1, h2, h3⟩ := p1_law i c7 v
  refine ⟨_, fun k => h1 _, fun j h => ?_, fun j h => ?_⟩
  ·obtain ⟨h, h'⟩ := h
   rw [h]; exact h2 j h'
  ·generalize dg2 j = e at *
   cases e <;> first | rfl | exact h3 j fun h' => h ⟨rfl, h'⟩
theorem p3_law (i : Nat) (t : H3) (v : B) : ∃ t', (∀ {Z : Type} (k : H3 → Z), (p3 i).s t v k = k t') ∧ (∀ j, dg3 j = dg3 i ∧ dg2 j = dg2 i ∧ dg1 j = dg1 i → (p3 j).g t' = v) ∧ ∀ j, ¬ (dg3 j = dg3 i ∧ dg2 j = dg2 i ∧ dg1 j = dg1 i) → (p3 j).g t' = (p3 j).g t := by
 obtain ⟨c0, c1, c2, c3, c4, c5, c6, c7⟩ := t
 unfold p3
 generalize dg3 i = d
 cases d
 ·obtain ⟨y, h1, h2, h3⟩ := p2_law i c0 v
  refine ⟨_, fun k => h1 _, fun j h => ?_, fun j h => ?_⟩
  ·obtain ⟨h, h'⟩ := h
   rw [h]; exact h2 j h'
  ·generalize dg3 j = e at *
   cases e <;> first | rfl | exact h3 j fun h' => h ⟨rfl, h'⟩
 ·obtain ⟨y, h1, h2, h3⟩ := p2_law i c1 v
  refine ⟨_, fun k => h1 _, fun j h => ?_, fun j h => ?_⟩
  ·obtain ⟨h, h'⟩ := h
   rw [h]; exact h2 j h'
  ·generalize dg3 j = e at *
   cases e <;> first | rfl | exact h3 j fun h' => h ⟨rfl, h'⟩
 ·obtain ⟨y, h1, h2, h3⟩ := p2_law i c2 v
  refine ⟨_, fun k => h1 _, fun j h => ?_, fun j h => ?_⟩
  ·obtain ⟨h, h'⟩ := h
   rw [h]; exact h2 j h'
  ·generalize dg3 j = e at *
   cases e <;> first | rfl | exact h3 j fun h' => h ⟨rfl, h'⟩
 ·obtain ⟨y, h1, h2, h3⟩ := p2_law i c3 v
  refine ⟨_, fun k => h1 _, fun j h => ?_, fun j h => ?_⟩
  ·obtain ⟨h, h'⟩ := h
   rw [h]; exact h2 j h'
  ·generalize dg3 j = e at *
   cases e <;> first | rfl | exact h3 j fun h' => h ⟨rfl, h'⟩
 ·obtain ⟨y, h1, h2, h3⟩ := p2_law i c4 v
  refine ⟨_, fun k => h1 _, fun j h => ?_, fun j h => ?_⟩
  ·obtain ⟨h, h'⟩ := h
   rw [h]; exact h2 j h'
  ·generalize dg3 j = e at *
   cases e <;> first | rfl | exact h3 j fun h' => h ⟨rfl, h'⟩
 ·obtain ⟨y, h1, h2, h3⟩ := p2_law i c5 v
  refine ⟨_, fun k => h1 _, fun j h => ?_, fun j h => ?_⟩
  ·obtain ⟨h, h'⟩ := h
   rw [h]; exact h2 j h'
  ·generalize dg3 j = e at *
   cases e <;> first | rfl | exact h3 j fun h' => h ⟨rfl, h'⟩
 ·obtain ⟨y, h1, h2, h3⟩ := p2_law i c6 v
  refine ⟨_, fun k => h1 _, fun j h => ?_, fun j h => ?_⟩
  ·obtain ⟨h, h'⟩ := h
   rw [h]; exact h2 j h'
  ·generalize dg3 j = e at *
   cases e <;> first | rfl | exact h3 j fun h' => h ⟨rfl, h'⟩
 ·obtain ⟨y, h1, h2, h3⟩ := p2_law i c7 v
  refine ⟨_, fun k => h1 _, fun j h => ?_, fun j h => ?_⟩
  ·obtain ⟨h, h'⟩ := h
   rw [h]; exact h2 j h'
  ·generalize dg3 j = e at *
   cases e <;> first | rfl | exact h3 j fun h' => h ⟨rfl, h'⟩
theorem p4_law (i : Nat) (t : H4) (v : B) : ∃ t', (∀ {Z : Type} (k : H4 → Z), (p4 i).s t v k = k t') ∧ (∀ j, dg4 j = dg4 i ∧ dg3 j = dg3 i ∧ dg2 j = dg2 i ∧ dg1 j = dg1 i → (p4 j).g t' = v) ∧ ∀ j, ¬ (dg4 j = dg4 i ∧ dg3 j = dg3 i ∧ dg2 j = dg2 i ∧ dg1 j = dg1 i) → (p4 j).g t' = (p4 j).g t := by
 obtain ⟨c0, c1, c2, c3, c4, c5, c6, c7⟩ := t
 unfold p4
 generalize dg4 i = d
 cases d
 ·obtain ⟨y, h1, h2, h3⟩ := p3_law i c0 v
  refine ⟨_, fun k => h1 _, fun j h => ?_, fun j h => ?_⟩
  ·obtain ⟨h, h'⟩ := h
   rw [h]; exact h2 j h'
  ·generalize dg4 j = e at *
   cases e <;> first | rfl | exact h3 j fun h' => h ⟨rfl, h'⟩
 ·obtain ⟨y, h1, h2, h3⟩ := p3_law i c1 v
  refine ⟨_, fun k => h1 _, fun j h => ?_, fun j h => ?_⟩
  ·obtain ⟨h, h'⟩ := h
   rw [h]; exact h2 j h'
  ·generalize dg4 j = e at *
   cases e <;> first | rfl | exact h3 j fun h' => h ⟨rfl, h'⟩
 ·obtain ⟨y, h1, h2, h3⟩ := p3_law i c2 v
  refine ⟨_, fun k => h1 _, fun j h => ?_, fun j h => ?_⟩
  ·obtain ⟨h, h'⟩ := h
   rw [h]; exact h2 j h'
  ·generalize dg4 j = e at *
   cases e <;> first | rfl | exact h3 j fun h' => h ⟨rfl, h'⟩
 ·obtain ⟨y, h1, h2, h3⟩ := p3_law i c3 v
  refine ⟨_, fun k => h1 _, fun j h => ?_, fun j h => ?_⟩
  ·obtain ⟨h, h'⟩ := h
   rw [h]; exact h2 j h'
  ·generalize dg4 j = e at *
   cases e <;> first | rfl | exact h3 j fun h' => h ⟨rfl, h'⟩
 ·obtain ⟨y, h1, h2, h3⟩ := p3_law i c4 v
  refine ⟨_, fun k => h1 _, fun j h => ?_, fun j h => ?_⟩
  ·obtain ⟨h, h'⟩ := h
   rw [h]; exact h2 j h'
  ·generalize dg4 j = e at *
   cases e <;> first | rfl | exact h3 j fun h' => h ⟨rfl, h'⟩
 ·obtain ⟨y, h1, h2, h3⟩ := p3_law i c5 v
  refine ⟨_, fun k => h1 _, fun j h => ?_, fun j h => ?_⟩
  ·obtain ⟨h, h'⟩ := h
   rw [h]; exact h2 j h'
  ·generalize dg4 j = e at *
   cases e <;> first | rfl | exact h3 j fun h' => h ⟨rfl, h'⟩
 ·obtain ⟨y, h1, h2, h3⟩ := p3_law i c6 v
  refine ⟨_, fun k => h1 _, fun j h => ?_, fun j h => ?_⟩
  ·obtain ⟨h, h'⟩ := h
   rw [h]; exact h2 j h'
  ·generalize dg4 j = e at *
   cases e <;> first | rfl | exact h3 j fun h' => h ⟨rfl, h'⟩
 ·obtain ⟨y, h1, h2, h3⟩ := p3_law i c7 v
  refine ⟨_, fun k => h1 _, fun j h => ?_, fun j h => ?_⟩
  ·obtain ⟨h, h'⟩ := h
   rw [h]; exact h2 j h'
  ·generalize dg4 j = e at *
   cases e <;> first | rfl | exact h3 j fun h' => h ⟨rfl, h'⟩
theorem p5_law (i : Nat) (t : H5) (v : B) : ∃ t', (∀ {Z : Type} (k : H5 → Z), (p5 i).s t v k = k t') ∧ (∀ j, dg5 j = dg5 i ∧ dg4 j = dg4 i ∧ dg3 j = dg3 i ∧ dg2 j = dg2 i ∧ dg1 j = dg1 i → (p5 j).g t' = v) ∧ ∀ j, ¬ (dg5 j = dg5 i ∧ dg4 j = dg4 i ∧ dg3 j = dg3 i ∧ dg2 j = dg2 i ∧ dg1 j = dg1 i) → (p5 j).g t' = (p5 j).g t := by
 obtain ⟨c0, c1, c2, c3, c4, c5, c6, c7⟩ := t
 unfold p5
 generalize dg5 i = d
 cases d
 ·obtain ⟨y, h1, h2, h3⟩ := p4_law i c0 v
  refine ⟨_, fun k => h1 _, fun j h => ?_, fun j h => ?_⟩
  ·obtain ⟨h, h'⟩ := h
   rw [h]; exact h2 j h'
  ·generalize dg5 j = e at *
   cases e <;> first | rfl | exact h3 j fun h' => h ⟨rfl, h'⟩
 ·obtain ⟨y, h1, h2, h3⟩ := p4_law i c1 v
  refine ⟨_, fun k => h1 _, fun j h => ?_, fun j h => ?_⟩
  ·obtain ⟨h, h'⟩ := h
   rw [h]; exact h2 j h'
  ·generalize dg5 j = e at *
   cases e <;> first | rfl | exact h3 j fun h' => h ⟨rfl, h'⟩
 ·obtain ⟨y, h1, h2, h3⟩ := p4_law i c2 v
  refine ⟨_, fun k => h1 _, fun j h => ?_, fun j h => ?_⟩
  ·obtain ⟨h, h'⟩ := h
   rw [h]; exact h2 j h'
  ·generalize dg5 j = e at *
   cases e <;> first | rfl | exact h3 j fun h' => h ⟨rfl, h'⟩
 ·obtain ⟨y, h1, h2, h3⟩ := p4_law i c3 v
  refine ⟨_, fun k => h1 _, fun j h => ?_, fun j h => ?_⟩
  ·obtain ⟨h, h'⟩ := h
   rw [h]; exact h2 j h'
  ·generalize dg5 j = e at *
   cases e <;> first | rfl | exact h3 j fun h' => h ⟨rfl, h'⟩
 ·obtain ⟨y, h1, h2, h3⟩ := p4_law i c4 v
  refine ⟨_, fun k => h1 _, fun j h => ?_, fun j h => ?_⟩
  ·obtain ⟨h, h'⟩ := h
   rw [h]; exact h2 j h'
  ·generalize dg5 j = e at *
   cases e <;> first | rfl | exact h3 j fun h' => h ⟨rfl, h'⟩
 ·obtain ⟨y, h1, h2, h3⟩ := p4_law i c5 v
  refine ⟨_, fun k => h1 _, fun j h => ?_, fun j h => ?_⟩
  ·obtain ⟨h, h'⟩ := h
   rw [h]; exact h2 j h'
  ·generalize dg5 j = e at *
   cases e <;> first | rfl | exact h3 j fun h' => h ⟨rfl, h'⟩
 ·obtain ⟨y, h1, h2, h3⟩ := p4_law i c6 v
  refine ⟨_, fun k => h1 _, fun j h => ?_, fun j h => ?_⟩
  ·obtain ⟨h, h'⟩ := h
   rw [h]; exact h2 j h'
  ·generalize dg5 j = e at *
   cases e <;> first | rfl | exact h3 j fun h' => h ⟨rfl, h'⟩
 ·obtain ⟨y, h1, h2, h3⟩ := p4_law i c7 v
  refine ⟨_, fun k => h1 _, fun j h => ?_, fun j h => ?_⟩
  ·obtain ⟨h, h'⟩ := h
   rw [h]; exact h2 j h'
  ·generalize dg5 j = e at *
   cases e <;> first | rfl | exact h3 j fun h' => h ⟨rfl, h'⟩
theorem q1_set {i : Nat} (t : L1) (v : AV) (hi : i < 8) : ∃ t', (∀ {Z : Type} (k : L1 → Z), (q1 i).s t v k = k t') ∧ ∀ j, j < 8 → (q1 j).g t' = if j = i then v else (q1 j).g t := by
 obtain ⟨t', h1, h2, h3⟩ := q1_law i t v
 refine ⟨t', h1, fun j hj => ?_⟩
 by_cases e : j = i
 ·subst e; rw [if_pos rfl]; exact h2 j rfl
 ·rw [if_neg e]; exact h3 j fun h => by
   have h1 := h; exact e (by have := dg1_eq h1; omega)
theorem q2_set {i : Nat} (t : L2) (v : AV) (hi : i < 64) : ∃ t', (∀ {Z : Type} (k : L2 → Z), (q2 i).s t v k = k t') ∧ ∀ j, j < 64 → (q2 j).g t' = if j = i then v else (q2 j).g t := by
 obtain ⟨t', h1, h2, h3⟩ := q2_law i t v
 refine ⟨t', h1, fun j hj => ?_⟩
 by_cases e : j = i
 ·subst e; rw [if_pos rfl]; exact h2 j ⟨rfl, rfl⟩
 ·rw [if_neg e]; exact h3 j fun h => by
   obtain ⟨h2, h1⟩ := h; exact e (by have := dg1_eq h1; have := dg2_eq h2; omega)
theorem q3_set {i : Nat} (t : L3) (v : AV) (hi : i < 512) : ∃ t', (∀ {Z : Type} (k : L3 → Z), (q3 i).s t v k = k t') ∧ ∀ j, j < 512 → (q3 j).g t' = if j = i then v else (q3 j).g t := by
 obtain ⟨t', h1, h2, h3⟩ := q3_law i t v
 refine ⟨t', h1, fun j hj => ?_⟩
 by_cases e : j = i
 ·subst e; rw [if_pos rfl]; exact h2 j ⟨rfl, rfl, rfl⟩
 ·rw [if_neg e]; exact h3 j fun h => by
   obtain ⟨h3, h2, h1⟩ := h; exact e (by have := dg1_eq h1; have := dg2_eq h2; have := dg3_eq h3; omega)
theorem q4_set {i : Nat} (t : L4) (v : AV) (hi : i < 4096) : ∃ t', (∀ {Z : Type} (k : L4 → Z), (q4 i).s t v k = k t') ∧ ∀ j, j < 4096 → (q4 j).g t' = if j = i then v else (q4 j).g t := by
 obtain ⟨t', h1, h2, h3⟩ := q4_law i t v
 refine ⟨t', h1, fun j hj => ?_⟩
 by_cases e : j = i
 ·subst e; rw [if_pos rfl]; exact h2 j ⟨rfl, rfl, rfl, rfl⟩
 ·rw [if_neg e]; exact h3 j fun h => by
   obtain ⟨h4, h3, h2, h1⟩ := h; exact e (by have := dg1_eq h1; have := dg2_eq h2; have := dg3_eq h3; have := dg4_eq h4; omega)
theorem p5_set {i : Nat} (t : H5) (v : B) (hi : i < 32768) : ∃ t', (∀ {Z : Type} (k : H5 → Z), (p5 i).s t v k = k t') ∧ ∀ j, j < 32768 → (p5 j).g t' = if j = i then v else (p5 j).g t := by
 obtain ⟨t', h1, h2, h3⟩ := p5_law i t v
 refine ⟨t', h1, fun j hj => ?_⟩
 by_cases e : j = i
 ·subst e; rw [if_pos rfl]; exact h2 j ⟨rfl, rfl, rfl, rfl, rfl⟩
 ·rw [if_neg e]; exact h3 j fun h => by
   obtain ⟨h5, h4, h3, h2, h1⟩ := h; exact e (by have := dg1_eq h1; have := dg2_eq h2; have := dg3_eq h3; have := dg4_eq h4; have := dg5_eq h5; omega)
end Go.Ev
end
section
set_option linter.unusedVariables false
set_option linter.constructorNameAsVariable false
namespace Go.Ev
open Go.Lw Go.RowKit
structure Env where
 dom : Nat → Prop
 blk : Nat → Nat
 cap : Nat → Nat
 clo : Nat → Value
 gh : Nat → Nat
structure Ext (e e' : Env) : Prop where
 dom : ∀ id, e.dom id → e'.dom id
 blk : ∀ id, e.dom id → e'.blk id = e.blk id
 cap : ∀ id, e.dom id → e'.cap id = e.cap id
 clo : ∀ id, e.dom id → e'.clo id = e.clo id
 gh : ∀ id, e.dom id → e'.gh id = e.gh id
theorem Ext.refl (e : Env) : Ext e e := ⟨fun _ h => h, fun _ _ => rfl, fun _ _ => rfl, fun _ _ => rfl, fun _ _ => rfl⟩
theorem Ext.trans {a b c : Env} (h : Ext a b) (k : Ext b c) : Ext a c :=
 ⟨fun i hi => k.dom i (h.dom i hi), fun i hi => (k.blk i (h.dom i hi)).trans (h.blk i hi), fun i hi => (k.cap i (h.dom i hi)).trans (h.cap i hi), fun i hi => (k.clo i (h.dom i hi)).trans (h.clo i hi), fun i hi => (k.gh i (h.dom i hi)).trans (h.gh i hi)⟩
def adr (e : Env) (id off : Nat) : Addr := ⟨e.blk id, off, none⟩
def DnO (e : Env) (x : So) (v : Value) : Prop := match x with
 | .u => True
 | .n => v = undef
 | .s id off len cap => e.dom id ∧ v = .slice (some (adr e id off)) len cap
 | .w id off len ct => e.dom id ∧ v = .slice (some (adr e id off)) len (e.cap id - ct) ∧ len + ct ≤ e.cap id
 | .m id => e.dom id ∧ v = .map (some (e.blk id))
 | .f id => e.dom id ∧ v = e.clo id ∧ ∃ fn a b, v = .func (.func fn) a b
 | .y id => e.dom id ∧ v = .func (.yield (e.blk id)) #[] #[]
 | .e => ∃ a cap, v = .slice a 0 cap
 | .c u => v = u ∧ u.oneCell' = true
def DnS (e : Env) (s : Sc) (v : Value) : Prop := match s with
 | .i k n => v = .int k n
 | .b b => v = .bool b
 | .p id off => e.dom id ∧ v = .pointer (some (adr e id off))
 | .o x => DnO e x v
def DnC (e : Env) (s : Sc) (v : Value) : Prop := DnS e s v ∧ v.oneCell' = true
def zH {α β : Type} (p : α → β → Prop) : List α → List β → Prop
 | [], [] => True
 | x :: l, y :: m => p x y ∧ zH p l m
 | _, _ => False
def DnT (e : Env) (s : Sc ⊕ List Sc) (v : Value) : Prop := match s with
 | .inl s => DnS e s v
 | .inr l => ∃ vs, v = .agg ⟨vs⟩ ∧ zH (DnC e) l vs
def Dn (e : Env) (a : AV) (v : Value) : Prop := match a with
 | .x s => DnS e s v
 | .a l => ∃ vs, v = .agg ⟨vs⟩ ∧ zH (DnC e) l vs
 | .t l => ∃ vs, v = .tuple ⟨vs⟩ ∧ zH (DnT e) l vs
section all2
variable {α β : Type} {p q : α → β → Prop}
theorem zH.mono (h : ∀ x y, p x y → q x y) : ∀ {l : List α} {m : List β}, zH p l m → zH q l m
 | [], [], _ => trivial
 | _ :: _, _ :: _, ⟨a, b⟩ => ⟨h _ _ a, b.mono h⟩
 | [], _ :: _, k => k.elim
 | _ :: _, [], k => k.elim
theorem zH.length : ∀ {l : List α} {m : List β}, zH p l m → l.length = m.length
 | [], [], _ => rfl
 | _ :: _, _ :: _, ⟨_, b⟩ => by simp [b.length]
 | [], _ :: _, k => k.elim
 | _ :: _, [], k => k.elim
theorem zH.at : ∀ {l : List α} {m : List β}, zH p l m → ∀ {j : Nat} {x : α} {y : β}, l[j]? = some x → m[j]? = some y → p x y
 | [], [], _, j, x, y, h, _ => by simp at h
 | _ :: _, _ :: _, ⟨a, b⟩, 0, x, y, h, k => by simp at h k; subst h; subst k; exact a
 | _ :: _, _ :: _, ⟨a, b⟩, j + 1, x, y, h, k => b.at (by simpa using h) (by simpa using k)
 | [], _ :: _, k, _, _, _, _, _ => k.elim
 | _ :: _, [], k, _, _, _, _, _ => k.elim
theorem zH.of_at : ∀ {l : List α} {m : List β}, l.length = m.length → (∀ (j : Nat) (x : α) (y : β), l[j]? = some x → m[j]? = some y → p x y) → zH p l m
 | [], [], _, _ => trivial
 | x :: l, y :: m, hl, h => ⟨h 0 x y rfl rfl, zH.of_at (by simpa using hl) fun j a b ha hb => h (j + 1) a b (by simpa using ha) (by simpa using hb)⟩
 | [], _ :: _, hl, _ => by simp at hl
 | _ :: _, [], hl, _ => by simp at hl
theorem zH.append : ∀ {l : List α} {m : List β} {l' : List α} {m' : List β}, zH p l m → zH p l' m' → zH p (l ++ l') (m ++ m')
 | [], [], _, _, _, h => h
 | _ :: _, _ :: _, _, _, ⟨a, b⟩, h => ⟨a, b.append h⟩
 | [], _ :: _, _, _, k, _ => k.elim
 | _ :: _, [], _, _, k, _ => k.elim
theorem zH.take : ∀ {l : List α} {m : List β} (n : Nat), zH p l m → zH p (l.take n) (m.take n)
 | _, _, 0, _ => by simp [zH]
 | [], [], _ + 1, _ => trivial
 | _ :: _, _ :: _, n + 1, ⟨a, b⟩ => ⟨a, b.take n⟩
 | [], _ :: _, _ + 1, k => k.elim
 | _ :: _, [], _ + 1, k => k.elim
theorem zH.drop : ∀ {l : List α} {m : List β} (n : Nat), zH p l m → zH p (l.drop n) (m.drop n)
 | _, _, 0, h => h
 | [], [], _ + 1, _ => trivial
 | _ :: _, _ :: _, n + 1, ⟨_, b⟩ => b.drop n
 | [], _ :: _, _ + 1, k => k.elim
 | _ :: _, [], _ + 1, k => k.elim
theorem zH.right : ∀ {l : List α} {m : List β} {r : β → Prop}, zH p l m → (∀ x y, p x y → r y) → ∀ y ∈ m, r y
 | [], [], _, _, _, y, hy => by cases hy
 | x :: _, z :: _, _, ⟨a, b⟩, h, y, hy => by
  rcases List.mem_cons.1 hy with rfl | hy
  ·exact h _ _ a
  ·exact b.right h y hy
 | [], _ :: _, _, k, _, _, _ => k.elim
 | _ :: _, [], _, k, _, _, _ => k.elim
end all2
section ext
variable {e e' : Env} (h : Ext e e')
include h
theorem DnO.ext {x : So} {v : Value} (k : DnO e x v) : DnO e' x v := by
 cases x with
 | u => trivial
 | n => exact k
 | s id off len cap => exact ⟨h.dom _ k.1, by rw [k.2, adr, adr, h.blk _ k.1]⟩
 | w id off len ct => exact ⟨h.dom _ k.1, by rw [k.2.1, adr, adr, h.blk _ k.1, h.cap _ k.1], by rw [h.cap _ k.1]; exact k.2.2⟩
 | m id => exact ⟨h.dom _ k.1, by rw [k.2, h.blk _ k.1]⟩
 | f id => exact ⟨h.dom _ k.1, by rw [k.2.1, h.clo _ k.1], k.2.2⟩
 | y id => exact ⟨h.dom _ k.1, by rw [k.2, h.blk _ k.1]⟩
 | e => exact k
 | c u => exact k
theorem DnS.ext {s : Sc} {v : Value} (k : DnS e s v) : DnS e' s v := by
 cases s with
 | i => exact k
 | b => exact k
 | p id off => exact ⟨h.dom _ k.1, by rw [k.2, adr, adr, h.blk _ k.1]⟩
 | o x => exact DnO.ext h k
theorem DnC.ext {s : Sc} {v : Value} (k : DnC e s v) : DnC e' s v := ⟨k.1.ext h, k.2⟩
theorem DnT.ext {s : Sc ⊕ List Sc} {v : Value} (k : DnT e s v) : DnT e' s v := by
 cases s with
 | inl s => exact DnS.ext h k
 | inr l => obtain ⟨vs, h1, h2⟩ := k; exact ⟨vs, h1, h2.mono fun _ _ => DnC.ext h⟩
theorem Dn.ext {a : AV} {v : Value} (k : Dn e a v) : Dn e' a v := by
 cases a with
 | x s => exact DnS.ext h k
 | a l => obtain ⟨vs, h1, h2⟩ := k; exact ⟨vs, h1, h2.mono fun _ _ => DnC.ext h⟩
 | t l => obtain ⟨vs, h1, h2⟩ := k; exact ⟨vs, h1, h2.mono fun _ _ => DnT.ext h⟩
/-! What was known of a value before, is known of it in the smaller frame. -/
theorem DnO.back {x : So} {u v : Value} (k : DnO e x u) (k' : DnO e' x v) : DnO e x v := by
 cases x with
 | u => trivial
 | n => exact k'
 | s id off len cap => exact ⟨k.1, by rw [k'.2, adr, adr, h.blk _ k.1]⟩
 | w id off len ct => exact ⟨k.1, by rw [k'.2.1, adr, adr, h.blk _ k.1, h.cap _ k.1], k.2.2⟩
 | m id => exact ⟨k.1, by rw [k'.2, h.blk _ k.1]⟩
 | f id => exact ⟨k.1, by rw [k'.2.1, h.clo _ k.1], k'.2.2⟩
 | y id => exact ⟨k.1, by rw [k'.2, h.blk _ k.1]⟩
 | e => exact k'
 | c u => exact k'
theorem DnS.back {s : Sc} {u v : Value} (k : DnS e s u) (k' : DnS e' s v) : DnS e s v := by
 cases s with
 | i => exact k'
 | b => exact k'
 | p id off => exact ⟨k.1, by rw [k'.2, adr, adr, h.blk _ k.1]⟩
 | o x => exact DnO.back h k k'
theorem DnC.back {s : Sc} {u v : Value} (k : DnC e s u) (k' : DnC e' s v) : DnC e s v := ⟨k.1.back h k'.1, k'.2⟩
theorem zH.backC : ∀ {l : List Sc} {us vs : List Value}, zH (DnC e) l us → zH (DnC e') l vs → zH (DnC e) l vs
 | [], [], [], _, _ => trivial
 | _ :: _, _ :: _, _ :: _, ⟨a, b⟩, ⟨a', b'⟩ => ⟨a.back h a', b.backC b'⟩
 | [], _, _ :: _, _, k => k.elim
 | [], _ :: _, _, k, _ => k.elim
 | _ :: _, [], _, k, _ => k.elim
 | _ :: _, _, [], _, k => k.elim
theorem DnT.back {s : Sc ⊕ List Sc} {u v : Value} (k : DnT e s u) (k' : DnT e' s v) : DnT e s v := by
 cases s with
 | inl s => exact DnS.back h k k'
 | inr l => obtain ⟨us, _, h2⟩ := k; obtain ⟨vs, h3, h4⟩ := k'; exact ⟨vs, h3, h2.backC h h4⟩
theorem zH.backT : ∀ {l : List (Sc ⊕ List Sc)} {us vs : List Value}, zH (DnT e) l us → zH (DnT e') l vs → zH (DnT e) l vs
 | [], [], [], _, _ => trivial
 | _ :: _, _ :: _, _ :: _, ⟨a, b⟩, ⟨a', b'⟩ => ⟨a.back h a', b.backT b'⟩
 | [], _, _ :: _, _, k => k.elim
 | [], _ :: _, _, k, _ => k.elim
 | _ :: _, [], _, k, _ => k.elim
 | _ :: _, _, [], _, k => k.elim
theorem Dn.back {a : AV} {u v : Value} (k : Dn e a u) (k' : Dn e' a v) : Dn e a v := by
 cases a with
 | x s => exact DnS.back h k k'
 | a l => obtain ⟨us, _, h2⟩ := k; obtain ⟨vs, h3, h4⟩ := k'; exact ⟨vs, h3, h2.backC h h4⟩
 | t l => obtain ⟨us, _, h2⟩ := k; obtain ⟨vs, h3, h4⟩ := k'; exact ⟨vs, h3, h2.backT h h4⟩
end ext
/-! ### Frames -/
def qJ (e : Env) (n : Nat) (Z : Nat → Prop) (τ : L3) (tmps : Array Value) : Prop := tmps.size = n ∧ n ≤ 512 ∧ ∀ t v, tmps[t]? = some v → ¬ Z t → Dn e ((q3 t).g τ) v
abbrev noZ : Nat → Prop := fun _ => False
theorem qJ.ext {e e' : Env} (h : Ext e e') {n : Nat} {Z : Nat → Prop} {τ : L3} {tmps : Array Value} (k : qJ e n Z τ tmps) : qJ e' n Z τ tmps := ⟨k.1, k.2.1, fun t v hv hz => (k.2.2 t v hv hz).ext h⟩
theorem qJ.put {e : Env} {n : Nat} {Z Z' : Nat → Prop} {τ τ' : L3} {a : Act} (k : qJ e n Z τ a.tmps) {d : Nat} (hd : d < n) {x : AV} {v : Value} (hx : Dn e x v)
  (ht : ∀ j, j < 512 → (q3 j).g τ' = if j = d then x else (q3 j).g τ) (hz : ∀ t, ¬ Z' t → t ≠ d → ¬ Z t) : qJ e n Z' τ' (a.put (some d) v).tmps := by
 obtain ⟨h1, h2, h3⟩ := k
 refine ⟨by simp [Act.put, h1], h2, fun t u hu hzt => ?_⟩
 simp only [Act.put] at hu
 have htn : t < n := by
  have := (Array.getElem?_eq_some_iff.1 hu).1
  simpa [h1] using this
 rw [ht t (by omega)]
 split
 ·rename_i e
  subst e
  rw [Array.getElem?_setIfInBounds_self] at hu
  simp [h1, htn] at hu
  subst hu; exact hx
 ·rename_i e
  rw [Array.getElem?_setIfInBounds_ne (fun e' => e e'.symm)] at hu
  exact h3 t u hu (hz t hzt e)
/-! ### Memory -/
def TOk (e : Env) (n : Nat) (t : TV) (cs : List Value) : Prop := n ≤ cs.length ∧ n ≤ kT t ∧ ∀ j, j < n → ∃ s v, cs[j]? = some v ∧ t.get j = .x s ∧ DnC e s v
theorem TOk.ext {e e' : Env} (h : Ext e e') {n : Nat} {t : TV} {cs : List Value} (k : TOk e n t cs) : TOk e' n t cs := ⟨k.1, k.2.1, fun j hj => by
 obtain ⟨s, v, h1, h2, h3⟩ := k.2.2 j hj; exact ⟨s, v, h1, h2, h3.ext h⟩⟩
def DnE (e : Env) (p : AV × AV) (en : MapEntry) : Prop := Dn e p.1 en.key ∧ Dn e p.2 en.val
theorem DnE.ext {e e' : Env} (h : Ext e e') {p : AV × AV} {en : MapEntry} (k : DnE e p en) : DnE e' p en := ⟨k.1.ext h, k.2.ext h⟩
def MOk (e : Env) (l : List (AV × AV)) (es : List MapEntry) (c : Nat) : Prop := zH (DnE e) l es ∧ (es.map (·.born)).Nodup ∧ ∀ en ∈ es, en.born < c
theorem MOk.ext {e e' : Env} (h : Ext e e') {l : List (AV × AV)} {es : List MapEntry} {c : Nat} (k : MOk e l es c) : MOk e' l es c := ⟨k.1.mono fun _ _ => DnE.ext h, k.2⟩
def exC : Ex → Code
 | .n => .skip
 | .x i => .exit i
 | .r => .ret
def qY (seen : Array Nat) (zs : List (MapEntry × Bool)) : List MapEntry := (zs.filter fun z => z.2 || !seen.contains z.1.born).map (·.1)
def remB (seen : Array Nat) (l : List (AV × AV)) (es : List MapEntry) : List (AV × AV) := ((l.zip es).filter fun z => !seen.contains z.2.born).map (·.1)
def ItAt (w : World) (b r : Nat) (es : List MapEntry) (c since : Nat) (seen : Array Nat) (c0 : Nat) : Prop := w.heap[b]? = some (.map ⟨es⟩ c) ∧ w.heap[r]? = some (.mapIter (some b) since seen c0) ∧ since ≤ c0
def Old (es : List MapEntry) (since : Nat) (seen : Array Nat) (g : Nat) : Prop := (∀ en ∈ es, en.born < since) ∧ seen.toList.Nodup ∧ (∀ b ∈ seen.toList, b ∈ es.map (·.born)) ∧ seen.size = g
def UnS (x : Nat) (es : List MapEntry) (seen : Array Nat) : Prop := ∀ i en, x = i + 1 → es[i]? = some en → seen.contains en.born = false
def OOk (e : Env) (h : H) (w : World) (id : Nat) (b : BO) : Prop := match b with
 | .m l => ∃ es c, w.heap[e.blk id]? = some (.map ⟨es⟩ c) ∧ MOk e l es c
 | .h => True
 | .g key gone L => ∃ (l : List (AV × AV)) (es : List MapEntry) (c : Nat), w.heap[e.blk id]? = some (.map ⟨es⟩ c) ∧ MOk e l es c ∧ dstK l = true ∧ (l.Sublist (L.map (·.1)) ∧ ∃ es0, zH (DnE e) (L.map (·.1)) es0) ∧ (gone = false → ∃ (i : Nat) (p : AV × AV), l[i]? = some p ∧ p.1 = key)
 | .f fn fs cs => ∃ us vs, e.clo id = .func (.func fn) ⟨us⟩ ⟨vs⟩ ∧ zH (Dn e) fs us ∧ zH (Dn e) cs vs
 | .l ps a b t => ∃ r : Loop, w.heap[e.blk id]? = some (.loop { r with state := .ready, pending := none }) ∧ r.params.toList = ps ∧ r.assign = a ∧ r.body = b ∧ qJ e r.tmps.size noZ t r.tmps ∧ (∀ p ∈ ps, p < r.tmps.size) ∧ okC r.tmps.size a = true ∧ okC r.tmps.size b = true ∧ r.tmps.size = e.gh id
 | .d ex => ∃ r : Loop, w.heap[e.blk id]? = some (.loop { r with state := .done, pending := some (exC ex) })
 | .i m l => e.dom m ∧ hget h m = .o .h ∧ ∃ (es : List MapEntry) (c : Nat), ItAt w (e.blk m) (e.blk id) es c c #[] c ∧ MOk e l es c
 | .b _ _ _ => False
 | .c m k v l rem => e.dom m ∧ hget h m = .o .h ∧ ∃ (es : List MapEntry) (c since : Nat) (seen : Array Nat) (en : MapEntry), ItAt w (e.blk m) (e.blk id) es c since (seen.push en.born) c ∧ MOk e l es c ∧ (∀ en ∈ es, en.born < since) ∧ rem = remB (seen.push en.born) l es ∧ en ∈ es ∧ DnE e (k, v) en
 | .j m l x => e.dom m ∧ hget h m = .o .h ∧ ∃ (es : List MapEntry) (c since : Nat) (seen : Array Nat), ItAt w (e.blk m) (e.blk id) (qY seen (es.zip (l.map (·.2)))) c since seen c ∧ MOk e (l.map (·.1)) es c ∧ Old es since seen (e.gh id) ∧ dstK (l.map (·.1)) = true ∧ UnS x es seen
 | .k m key v l keep x cur => e.dom m ∧ ∃ gone L, hget h m = .o (.g key gone L) ∧ ∃ (es : List MapEntry) (c since : Nat) (seen : Array Nat) (j : Nat) (en : MapEntry), es[j]? = some en ∧ l[j]? = some ((key, v), keep) ∧
   ItAt w (e.blk m) (e.blk id) (qY (seen.push en.born) (es.zip ((l.map (·.2)).set j (!gone)))) c since (seen.push en.born) c ∧ MOk e (l.map (·.1)) es c ∧ Old es since (seen.push en.born) (e.gh id + 1) ∧ dstK (l.map (·.1)) = true ∧ (cur = false → UnS x es (seen.push en.born))
 | .q _ _ _ => False
 | .z => True
 | .t => e.gh id = 0 → w.heap[e.blk id]? = some (.deferred (some []))
 | .v bz ps a b t => ∃ r : Loop, w.heap[e.blk id]? = some (.loop { r with state := if bz then .busy else .ready, pending := none }) ∧ r.params.toList = ps ∧ r.assign = a ∧ r.body = b ∧ qJ e r.tmps.size noZ t r.tmps ∧ (∀ p ∈ ps, p < r.tmps.size) ∧ okC r.tmps.size a = true ∧ okC r.tmps.size b = true ∧ r.tmps.size = e.gh id
def BOk (e : Env) (h : H) (w : World) (id : Nat) (b : B) : Prop := match b with
 | .x => True
 | .c E n t => ∃ cs, w.heap[e.blk id]? = some (LC cs E) ∧ cs.length = n ∧ TOk e n t cs
 | .r E n t => ∃ cs z, w.heap[e.blk id]? = some (LC cs E) ∧ TOk e n t cs ∧ tkB Pr E = some z ∧ cs.length = e.cap id * z.2 ∧ e.cap id ≤ maxLen
 | .o b => OOk e h w id b
def inB (b : B) : Prop := match b with
 | .x => False
 | .o (.f ..) => False
 | _ => True
def refM (b : B) : Option Nat := match b with
 | .o (.i m _) => some m
 | .o (.b m _ _) => some m
 | .o (.c m _ _ _ _) => some m
 | .o (.j m _ _) => some m
 | .o (.k m _ _ _ _ _ _) => some m
 | _ => none
structure zA (w0 : World) (e : Env) (h : H) (w : World) : Prop where
 below : Below w0.heap.size w0 w
 top : h.nxt ≤ 32768
 lt : ∀ id, e.dom id → id < h.nxt
 ok : ∀ id, e.dom id → BOk e h w id (hget h id)
 low : ∀ id, e.dom id → inB (hget h id) → w0.heap.size ≤ e.blk id ∧ e.blk id < w.heap.size
 inj : ∀ i j, e.dom i → e.dom j → inB (hget h i) → inB (hget h j) → e.blk i = e.blk j → i = j
 none : ∀ id, id < 32768 → h.nxt ≤ id → hget h id = .x
 uniq : ∀ i j m, e.dom i → e.dom j → refM (hget h i) = some m → refM (hget h j) = some m → i = j
def H.act (h : H) (id : Nat) : Prop := h.ac.1 = id + 1 ∨ h.ac.2 = id + 1
def fixB (b : B) : Prop := match b with
 | .o .t => True
 | .o (.v ..) => True
 | _ => False
def jkB (m : Nat) (l : List ((AV × AV) × Bool)) (x : Nat) (b : B) : Prop := b = .o .z ∨ b = .o (.j m l x) ∨ ∃ key v keep cur, b = .o (.k m key v l keep x cur)
def jO (b b' : B) : Prop := match b with
 | .o .t => b' = b
 | .o (.v ..) => b' = b
 | .o (.j m l x) => jkB m l x b'
 | .o (.k m _ _ l _ x _) => jkB m l x b'
 | .o .z => b' = .o .z
 | _ => True
theorem jO.refl (b : B) : jO b b := by
 cases b with
 | o b => cases b <;> first | trivial | rfl | exact .inr (.inl rfl) | exact .inr (.inr ⟨_, _, _, _, rfl⟩)
 | _ => trivial
theorem jkB.trans {m x : Nat} {l : List ((AV × AV) × Bool)} {b c : B} (h : jkB m l x b) (k : jO b c) : jkB m l x c := by
 rcases h with rfl | rfl | ⟨y1, y2, y3, y4, rfl⟩
 ·exact .inl k
 ·exact k
 ·exact k
theorem jO.trans {a b c : B} (h : jO a b) (k : jO b c) : jO a c := by
 cases a with
 | o q =>
  cases q with
  | t => have h' : b = .o .t := h; subst h'; exact k
  | v bz ps x y t => have h' : b = .o (.v bz ps x y t) := h; subst h'; exact k
  | z => have h' : b = .o .z := h; subst h'; exact k
  | j m l x => exact jkB.trans h k
  | k m key v l keep x cur => exact jkB.trans h k
  | _ => trivial
 | _ => trivial
structure Fr (e : Env) (h : H) (e' : Env) (h' : H) : Prop where
 ext : Ext e e'
 nxt : h.nxt ≤ h'.nxt
 lo : h'.lo ≤ h.lo
 ac : h'.ac = h.ac
 new : ∀ id, e'.dom id → e.dom id ∨ h.nxt ≤ id
 out : ∀ id, id < h.nxt → ¬ e.dom id → hget h' id = hget h id
 prot : ∀ id, id < h.nxt → id < h'.lo → ¬ h.act id → hget h' id = hget h id
 kp : ∀ id, id < h.nxt → jO (hget h id) (hget h' id)
theorem Fr.refl (e : Env) (h : H) : Fr e h e h := ⟨.refl e, Nat.le_refl _, Nat.le_refl _, rfl, fun _ h => .inl h, fun _ _ _ => rfl, fun _ _ _ _ => rfl, fun _ _ => .refl _⟩
theorem Fr.trans {e e' e'' : Env} {h h' h'' : H} (a : Fr e h e' h') (b : Fr e' h' e'' h'') : Fr e h e'' h'' := by
 refine ⟨a.ext.trans b.ext, Nat.le_trans a.nxt b.nxt, Nat.le_trans b.lo a.lo, b.ac.trans a.ac, fun id hi => ?_, fun id hi hd => ?_, fun id hn hi hr => ?_, fun id hn => (a.kp id hn).trans (b.kp id (Nat.lt_of_lt_of_le hn a.nxt))⟩
 ·rcases b.new id hi with h1 | h1
  ·exact a.new id h1
  ·exact .inr (Nat.le_trans a.nxt h1)
 ·have hd' : ¬ e'.dom id := fun k => by
   rcases a.new id k with h1 | h1
   ·exact hd h1
   ·omega
  rw [b.out id (Nat.lt_of_lt_of_le hi a.nxt) hd', a.out id hi hd]
 ·rw [b.prot id (Nat.lt_of_lt_of_le hn a.nxt) hi (by unfold H.act at hr ⊢; rw [a.ac]; exact hr), a.prot id hn (Nat.lt_of_lt_of_le hi b.lo) hr]
theorem jO.fix {b c : B} (h : jO b c) (k : fixB b) : c = b := by
 cases b with
 | o q => cases q <;> first | exact k.elim | exact h
 | _ => exact k.elim
theorem Fr.mark {e e' : Env} {h h' : H} (F : Fr e h e' h') : ∀ id, id < h.nxt → fixB (hget h id) → hget h' id = hget h id := fun id hn hf => (F.kp id hn).fix hf
end Go.Ev
end
