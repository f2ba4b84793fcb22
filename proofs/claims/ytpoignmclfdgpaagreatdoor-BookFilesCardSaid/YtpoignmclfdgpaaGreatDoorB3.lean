/- Texts that the last one of this claim imports. -/
import Derived.Test.YtpoignmclfdgpaaGreatDoorB2
set_option linter.unusedVariables false
set_option linter.unusedSimpArgs false
set_option linter.unusedSectionVars false
set_option linter.unusedVariables false
namespace Go.Proofs.YtpoignmclfdgpaaGreatDoor
open Go.Lw Go.Gl Go.Bk Go.RowKit
theorem ints_f (l m : List Int) (V : View) (v u : Value) (hs : SlI V v l) (hu : SlI V u m) : Fnc Tryz.prog 29 [v, u] V fun r _ => r = .bool (decide (l = m)) := by
 have hlen := hs.jA
 obtain ⟨a, c, rfl, k1, k2, _⟩ := id hs
 obtain ⟨a', c', rfl, k3, k4, _⟩ := id hu
 clear k1 k2 k3 k4
 refine ql Tryz.func29 rfl Tryz.ntmps29 (Nat.le_of_ble_eq_true rfl) ?_
 intro w0 hw0
 refine At.nrm ?_
 refine At.zi (.q 0 .done) ?_
 refine AtT.zg ?_
 refine AtT.done ?_
 refine At.nrm ?_
 refine At.zi (.q 0 (.q 1 (.q 2 (.q 3 (.q 4 .done))))) ?_
 refine AtT.zf ?_
 first | refine AtT.zR Tryz.underlying37 ?_ | refine AtT.zQ Tryz.underlying37 ?_
 refine AtT.zf ?_
 first | refine AtT.zR Tryz.underlying37 ?_ | refine AtT.zQ Tryz.underlying37 ?_
 refine AtT.qE ?_
 refine AtT.done ?_
 refine At.nrm ?_
 refine At.qb rfl (fun hb => ?_) (fun hb => ?_)
 ·refine At.nrm ?_
  refine At.zi (.q 0 .done) ?_
  refine AtT.zg ?_
  refine AtT.done ?_
  refine At.nrm ?_
  refine At.qh rfl (.tmp rfl) ?_
  rw [decide_eq_false]
  rintro rfl
  exact hb rfl
 have hlm : l.length = m.length := by omega
 refine At.nrm ?_
 refine At.zi (.q 0 .done) ?_
 refine AtT.zg ?_
 refine AtT.done ?_
 refine At.nrm ?_
 refine At.lp (ι := Nat) (KS := fun k => [(0, .slice a l.length c), (1, .slice a' m.length c'), (5, iv k)]) (OS := fun _ => []) (VS := fun k V' => V' = V ∧ k ≤ l.length ∧ ∀ j, j < k → l[j]? = m[j]?) (μ := fun k => l.length - k) 0 ?_ ?_ ?_ ?_
 ·exact ⟨rfl, rfl, rfl, trivial⟩
 ·exact Pt.zI
 ·exact ⟨rfl, Nat.zero_le _, fun j hj => absurd hj (Nat.not_lt_zero j)⟩
 ·rintro k V' ks' O' ⟨rfl, hkl, hok⟩ hk hO hl2
  subst hk hO
  refine At.nrm ?_
  refine At.zi (.q 0 (.q 1 (.q 2 (.q 3 .done)))) ?_
  refine AtT.zf ?_
  refine AtT.zf ?_
  first | refine AtT.zR Tryz.underlying37 ?_ | refine AtT.zQ Tryz.underlying37 ?_
  refine AtT.qp ?_
  refine AtT.done ?_
  refine At.nrm ?_
  refine At.qb rfl (fun hp => ?_) (fun hp => ?_)
  ·obtain ⟨x, hx⟩ : ∃ x, l[k]? = some x := ⟨_, List.getElem?_eq_getElem (by omega)⟩
   obtain ⟨y, hy⟩ : ∃ y, m[k]? = some y := ⟨_, List.getElem?_eq_getElem (by omega)⟩
   refine At.nrm ?_
   refine At.draw (.q 0 (.q 1 (.q 2 (.q 3 (.q 4 (.q 5 (.q 6 (.q 7 (.q 8 .done))))))))) ffm (by kernel_rfl) ?_
   refine AtT.zf ?_
   refine AtT.zf ?_
   refine AtT.qm Tryz.underlying37 tk3 ?_
   intro p19 e19 he19 hc19
   obtain rfl : e19 = x := by have : l[k]? = some e19 := (by simpa using he19); rw [hx] at this; simpa using this.symm
   first | refine AtT.zm tk3 ?_ | refine AtT.zo tk3 ?_
   refine AtT.zf ?_
   refine AtT.zf ?_
   refine AtT.qm Tryz.underlying37 tk3 ?_
   intro p23 e23 he23 hc23
   obtain rfl : e23 = y := by have : m[k]? = some e23 := (by simpa using he23); rw [hy] at this; simpa using this.symm
   first | refine AtT.zm tk3 ?_ | refine AtT.zo tk3 ?_
   refine AtT.qE ?_
   refine AtT.done ?_
   refine At.nrm ?_
   refine At.qb rfl (fun hc => ?_) (fun hc => ?_)
   ·refine At.nrm ?_
    refine At.zi (.q 0 .done) ?_
    refine AtT.zg ?_
    refine AtT.done ?_
    refine At.nrm ?_
    refine At.qh rfl (.tmp rfl) ?_
    rw [decide_eq_false]
    rintro rfl
    rw [hx] at hy
    cases hy
    exact hc rfl
   ·have hxy : l[k]? = m[k]? := by rw [hx, hy, Decidable.not_not.1 hc]
    refine At.nrm ?_
    refine At.zi (.q 0 (.q 1 (.q 2 .done))) ?_
    refine AtT.zf ?_
    first | refine AtT.qG ?_ | refine AtT.qd ?_
    refine AtT.zg ?_
    refine AtT.done ?_
    refine At.nrm ?_
    refine At.round (k + 1) ?_ ?_ ?_ ?_
    ·show l.length - (k + 1) < l.length - k; omega
    ·refine ⟨rfl, by omega, fun j hj => ?_⟩
     by_cases hjk : j = k
     ·subst hjk; exact hxy
     ·exact hok j (by omega)
    ·exact ⟨rfl, rfl, ivs (by omega), trivial⟩
    ·exact Pt.zI
  ·obtain rfl : k = l.length := by omega
   have hlm2 : l = m := List.ext_getElem? fun j => by
    by_cases hj : j < l.length
    ·exact hok j hj
    ·rw [List.getElem?_eq_none (by omega), List.getElem?_eq_none (by omega)]
   refine At.nrm ?_
   refine At.zi (.q 0 .done) ?_
   refine AtT.zg ?_
   refine AtT.done ?_
   refine At.nrm ?_
   exact At.qh rfl (.tmp rfl) (by rw [decide_eq_true hlm2])
theorem longs_f (l m : List Int) (V : View) (v u : Value) (hs : SlI V v l) (hu : SlI V u m) : Fnc Tryz.prog 22 [v, u] V fun r _ => r = .bool (decide (l = m)) := by
 have hlen := hs.jA
 obtain ⟨a, c, rfl, k1, k2, _⟩ := id hs
 obtain ⟨a', c', rfl, k3, k4, _⟩ := id hu
 clear k1 k2 k3 k4
 refine ql Tryz.func22 rfl Tryz.ntmps22 (Nat.le_of_ble_eq_true rfl) ?_
 intro w0 hw0
 refine At.nrm ?_
 refine At.zi (.q 0 .done) ?_
 refine AtT.zg ?_
 refine AtT.done ?_
 refine At.nrm ?_
 refine At.zi (.q 0 (.q 1 (.q 2 (.q 3 (.q 4 .done))))) ?_
 refine AtT.zf ?_
 first | refine AtT.zR Tryz.underlying28 ?_ | refine AtT.zQ Tryz.underlying28 ?_
 refine AtT.zf ?_
 first | refine AtT.zR Tryz.underlying28 ?_ | refine AtT.zQ Tryz.underlying28 ?_
 refine AtT.qE ?_
 refine AtT.done ?_
 refine At.nrm ?_
 refine At.qb rfl (fun hb => ?_) (fun hb => ?_)
 ·refine At.nrm ?_
  refine At.zi (.q 0 .done) ?_
  refine AtT.zg ?_
  refine AtT.done ?_
  refine At.nrm ?_
  refine At.qh rfl (.tmp rfl) ?_
  rw [decide_eq_false]
  rintro rfl
  exact hb rfl
 have hlm : l.length = m.length := by omega
 refine At.nrm ?_
 refine At.zi (.q 0 .done) ?_
 refine AtT.zg ?_
 refine AtT.done ?_
 refine At.nrm ?_
 refine At.lp (ι := Nat) (KS := fun k => [(0, .slice a l.length c), (1, .slice a' m.length c'), (5, iv k)]) (OS := fun _ => []) (VS := fun k V' => V' = V ∧ k ≤ l.length ∧ ∀ j, j < k → l[j]? = m[j]?) (μ := fun k => l.length - k) 0 ?_ ?_ ?_ ?_
 ·exact ⟨rfl, rfl, rfl, trivial⟩
 ·exact Pt.zI
 ·exact ⟨rfl, Nat.zero_le _, fun j hj => absurd hj (Nat.not_lt_zero j)⟩
 ·rintro k V' ks' O' ⟨rfl, hkl, hok⟩ hk hO hl2
  subst hk hO
  refine At.nrm ?_
  refine At.zi (.q 0 (.q 1 (.q 2 (.q 3 .done)))) ?_
  refine AtT.zf ?_
  refine AtT.zf ?_
  first | refine AtT.zR Tryz.underlying28 ?_ | refine AtT.zQ Tryz.underlying28 ?_
  refine AtT.qp ?_
  refine AtT.done ?_
  refine At.nrm ?_
  refine At.qb rfl (fun hp => ?_) (fun hp => ?_)
  ·obtain ⟨x, hx⟩ : ∃ x, l[k]? = some x := ⟨_, List.getElem?_eq_getElem (by omega)⟩
   obtain ⟨y, hy⟩ : ∃ y, m[k]? = some y := ⟨_, List.getElem?_eq_getElem (by omega)⟩
   refine At.nrm ?_
   refine At.draw (.q 0 (.q 1 (.q 2 (.q 3 (.q 4 (.q 5 (.q 6 (.q 7 (.q 8 .done))))))))) ffm (by kernel_rfl) ?_
   refine AtT.zf ?_
   refine AtT.zf ?_
   refine AtT.qm Tryz.underlying28 tk2 ?_
   intro p19 e19 he19 hc19
   obtain rfl : e19 = x := by have : l[k]? = some e19 := (by simpa using he19); rw [hx] at this; simpa using this.symm
   first | refine AtT.zm tk2 ?_ | refine AtT.zo tk2 ?_
   refine AtT.zf ?_
   refine AtT.zf ?_
   refine AtT.qm Tryz.underlying28 tk2 ?_
   intro p23 e23 he23 hc23
   obtain rfl : e23 = y := by have : m[k]? = some e23 := (by simpa using he23); rw [hy] at this; simpa using this.symm
   first | refine AtT.zm tk2 ?_ | refine AtT.zo tk2 ?_
   refine AtT.qE ?_
   refine AtT.done ?_
   refine At.nrm ?_
   refine At.qb rfl (fun hc => ?_) (fun hc => ?_)
   ·refine At.nrm ?_
    refine At.zi (.q 0 .done) ?_
    refine AtT.zg ?_
    refine AtT.done ?_
    refine At.nrm ?_
    refine At.qh rfl (.tmp rfl) ?_
    rw [decide_eq_false]
    rintro rfl
    rw [hx] at hy
    cases hy
    exact hc rfl
   ·have hxy : l[k]? = m[k]? := by rw [hx, hy, Decidable.not_not.1 hc]
    refine At.nrm ?_
    refine At.zi (.q 0 (.q 1 (.q 2 .done))) ?_
    refine AtT.zf ?_
    first | refine AtT.qG ?_ | refine AtT.qd ?_
    refine AtT.zg ?_
    refine AtT.done ?_
    refine At.nrm ?_
    refine At.round (k + 1) ?_ ?_ ?_ ?_
    ·show l.length - (k + 1) < l.length - k; omega
    ·refine ⟨rfl, by omega, fun j hj => ?_⟩
     by_cases hjk : j = k
     ·subst hjk; exact hxy
     ·exact hok j (by omega)
    ·exact ⟨rfl, rfl, ivs (by omega), trivial⟩
    ·exact Pt.zI
  ·obtain rfl : k = l.length := by omega
   have hlm2 : l = m := List.ext_getElem? fun j => by
    by_cases hj : j < l.length
    ·exact hok j hj
    ·rw [List.getElem?_eq_none (by omega), List.getElem?_eq_none (by omega)]
   refine At.nrm ?_
   refine At.zi (.q 0 .done) ?_
   refine AtT.zg ?_
   refine AtT.done ?_
   refine At.nrm ?_
   exact At.qh rfl (.tmp rfl) (by rw [decide_eq_true hlm2])
theorem great_f (b : Bo) (V : View) (v : Value) (hv : BoV V v b) : Fnc Tryz.prog 16 [v] V fun r _ => r = .bool (grB b) := by
 obtain ⟨v1, a, c, rfl, hr, he⟩ := hv
 obtain ⟨qs, aq, cq, hqr, rfl, hsq, hq⟩ := hr
 have hlen := hsq.jA
 have hlen2 := he.jA
 have hql : qs.length = b.rs.length := by rw [← hqr, List.length_map]
 refine ql Tryz.func16 rfl Tryz.ntmps16 (Nat.le_of_ble_eq_true rfl) ?_
 intro w0 hw0
 refine At.nrm ?_
 refine At.zi (.n false 0 (.q 1 .done)) ?_
 refine AtT.jE ?_
 intro b1
 refine AtT.zg ?_
 refine AtT.done ?_
 refine At.nrm ?_
 by_cases h1 : 12 < b.rs.length
 ·refine At.zi (.q 0 (.q 1 (.q 2 (.q 3 (.q 4 (.q 5 (.q 6 (.q 7 (.q 8 (.q 9 .done)))))))))) ?_
  first | refine AtT.zk zC ?_ | with_reducible refine AtT.zl zC ?_ | refine AtT.zn zC ?_
  first | refine AtT.zm qz ?_ | refine AtT.zo qz ?_
  first | refine AtT.zR Tryz.underlying22 ?_ | refine AtT.zQ Tryz.underlying22 ?_
  refine AtT.qI ?_
  refine AtT.qa (d := 8) rfl ((by omega)) ?_
  refine AtT.zf ?_
  all_goals (first | refine AtT.kL 9 ?_ | refine AtT.zw (d := 9) rfl (fun hg9 => ?_) (fun hg9 => ?_) | refine AtT.zu (d := 9) rfl (fun hg9 => ?_) (fun hg9 => ?_))
  all_goals first|refine AtT.zh ?_|refine AtT.ze ?_|(first | refine AtT.zk zz ?_ | with_reducible refine AtT.zl zz ?_ | refine AtT.zn zz ?_)
  all_goals first|refine AtT.zh ?_|refine AtT.ze ?_|(first | refine AtT.zm qo ?_ | refine AtT.zo qo ?_)
  all_goals first|refine AtT.zh ?_|refine AtT.ze ?_|(first | refine AtT.zR Tryz.underlying24 ?_ | refine AtT.zQ Tryz.underlying24 ?_)
  all_goals first|refine AtT.zh ?_|refine AtT.ze ?_|(refine AtT.qI ?_)
  all_goals (refine AtT.zx ?_)
  all_goals refine AtT.done ?_
  all_goals (refine At.nrm ?_)
  refine At.zU rfl rfl ?_
  refine At.nrm ?_
  refine At.zi (.q 0 .done) ?_
  refine AtT.zg ?_
  refine AtT.done ?_
  refine At.nrm ?_
  exact At.qh rfl (.tmp rfl) (by unfold grB grL; rw [decide_eq_true h1]; rfl)
 by_cases h2 : 30 < b.es.length
 ·refine At.zi (.q 0 (.q 1 (.q 2 (.q 3 (.q 4 (.q 5 (.q 6 (.q 7 (.q 8 (.q 9 .done)))))))))) ?_
  first | refine AtT.zk zC ?_ | with_reducible refine AtT.zl zC ?_ | refine AtT.zn zC ?_
  first | refine AtT.zm qz ?_ | refine AtT.zo qz ?_
  first | refine AtT.zR Tryz.underlying22 ?_ | refine AtT.zQ Tryz.underlying22 ?_
  refine AtT.qI ?_
  refine AtT.zS (d := 8) rfl ((by omega)) ?_
  refine AtT.zf ?_
  all_goals (first | refine AtT.kL 9 ?_ | refine AtT.zw (d := 9) rfl (fun hg9 => ?_) (fun hg9 => ?_) | refine AtT.zu (d := 9) rfl (fun hg9 => ?_) (fun hg9 => ?_))
  all_goals first|refine AtT.zh ?_|refine AtT.ze ?_|(first | refine AtT.zk zz ?_ | with_reducible refine AtT.zl zz ?_ | refine AtT.zn zz ?_)
  all_goals first|refine AtT.zh ?_|refine AtT.ze ?_|(first | refine AtT.zm qo ?_ | refine AtT.zo qo ?_)
  all_goals first|refine AtT.zh ?_|refine AtT.ze ?_|(first | refine AtT.zR Tryz.underlying24 ?_ | refine AtT.zQ Tryz.underlying24 ?_)
  all_goals first|refine AtT.zh ?_|refine AtT.ze ?_|(refine AtT.qI ?_)
  all_goals (refine AtT.qa (d := 13) rfl ((by omega)) ?_)
  all_goals (refine AtT.zx ?_)
  all_goals refine AtT.done ?_
  all_goals (refine At.nrm ?_)
  refine At.zU rfl rfl ?_
  refine At.nrm ?_
  refine At.zi (.q 0 .done) ?_
  refine AtT.zg ?_
  refine AtT.done ?_
  refine At.nrm ?_
  exact At.qh rfl (.tmp rfl) (by unfold grB grL; rw [decide_eq_true h2]; simp)
 refine At.zi (.q 0 (.q 1 (.q 2 (.q 3 (.q 4 (.q 5 (.q 6 (.q 7 (.q 8 (.q 9 .done)))))))))) ?_
 first | refine AtT.zk zC ?_ | with_reducible refine AtT.zl zC ?_ | refine AtT.zn zC ?_
 first | refine AtT.zm qz ?_ | refine AtT.zo qz ?_
 first | refine AtT.zR Tryz.underlying22 ?_ | refine AtT.zQ Tryz.underlying22 ?_
 refine AtT.qI ?_
 refine AtT.zS (d := 8) rfl ((by omega)) ?_
 refine AtT.zf ?_
 all_goals (first | refine AtT.kL 9 ?_ | refine AtT.zw (d := 9) rfl (fun hg9 => ?_) (fun hg9 => ?_) | refine AtT.zu (d := 9) rfl (fun hg9 => ?_) (fun hg9 => ?_))
 all_goals first|refine AtT.zh ?_|refine AtT.ze ?_|(first | refine AtT.zk zz ?_ | with_reducible refine AtT.zl zz ?_ | refine AtT.zn zz ?_)
 all_goals first|refine AtT.zh ?_|refine AtT.ze ?_|(first | refine AtT.zm qo ?_ | refine AtT.zo qo ?_)
 all_goals first|refine AtT.zh ?_|refine AtT.ze ?_|(first | refine AtT.zR Tryz.underlying24 ?_ | refine AtT.zQ Tryz.underlying24 ?_)
 all_goals first|refine AtT.zh ?_|refine AtT.ze ?_|(refine AtT.qI ?_)
 all_goals (refine AtT.zS (d := 13) rfl ((by omega)) ?_)
 all_goals (refine AtT.zx ?_)
 all_goals refine AtT.done ?_
 all_goals (refine At.nrm ?_)
 refine At.zX rfl rfl ?_
 refine At.nrm ?_
 refine At.zi (.q 0 .done) ?_
 refine AtT.zg ?_
 refine AtT.done ?_
 refine At.nrm ?_
 refine At.zi (.q 0 .done) ?_
 refine AtT.zg ?_
 refine AtT.done ?_
 refine At.nrm ?_
 refine At.lp (ι := Nat) (KS := fun k => [(1, .pointer (some ⟨b1, 0, none⟩)), (3, iv (mxP (b.rs.take k))), (4, iv k)]) (OS := fun _ => [.blk b1 (LC [.slice aq qs.length cq, .slice a b.es.length c] 26)]) (VS := fun k V' => V' = V ∧ k ≤ qs.length) (μ := fun k => qs.length - k) 0 ?_ ?_ ?_ ?_
 ·exact ⟨rfl, rfl, rfl, trivial⟩
 ·exact Pt.zI
 ·exact ⟨rfl, Nat.zero_le _⟩
 rintro k V' ks' O' ⟨rfl, hkl⟩ hk hO hl2
 subst hk hO
 refine At.nrm ?_
 refine At.zi (.q 0 (.q 1 (.q 2 (.q 3 (.q 4 .done))))) ?_
 refine AtT.zf ?_
 first | refine AtT.zk zC ?_ | with_reducible refine AtT.zl zC ?_ | refine AtT.zn zC ?_
 first | refine AtT.zm qz ?_ | refine AtT.zo qz ?_
 first | refine AtT.zR Tryz.underlying22 ?_ | refine AtT.zQ Tryz.underlying22 ?_
 refine AtT.qp ?_
 refine AtT.done ?_
 refine At.nrm ?_
 refine At.qb rfl (fun hp => ?_) (fun hp => ?_)
 ·obtain ⟨x, hx⟩ : ∃ x, qs[k]? = some x := ⟨_, List.getElem?_eq_getElem (by omega)⟩
  refine At.nrm ?_
  refine At.zi (.q 0 (.q 1 (.q 2 (.q 3 (.q 4 (.q 5 (.q 6 (.q 7 (.q 8 (.q 9 .done)))))))))) ?_
  refine AtT.zf ?_
  first | refine AtT.zk zC ?_ | with_reducible refine AtT.zl zC ?_ | refine AtT.zn zC ?_
  first | refine AtT.zm qz ?_ | refine AtT.zo qz ?_
  refine AtT.zf ?_
  refine AtT.qm Tryz.underlying22 qO ?_
  intro p26 e26 he26 hc26
  obtain rfl : x = e26 := by have : qs[k]? = some e26 := (by simpa using he26); rw [hx] at this; simpa using this
  first | refine AtT.zk zK ?_ | with_reducible refine AtT.zl zK ?_ | refine AtT.zn zK ?_
  first | refine AtT.zm qM ?_ | refine AtT.zo qM ?_
  first | refine AtT.zR Tryz.underlying66 ?_ | refine AtT.zQ Tryz.underlying66 ?_
  refine AtT.kmax2 ?_
  refine AtT.zg ?_
  refine AtT.done ?_
  refine At.nrm ?_
  have hbx : b.rs[k]? = some x.1 := by rw [← hqr]; exact qs_at hx
  have htk : b.rs.take (k + 1) = b.rs.take k ++ [x.1] := by
   rw [List.take_succ_eq_append_getElem (by omega)]; congr 1; rw [List.getElem?_eq_getElem (by omega)] at hbx; simpa using hbx
  refine At.nrm ?_
  refine At.zi (.q 0 (.q 1 (.q 2 .done))) ?_
  refine AtT.zf ?_
  first | refine AtT.qG ?_ | refine AtT.qd ?_
  refine AtT.zg ?_
  refine AtT.done ?_
  refine At.nrm ?_
  refine At.round (k + 1) ?_ ?_ ?_ ?_
  ·show qs.length - (k + 1) < qs.length - k; omega
  ·exact ⟨rfl, by omega⟩
  ·rw [htk, mxP_snoc]; exact ⟨rfl, rfl, ivs (by omega), trivial⟩
  ·exact Pt.zI
 obtain rfl : k = qs.length := by omega
 refine At.nrm ?_
 refine At.zi (.q 0 (.q 1 (.q 2 .done))) ?_
 refine AtT.zf ?_
 refine AtT.qI ?_
 refine AtT.zg ?_
 refine AtT.done ?_
 refine At.nrm ?_
 refine At.qh rfl (.tmp rfl) ?_
 rw [hql, List.take_length]
 unfold grB
 rw [grL_eq h1 h2]
theorem partsOf_f (rs : List Rc) (g : Int) (V : View) (v : Value) (hv : RsV V v rs) : Fnc Tryz.prog 48 [v, iv g] V fun r _ => ∃ a c, r = .slice a (partsOf rs g).length c ∧ Sl V pte 2 (.slice a (partsOf rs g).length c) (partsOf rs g) := by
 obtain ⟨qs, aq, cq, hqr, rfl, hsq, hq⟩ := hv
 have hlen := hsq.jA
 have hql : qs.length = rs.length := by rw [← hqr, List.length_map]
 refine ql Tryz.func48 rfl Tryz.ntmps48 (Nat.le_of_ble_eq_true rfl) ?_
 intro w0 hw0
 refine At.nrm ?_
 refine At.zi (.q 0 .done) ?_
 refine AtT.zg ?_
 refine AtT.done ?_
 refine At.nrm ?_
 refine At.zi (.q 0 .done) ?_
 refine AtT.zg ?_
 refine AtT.done ?_
 refine At.nrm ?_
 refine At.lp (ι := Nat) (KS := fun k => [(0, .slice aq qs.length cq), (1, iv g), (5, iv k)]) (OS := fun _ => []) (VS := fun k V' => V' = V ∧ k ≤ qs.length ∧ (rs.take k).find? (fun r => decide (r.g = g)) = none) (μ := fun k => qs.length - k) 0 ?_ ?_ ?_ ?_
 ·exact ⟨rfl, rfl, rfl, trivial⟩
 ·exact Pt.zI
 ·exact ⟨rfl, Nat.zero_le _, rfl⟩
 rintro k V' ks' O' ⟨rfl, hkl, hno⟩ hk hO hl2
 subst hk hO
 refine At.nrm ?_
 refine At.zi (.q 0 (.q 1 (.q 2 (.q 3 .done)))) ?_
 refine AtT.zf ?_
 refine AtT.zf ?_
 first | refine AtT.zR Tryz.underlying22 ?_ | refine AtT.zQ Tryz.underlying22 ?_
 refine AtT.qp ?_
 refine AtT.done ?_
 refine At.nrm ?_
 refine At.qb rfl (fun hp => ?_) (fun hp => ?_)
 ·obtain ⟨x, hx⟩ : ∃ x, qs[k]? = some x := ⟨_, List.getElem?_eq_getElem (by omega)⟩
  have hbx : rs[k]? = some x.1 := by rw [← hqr]; exact qs_at hx
  have hE : rs[k]'(by omega) = x.1 := by rw [List.getElem?_eq_getElem (by omega)] at hbx; simpa using hbx
  have hsp : rs.take (k + 1) = rs.take k ++ [x.1] := by rw [List.take_succ_eq_append_getElem (by omega), hE]
  refine At.nrm ?_
  refine At.zi (.q 0 (.q 1 (.q 2 (.q 3 (.q 4 (.q 5 (.q 6 .done))))))) ?_
  refine AtT.zf ?_
  refine AtT.zf ?_
  refine AtT.qm Tryz.underlying22 qO ?_
  intro p14 e14 he14 hc14
  obtain rfl : x = e14 := by have : qs[k]? = some e14 := (by simpa using he14); rw [hx] at this; simpa using this
  first | refine AtT.zk zY ?_ | with_reducible refine AtT.zl zY ?_ | refine AtT.zn zY ?_
  first | refine AtT.zm tk3 ?_ | refine AtT.zo tk3 ?_
  refine AtT.zf ?_
  refine AtT.qF ?_
  refine AtT.done ?_
  refine At.nrm ?_
  refine At.qb rfl (fun hg => ?_) (fun hg => ?_)
  ·refine At.nrm ?_
   refine At.zi (.q 0 (.q 1 (.q 2 (.q 3 (.q 4 (.q 5 .done)))))) ?_
   refine AtT.zf ?_
   refine AtT.zf ?_
   refine AtT.qm Tryz.underlying22 qO ?_
   intro p21 e21 he21 hc21
   obtain rfl : x = e21 := by have : qs[k]? = some e21 := (by simpa using he21); rw [hx] at this; simpa using this
   first | refine AtT.zk zK ?_ | with_reducible refine AtT.zl zK ?_ | refine AtT.zn zK ?_
   first | refine AtT.zm qM ?_ | refine AtT.zo qM ?_
   refine AtT.zg ?_
   refine AtT.done ?_
   refine At.nrm ?_
   have hf : rs.find? (fun r => decide (r.g = g)) = some x.1 := by
    have : (rs.take (k + 1)).find? (fun r => decide (r.g = g)) = some x.1 := by rw [hsp, List.find?_append, hno]; simp [hg]
    rw [← List.take_append_drop (k + 1) rs, List.find?_append, this]; rfl
   have hpo : partsOf rs g = x.1.ps := by unfold partsOf; rw [hf]
   rw [hpo]
   exact At.qh rfl (.tmp rfl) ⟨_, _, rfl, hq x (qs_mem hx)⟩
  ·refine At.nrm ?_
   refine At.zi (.q 0 (.q 1 (.q 2 .done))) ?_
   refine AtT.zf ?_
   first | refine AtT.qG ?_ | refine AtT.qd ?_
   refine AtT.zg ?_
   refine AtT.done ?_
   refine At.nrm ?_
   refine At.round (k + 1) ?_ ?_ ?_ ?_
   ·show qs.length - (k + 1) < qs.length - k; omega
   ·exact ⟨rfl, by omega, by rw [hsp, List.find?_append, hno]; simp [hg]⟩
   ·exact ⟨rfl, rfl, ivs (by omega), trivial⟩
   ·exact Pt.zI
 obtain rfl : k = qs.length := by omega
 rw [hql, List.take_length] at hno
 have hpo : partsOf rs g = [] := by unfold partsOf; rw [hno]
 rw [hpo]
 refine At.nrm ?_
 refine At.zi (.q 0 .done) ?_
 refine AtT.zg ?_
 refine AtT.done ?_
 refine At.nrm ?_
 exact At.qh rfl (.tmp rfl) ⟨none, 0, rfl, Sl.nil _ _ _⟩
theorem partError_f (g last : Int) (p : Pt) (hg : 0 ≤ g ∧ g ≤ 7) (hl : -1 ≤ last ∧ last ≤ 7) (V : View) : Fnc Tryz.prog 61 [iv g, iv last, ptv p] V fun r _ => r = iv (partE g last p) := by
 refine ql Tryz.func61 rfl Tryz.ntmps61 (Nat.le_of_ble_eq_true rfl) ?_
 intro w0 hw0
 refine At.nrm ?_
 refine At.zi (.n false 0 (.q 1 .done)) ?_
 refine AtT.jE ?_
 intro b5
 refine AtT.zg ?_
 refine AtT.done ?_
 refine At.nrm ?_
 refine At.nrm ?_
 by_cases h1 : 0 ≤ p.t ∧ p.t ≤ 7
 rotate_left
 ·refine At.zi (.q 0 (.q 1 (.n false 2 (.n false 3 (.q 4 (.q 5 (.q 6 (.q 7 (.q 8 (.q 9 (.q 10 (.q 11 (.q 12 (.q 13 (.q 14 (.q 15 .done)))))))))))))))) ?_
  first | refine AtT.zk zZ ?_ | with_reducible refine AtT.zl zZ ?_ | refine AtT.zn zZ ?_
  first | refine AtT.zm tk3 ?_ | refine AtT.zo tk3 ?_
  refine AtT.zN (qw _) ?_
  intro q10 V10 hV10 hq10
  have g10 : Le V V10 := by first | exact hV10 | exact Le.trans (by assumption) hV10
  refine AtT.qg rfl rfl jV (qB 0 7 p.t _ _ (Sl.lit (l := [p.t]) hq10 rfl (by simp))) ?_
  rintro v11 V11 hV11 rfl
  refine AtT.zS (d := 11) rfl (h1) ?_
  refine AtT.qC ?_
  refine AtT.qJ (d := 12) rfl ((show (!false) = true from rfl)) ?_
  refine AtT.zf ?_
  all_goals (first | refine AtT.kL 13 ?_ | refine AtT.zw (d := 13) rfl (fun hg13 => ?_) (fun hg13 => ?_) | refine AtT.zu (d := 13) rfl (fun hg13 => ?_) (fun hg13 => ?_))
  all_goals first|refine AtT.zh ?_|refine AtT.ze ?_|(first | refine AtT.zk qi ?_ | with_reducible refine AtT.zl qi ?_ | refine AtT.zn qi ?_)
  all_goals first|refine AtT.zh ?_|refine AtT.ze ?_|(first | refine AtT.zm tk2 ?_ | refine AtT.zo tk2 ?_)
  all_goals first|refine AtT.zh ?_|refine AtT.ze ?_|(refine AtT.qp ?_)
  all_goals (refine AtT.zx ?_)
  all_goals (refine AtT.zf ?_)
  all_goals (first | refine AtT.kL 18 ?_ | refine AtT.zw (d := 18) rfl (fun hg18 => ?_) (fun hg18 => ?_) | refine AtT.zu (d := 18) rfl (fun hg18 => ?_) (fun hg18 => ?_))
  all_goals first|refine AtT.zh ?_|refine AtT.ze ?_|(first | refine AtT.zk qi ?_ | with_reducible refine AtT.zl qi ?_ | refine AtT.zn qi ?_)
  all_goals first|refine AtT.zh ?_|refine AtT.ze ?_|(first | refine AtT.zm tk2 ?_ | refine AtT.zo tk2 ?_)
  all_goals first|refine AtT.zh ?_|refine AtT.ze ?_|(refine AtT.qI ?_)
  all_goals (refine AtT.zx ?_)
  all_goals (refine AtT.zg ?_)
  all_goals refine AtT.done ?_
  all_goals (refine At.nrm ?_)
  refine At.zU rfl rfl ?_
  refine At.nrm ?_
  refine At.zi (.q 0 .done) ?_
  refine AtT.zg ?_
  refine AtT.done ?_
  refine At.nrm ?_
  exact At.qh rfl (.tmp rfl) (by unfold partE; rw [if_pos (.inl h1)])
 by_cases h2 : p.n < 1
 ·refine At.zi (.q 0 (.q 1 (.n false 2 (.n false 3 (.q 4 (.q 5 (.q 6 (.q 7 (.q 8 (.q 9 (.q 10 (.q 11 (.q 12 (.q 13 (.q 14 (.q 15 .done)))))))))))))))) ?_
  first | refine AtT.zk zZ ?_ | with_reducible refine AtT.zl zZ ?_ | refine AtT.zn zZ ?_
  first | refine AtT.zm tk3 ?_ | refine AtT.zo tk3 ?_
  refine AtT.zN (qw _) ?_
  intro q10 V10 hV10 hq10
  have g10 : Le V V10 := by first | exact hV10 | exact Le.trans (by assumption) hV10
  refine AtT.qg rfl rfl jV (qB 0 7 p.t _ _ (Sl.lit (l := [p.t]) hq10 rfl (by simp))) ?_
  rintro v11 V11 hV11 rfl
  refine AtT.qa (d := 11) rfl (h1) ?_
  refine AtT.qC ?_
  refine AtT.qJ (d := 12) rfl ((show (!true) = false from rfl)) ?_
  refine AtT.zf ?_
  all_goals (first | refine AtT.kL 13 ?_ | refine AtT.zw (d := 13) rfl (fun hg13 => ?_) (fun hg13 => ?_) | refine AtT.zu (d := 13) rfl (fun hg13 => ?_) (fun hg13 => ?_))
  all_goals first|refine AtT.zh ?_|refine AtT.ze ?_|(first | refine AtT.zk qi ?_ | with_reducible refine AtT.zl qi ?_ | refine AtT.zn qi ?_)
  all_goals first|refine AtT.zh ?_|refine AtT.ze ?_|(first | refine AtT.zm tk2 ?_ | refine AtT.zo tk2 ?_)
  all_goals first|refine AtT.zh ?_|refine AtT.ze ?_|(refine AtT.qp ?_)
  all_goals (refine AtT.qa (d := 16) rfl (h2) ?_)
  all_goals (refine AtT.zx ?_)
  all_goals (refine AtT.zf ?_)
  all_goals (first | refine AtT.kL 18 ?_ | refine AtT.zw (d := 18) rfl (fun hg18 => ?_) (fun hg18 => ?_) | refine AtT.zu (d := 18) rfl (fun hg18 => ?_) (fun hg18 => ?_))
  all_goals first|refine AtT.zh ?_|refine AtT.ze ?_|(first | refine AtT.zk qi ?_ | with_reducible refine AtT.zl qi ?_ | refine AtT.zn qi ?_)
  all_goals first|refine AtT.zh ?_|refine AtT.ze ?_|(first | refine AtT.zm tk2 ?_ | refine AtT.zo tk2 ?_)
  all_goals first|refine AtT.zh ?_|refine AtT.ze ?_|(refine AtT.qI ?_)
  all_goals (refine AtT.zx ?_)
  all_goals (refine AtT.zg ?_)
  all_goals refine AtT.done ?_
  all_goals (refine At.nrm ?_)
  refine At.zU rfl rfl ?_
  refine At.nrm ?_
  refine At.zi (.q 0 .done) ?_
  refine AtT.zg ?_
  refine AtT.done ?_
  refine At.nrm ?_
  exact At.qh rfl (.tmp rfl) (by unfold partE; rw [if_pos (.inr (.inl h2))])
 by_cases h3 : 9 < p.n
 ·refine At.zi (.q 0 (.q 1 (.n false 2 (.n false 3 (.q 4 (.q 5 (.q 6 (.q 7 (.q 8 (.q 9 (.q 10 (.q 11 (.q 12 (.q 13 (.q 14 (.q 15 .done)))))))))))))))) ?_
  first | refine AtT.zk zZ ?_ | with_reducible refine AtT.zl zZ ?_ | refine AtT.zn zZ ?_
  first | refine AtT.zm tk3 ?_ | refine AtT.zo tk3 ?_
  refine AtT.zN (qw _) ?_
  intro q10 V10 hV10 hq10
  have g10 : Le V V10 := by first | exact hV10 | exact Le.trans (by assumption) hV10
  refine AtT.qg rfl rfl jV (qB 0 7 p.t _ _ (Sl.lit (l := [p.t]) hq10 rfl (by simp))) ?_
  rintro v11 V11 hV11 rfl
  refine AtT.qa (d := 11) rfl (h1) ?_
  refine AtT.qC ?_
  refine AtT.qJ (d := 12) rfl ((show (!true) = false from rfl)) ?_
  refine AtT.zf ?_
  all_goals (first | refine AtT.kL 13 ?_ | refine AtT.zw (d := 13) rfl (fun hg13 => ?_) (fun hg13 => ?_) | refine AtT.zu (d := 13) rfl (fun hg13 => ?_) (fun hg13 => ?_))
  all_goals first|refine AtT.zh ?_|refine AtT.ze ?_|(first | refine AtT.zk qi ?_ | with_reducible refine AtT.zl qi ?_ | refine AtT.zn qi ?_)
  all_goals first|refine AtT.zh ?_|refine AtT.ze ?_|(first | refine AtT.zm tk2 ?_ | refine AtT.zo tk2 ?_)
  all_goals first|refine AtT.zh ?_|refine AtT.ze ?_|(refine AtT.qp ?_)
  all_goals (refine AtT.zS (d := 16) rfl (h2) ?_)
  all_goals (refine AtT.zx ?_)
  all_goals (refine AtT.zf ?_)
  all_goals (first | refine AtT.kL 18 ?_ | refine AtT.zw (d := 18) rfl (fun hg18 => ?_) (fun hg18 => ?_) | refine AtT.zu (d := 18) rfl (fun hg18 => ?_) (fun hg18 => ?_))
  all_goals first|refine AtT.zh ?_|refine AtT.ze ?_|(first | refine AtT.zk qi ?_ | with_reducible refine AtT.zl qi ?_ | refine AtT.zn qi ?_)
  all_goals first|refine AtT.zh ?_|refine AtT.ze ?_|(first | refine AtT.zm tk2 ?_ | refine AtT.zo tk2 ?_)
  all_goals first|refine AtT.zh ?_|refine AtT.ze ?_|(refine AtT.qI ?_)
  all_goals (refine AtT.qa (d := 21) rfl (h3) ?_)
  all_goals (refine AtT.zx ?_)
  all_goals (refine AtT.zg ?_)
  all_goals refine AtT.done ?_
  all_goals (refine At.nrm ?_)
  refine At.zU rfl rfl ?_
  refine At.nrm ?_
  refine At.zi (.q 0 .done) ?_
  refine AtT.zg ?_
  refine AtT.done ?_
  refine At.nrm ?_
  exact At.qh rfl (.tmp rfl) (by unfold partE; rw [if_pos (.inr (.inr h3))])
 refine At.zi (.q 0 (.q 1 (.n false 2 (.n false 3 (.q 4 (.q 5 (.q 6 (.q 7 (.q 8 (.q 9 (.q 10 (.q 11 (.q 12 (.q 13 (.q 14 (.q 15 .done)))))))))))))))) ?_
 first | refine AtT.zk zZ ?_ | with_reducible refine AtT.zl zZ ?_ | refine AtT.zn zZ ?_
 first | refine AtT.zm tk3 ?_ | refine AtT.zo tk3 ?_
 refine AtT.zN (qw _) ?_
 intro q10 V10 hV10 hq10
 have g10 : Le V V10 := by first | exact hV10 | exact Le.trans (by assumption) hV10
 refine AtT.qg rfl rfl jV (qB 0 7 p.t _ _ (Sl.lit (l := [p.t]) hq10 rfl (by simp))) ?_
 rintro v11 V11 hV11 rfl
 refine AtT.qa (d := 11) rfl (h1) ?_
 refine AtT.qC ?_
 refine AtT.qJ (d := 12) rfl ((show (!true) = false from rfl)) ?_
 refine AtT.zf ?_
 all_goals (first | refine AtT.kL 13 ?_ | refine AtT.zw (d := 13) rfl (fun hg13 => ?_) (fun hg13 => ?_) | refine AtT.zu (d := 13) rfl (fun hg13 => ?_) (fun hg13 => ?_))
 all_goals first|refine AtT.zh ?_|refine AtT.ze ?_|(first | refine AtT.zk qi ?_ | with_reducible refine AtT.zl qi ?_ | refine AtT.zn qi ?_)
 all_goals first|refine AtT.zh ?_|refine AtT.ze ?_|(first | refine AtT.zm tk2 ?_ | refine AtT.zo tk2 ?_)
 all_goals first|refine AtT.zh ?_|refine AtT.ze ?_|(refine AtT.qp ?_)
 all_goals (refine AtT.zS (d := 16) rfl (h2) ?_)
 all_goals (refine AtT.zx ?_)
 all_goals (refine AtT.zf ?_)
 all_goals (first | refine AtT.kL 18 ?_ | refine AtT.zw (d := 18) rfl (fun hg18 => ?_) (fun hg18 => ?_) | refine AtT.zu (d := 18) rfl (fun hg18 => ?_) (fun hg18 => ?_))
 all_goals first|refine AtT.zh ?_|refine AtT.ze ?_|(first | refine AtT.zk qi ?_ | with_reducible refine AtT.zl qi ?_ | refine AtT.zn qi ?_)
 all_goals first|refine AtT.zh ?_|refine AtT.ze ?_|(first | refine AtT.zm tk2 ?_ | refine AtT.zo tk2 ?_)
 all_goals first|refine AtT.zh ?_|refine AtT.ze ?_|(refine AtT.qI ?_)
 all_goals (refine AtT.zS (d := 21) rfl (h3) ?_)
 all_goals (refine AtT.zx ?_)
 all_goals (refine AtT.zg ?_)
 all_goals refine AtT.done ?_
 all_goals (refine At.nrm ?_)
 refine At.zX rfl rfl ?_
 have hn : ¬ (¬ (0 ≤ p.t ∧ p.t ≤ 7) ∨ p.n < 1 ∨ 9 < p.n) := by omega
 have k11 := g10.trans hV11
 refine At.nrm ?_
 by_cases h4 : last + 1 ≤ p.t ∧ p.t ≤ g - 1
 rotate_left
 ·refine At.zi (.q 0 (.q 1 (.q 2 (.q 3 (.q 4 (.q 5 (.n false 6 (.n false 7 (.q 8 (.q 9 .done)))))))))) ?_
  refine AtT.zf ?_
  first | refine AtT.qG ?_ | refine AtT.qd ?_
  refine AtT.zf ?_
  first | refine AtT.ji ?_ | refine AtT.jh ?_
  first | refine AtT.zk zZ ?_ | with_reducible refine AtT.zl zZ ?_ | refine AtT.zn zZ ?_
  first | refine AtT.zm tk3 ?_ | refine AtT.zo tk3 ?_
  refine AtT.zN (qw _) ?_
  intro q30 V30 hV30 hq30
  have g30 : Le V V30 := by first | exact hV30 | exact Le.trans (by assumption) hV30
  refine AtT.qg rfl rfl jV (qB _ _ p.t _ _ (Sl.lit (l := [p.t]) hq30 rfl (by simp))) ?_
  rintro v31 V31 hV31 rfl
  refine AtT.zS (d := 31) rfl (h4) ?_
  refine AtT.qC ?_
  refine AtT.qJ (d := 32) rfl ((show (!false) = true from rfl)) ?_
  refine AtT.zg ?_
  refine AtT.done ?_
  refine At.nrm ?_
  refine At.zU rfl rfl ?_
  refine At.nrm ?_
  refine At.zi (.q 0 .done) ?_
  refine AtT.zg ?_
  refine AtT.done ?_
  refine At.nrm ?_
  exact At.qh rfl (.tmp rfl) (by unfold partE; rw [if_neg hn, if_pos h4])
 refine At.zi (.q 0 (.q 1 (.q 2 (.q 3 (.q 4 (.q 5 (.n false 6 (.n false 7 (.q 8 (.q 9 .done)))))))))) ?_
 refine AtT.zf ?_
 first | refine AtT.qG ?_ | refine AtT.qd ?_
 refine AtT.zf ?_
 first | refine AtT.ji ?_ | refine AtT.jh ?_
 first | refine AtT.zk zZ ?_ | with_reducible refine AtT.zl zZ ?_ | refine AtT.zn zZ ?_
 first | refine AtT.zm tk3 ?_ | refine AtT.zo tk3 ?_
 refine AtT.zN (qw _) ?_
 intro q30 V30 hV30 hq30
 have g30 : Le V V30 := by first | exact hV30 | exact Le.trans (by assumption) hV30
 refine AtT.qg rfl rfl jV (qB _ _ p.t _ _ (Sl.lit (l := [p.t]) hq30 rfl (by simp))) ?_
 rintro v31 V31 hV31 rfl
 refine AtT.qa (d := 31) rfl (h4) ?_
 refine AtT.qC ?_
 refine AtT.qJ (d := 32) rfl ((show (!true) = false from rfl)) ?_
 refine AtT.zg ?_
 refine AtT.done ?_
 refine At.nrm ?_
 refine At.zX rfl rfl ?_
 refine At.nrm ?_
 refine At.zi (.q 0 .done) ?_
 refine AtT.zg ?_
 refine AtT.done ?_
 refine At.nrm ?_
 exact At.qh rfl (.tmp rfl) (by unfold partE; rw [if_neg hn, if_neg (fun h => h h4)])
end Go.Proofs.YtpoignmclfdgpaaGreatDoor
set_option linter.unusedVariables false
namespace Go.Bk
open Go.Lw Go.Gl
theorem drop_at {α : Type} {l : List α} {k : Nat} {x : α} (h : l[k]? = some x) : l.drop k = x :: l.drop (k + 1) := by
 obtain ⟨hk, rfl⟩ := List.getElem?_eq_some_iff.1 h
 exact List.drop_eq_getElem_cons hk
def lastR (rs : List Rc) : Nat → Int
 | 0 => -1
 | k + 1 => (rs.getD k ⟨0, []⟩).g
def lastP (ps : List Pt) : Nat → Int
 | 0 => -1
 | k + 1 => (ps.getD k ⟨0, 0⟩).t
theorem lastR_at {rs : List Rc} {k : Nat} {r : Rc} (h : rs[k]? = some r) : lastR rs (k + 1) = r.g := by simp [lastR, List.getD, h]
theorem lastP_at {ps : List Pt} {k : Nat} {p : Pt} (h : ps[k]? = some p) : lastP ps (k + 1) = p.t := by simp [lastP, List.getD, h]
end Go.Bk
namespace Go.Proofs.YtpoignmclfdgpaaGreatDoor
open Go.Lw Go.Gl Go.Bk Go.RowKit
theorem checkRecipes_f (rs : List Rc) (V : View) (v : Value) (hv : RsV V v rs) : Fnc Tryz.prog 20 [v] V fun r _ => r = iv (crE rs) := by
 obtain ⟨qs, aq, cq, hqr, rfl, hsq, hq⟩ := hv
 have hlen := hsq.jA
 have hql : qs.length = rs.length := by rw [← hqr, List.length_map]
 refine ql Tryz.func20 rfl Tryz.ntmps20 (Nat.le_of_ble_eq_true rfl) ?_
 intro w0 hw0
 refine At.nrm ?_
 refine At.zi (.q 0 .done) ?_
 refine AtT.zg ?_
 refine AtT.done ?_
 refine At.nrm ?_
 refine At.zi (.q 0 .done) ?_
 refine AtT.zg ?_
 refine AtT.done ?_
 refine At.nrm ?_
 refine At.zi (.q 0 (.q 1 (.q 2 .done))) ?_
 refine AtT.zf ?_
 first | refine AtT.zR Tryz.underlying22 ?_ | refine AtT.zQ Tryz.underlying22 ?_
 refine AtT.zf ?_
 refine AtT.done ?_
 refine At.nrm ?_
 refine At.lp (ι := Nat) (KS := fun k => [(3, iv (lastR rs k)), (10, .slice aq qs.length cq), (11, iv qs.length), (12, iv k)]) (OS := fun _ => []) (VS := fun k V' => Le V V' ∧ k ≤ qs.length ∧ crE rs = recsE (lastR rs k) (rs.drop k)) (μ := fun k => qs.length - k) 0 ?_ ?_ ?_ ?_
 ·exact ⟨rfl, rfl, rfl, rfl, trivial⟩
 ·exact Pt.zI
 ·exact ⟨Le.refl _, Nat.zero_le _, rfl⟩
 rintro k V' ks' O' ⟨hVV, hkl, hcr⟩ hk hO hl2
 subst hk hO
 have hsq1 := hsq.le hVV
 have hq1 := hq.le hVV
 refine At.nrm ?_
 refine At.zi (.q 0 .done) ?_
 refine AtT.qp ?_
 refine AtT.done ?_
 refine At.nrm ?_
 refine At.qb rfl (fun hp => ?_) (fun hp => ?_)
 rotate_left
 ·obtain rfl : k = qs.length := by omega
  rw [hql, List.drop_length] at hcr
  refine At.nrm ?_
  refine At.zi (.q 0 .done) ?_
  refine AtT.zg ?_
  refine AtT.done ?_
  refine At.nrm ?_
  exact At.qh rfl (.tmp rfl) (by rw [hcr]; rfl)
 obtain ⟨x, hx⟩ : ∃ x, qs[k]? = some x := ⟨_, List.getElem?_eq_getElem (by omega)⟩
 have hbx : rs[k]? = some x.1 := by rw [← hqr]; exact qs_at hx
 rw [drop_at hbx] at hcr
 simp only [recsE] at hcr
 have hbad : ∀ c, rcE (lastR rs k) x.1 = c → c ≠ 0 → crE rs = c := fun c h0 h1 => by rw [hcr, if_pos (by rw [h0]; exact h1)]; exact h0
 refine At.nrm ?_
 refine At.zi (.q 0 (.q 1 (.n false 2 (.n true 3 .done)))) ?_
 refine AtT.qm Tryz.underlying22 qO ?_
 intro p14 e14 he14 hc14
 obtain rfl : x = e14 := by have : qs[k]? = some e14 := (by simpa using he14); rw [hx] at this; simpa using this
 first | refine AtT.zF qO ?_ | refine AtT.zJ qO ?_ | refine AtT.zD qO ?_
 refine AtT.zT z80 ?_
 intro b5
 refine AtT.zy qO ?_
 refine AtT.done ?_
 refine At.nrm ?_
 refine At.nrm ?_
 by_cases h1 : 0 ≤ x.1.g ∧ x.1.g ≤ 7
 rotate_left
 ·refine At.zi (.q 0 (.q 1 (.n false 2 (.n false 3 (.q 4 (.q 5 .done)))))) ?_
  first | refine AtT.zk zY ?_ | with_reducible refine AtT.zl zY ?_ | refine AtT.zn zY ?_
  first | refine AtT.zm tk3 ?_ | refine AtT.zo tk3 ?_
  refine AtT.zN (qw _) ?_
  intro q19 V19 hV19 hq19
  have g19 : Le V V19 := by first | exact hV19 | exact Le.trans (by assumption) hV19
  refine AtT.qg rfl rfl jV (qB 0 7 x.1.g _ _ (Sl.lit (l := [x.1.g]) hq19 rfl (by simp))) ?_
  rintro v20 V20 hV20 rfl
  refine AtT.zS (d := 20) rfl (h1) ?_
  refine AtT.qC ?_
  refine AtT.qJ (d := 21) rfl ((show (!false) = true from rfl)) ?_
  refine AtT.zg ?_
  refine AtT.done ?_
  refine At.nrm ?_
  refine At.zU rfl rfl ?_
  refine At.nrm ?_
  refine At.zi (.q 0 .done) ?_
  refine AtT.zg ?_
  refine AtT.done ?_
  refine At.nrm ?_
  exact At.qh rfl (.tmp rfl) (by rw [hbad 3 (by unfold rcE; rw [if_pos h1]) (by decide)])
 refine At.zi (.q 0 (.q 1 (.n false 2 (.n false 3 (.q 4 (.q 5 .done)))))) ?_
 first | refine AtT.zk zY ?_ | with_reducible refine AtT.zl zY ?_ | refine AtT.zn zY ?_
 first | refine AtT.zm tk3 ?_ | refine AtT.zo tk3 ?_
 refine AtT.zN (qw _) ?_
 intro q19 V19 hV19 hq19
 have g19 : Le V V19 := by first | exact hV19 | exact Le.trans (by assumption) hV19
 refine AtT.qg rfl rfl jV (qB 0 7 x.1.g _ _ (Sl.lit (l := [x.1.g]) hq19 rfl (by simp))) ?_
 rintro v20 V20 hV20 rfl
 refine AtT.qa (d := 20) rfl (h1) ?_
 refine AtT.qC ?_
 refine AtT.qJ (d := 21) rfl ((show (!true) = false from rfl)) ?_
 refine AtT.zg ?_
 refine AtT.done ?_
 refine At.nrm ?_
 refine At.zX rfl rfl ?_
 refine At.nrm ?_
 refine At.zi (.q 0 (.q 1 (.q 2 (.q 3 (.q 4 .done))))) ?_
 first | refine AtT.zk zY ?_ | with_reducible refine AtT.zl zY ?_ | refine AtT.zn zY ?_
 first | refine AtT.zm tk3 ?_ | refine AtT.zo tk3 ?_
 refine AtT.zf ?_
 refine AtT.kleq ?_
 refine AtT.zg ?_
 refine AtT.done ?_
 refine At.nrm ?_
 refine At.qb rfl (fun h2 => ?_) (fun h2 => ?_)
 ·refine At.nrm ?_
  refine At.zi (.q 0 .done) ?_
  refine AtT.zg ?_
  refine AtT.done ?_
  refine At.nrm ?_
  exact At.qh rfl (.tmp rfl) (by rw [hbad 16 (by unfold rcE; rw [if_neg (fun h => h h1), if_pos h2]) (by decide)])
 have k20 := g19.trans hV20
 refine At.nrm ?_
 by_cases h3 : 1 ≤ (x.1.ps.length : Int) ∧ (x.1.ps.length : Int) ≤ 3
 rotate_left
 ·refine At.zi (.q 0 (.q 1 (.q 2 (.n false 3 (.n false 4 (.q 5 (.q 6 .done))))))) ?_
  first | refine AtT.zk zK ?_ | with_reducible refine AtT.zl zK ?_ | refine AtT.zn zK ?_
  first | refine AtT.zm qM ?_ | refine AtT.zo qM ?_
  first | refine AtT.zR Tryz.underlying66 ?_ | refine AtT.zQ Tryz.underlying66 ?_
  refine AtT.zN (qw _) ?_
  intro q31 V31 hV31 hq31
  have g31 : Le V V31 := by first | exact hV31 | exact Le.trans (by assumption) hV31
  refine AtT.qg rfl rfl jV (qB 1 3 x.1.ps.length _ _ (Sl.lit (l := [(x.1.ps.length : Int)]) hq31 rfl (by simp))) ?_
  rintro v32 V32 hV32 rfl
  refine AtT.zS (d := 32) rfl (h3) ?_
  refine AtT.qC ?_
  refine AtT.qJ (d := 33) rfl ((show (!false) = true from rfl)) ?_
  refine AtT.zg ?_
  refine AtT.done ?_
  refine At.nrm ?_
  refine At.zU rfl rfl ?_
  refine At.nrm ?_
  refine At.zi (.q 0 .done) ?_
  refine AtT.zg ?_
  refine AtT.done ?_
  refine At.nrm ?_
  exact At.qh rfl (.tmp rfl) (by rw [hbad 6 (by unfold rcE; rw [if_neg (fun h => h h1), if_neg h2, if_pos (by omega)]) (by decide)])
 refine At.zi (.q 0 (.q 1 (.q 2 (.n false 3 (.n false 4 (.q 5 (.q 6 .done))))))) ?_
 first | refine AtT.zk zK ?_ | with_reducible refine AtT.zl zK ?_ | refine AtT.zn zK ?_
 first | refine AtT.zm qM ?_ | refine AtT.zo qM ?_
 first | refine AtT.zR Tryz.underlying66 ?_ | refine AtT.zQ Tryz.underlying66 ?_
 refine AtT.zN (qw _) ?_
 intro q31 V31 hV31 hq31
 have g31 : Le V V31 := by first | exact hV31 | exact Le.trans (by assumption) hV31
 refine AtT.qg rfl rfl jV (qB 1 3 x.1.ps.length _ _ (Sl.lit (l := [(x.1.ps.length : Int)]) hq31 rfl (by simp))) ?_
 rintro v32 V32 hV32 rfl
 refine AtT.qa (d := 32) rfl (h3) ?_
 refine AtT.qC ?_
 refine AtT.qJ (d := 33) rfl ((show (!true) = false from rfl)) ?_
 refine AtT.zg ?_
 refine AtT.done ?_
 refine At.nrm ?_
 refine At.zX rfl rfl ?_
 have hrc : rcE (lastR rs k) x.1 = partsE x.1.g (-1) x.1.ps := by unfold rcE; rw [if_neg (fun h => h h1), if_neg h2, if_neg (by omega)]
 have k32 := g31.trans hV32
 have hps : Sl V32 pte 2 (.slice x.2.1 x.1.ps.length x.2.2) x.1.ps := (hq x (qs_mem hx)).le k32
 refine At.nrm ?_
 refine At.zi (.q 0 (.q 1 (.q 2 .done))) ?_
 first | refine AtT.zk zY ?_ | with_reducible refine AtT.zl zY ?_ | refine AtT.zn zY ?_
 first | refine AtT.zm tk3 ?_ | refine AtT.zo tk3 ?_
 refine AtT.zg ?_
 refine AtT.done ?_
 refine At.nrm ?_
 refine At.zi (.q 0 .done) ?_
 refine AtT.zg ?_
 refine AtT.done ?_
 refine At.nrm ?_
 refine At.zi (.q 0 (.q 1 (.q 2 (.q 3 .done)))) ?_
 first | refine AtT.zk zK ?_ | with_reducible refine AtT.zl zK ?_ | refine AtT.zn zK ?_
 first | refine AtT.zm qM ?_ | refine AtT.zo qM ?_
 first | refine AtT.zR Tryz.underlying66 ?_ | refine AtT.zQ Tryz.underlying66 ?_
 refine AtT.zf ?_
 refine AtT.done ?_
 refine At.nrm ?_
 refine At.lp (ι := Nat) (KS := fun j => [(3, iv x.1.g), (5, .pointer (some ⟨b5, 0, none⟩)), (6, iv (lastP x.1.ps j)), (10, .slice aq qs.length cq), (11, iv qs.length), (12, iv k), (37, .slice x.2.1 x.1.ps.length x.2.2), (38, iv x.1.ps.length), (39, iv j)]) (OS := fun _ => [.blk b5 (LC (rce x) 80)]) (VS := fun j V'' => Le V32 V'' ∧ j ≤ x.1.ps.length ∧ partsE x.1.g (-1) x.1.ps = partsE x.1.g (lastP x.1.ps j) (x.1.ps.drop j) ∧ -1 ≤ lastP x.1.ps j ∧ lastP x.1.ps j ≤ 7) (μ := fun j => x.1.ps.length - j) 0 ?_ ?_ ?_ ?_
 ·exact ⟨rfl, rfl, rfl, rfl, rfl, rfl, rfl, rfl, rfl, trivial⟩
 ·exact Pt.zI
 ·exact ⟨Le.refl _, Nat.zero_le _, rfl, by simp [lastP], by simp [lastP]⟩
 rintro j V'' ks' O' ⟨hV3, hjl, hpe, hb1, hb2⟩ hk hO hl3
 subst hk hO
 have hps1 := hps.le hV3
 refine At.nrm ?_
 refine At.zi (.q 0 .done) ?_
 refine AtT.qp ?_
 refine AtT.done ?_
 refine At.nrm ?_
 refine At.qb rfl (fun hp2 => ?_) (fun hp2 => ?_)
 rotate_left
 ·obtain rfl : j = x.1.ps.length := by omega
  rw [List.drop_length] at hpe
  have h0 : rcE (lastR rs k) x.1 = 0 := by rw [hrc, hpe]; rfl
  rw [if_neg (by rw [h0]; simp)] at hcr
  refine At.nrm ?_
  refine At.zi (.q 0 (.q 1 .done)) ?_
  first | refine AtT.qG ?_ | refine AtT.qd ?_
  refine AtT.zf ?_
  refine AtT.done ?_
  refine At.nrm ?_
  refine At.round (k + 1) ?_ ?_ ?_ ?_
  ·show qs.length - (k + 1) < qs.length - k; omega
  ·exact ⟨k32.trans hV3, by omega, by rw [lastR_at hbx]; exact hcr⟩
  ·rw [lastR_at hbx]; exact ⟨rfl, rfl, rfl, ivs (by omega), trivial⟩
  ·exact Pt.zI
 obtain ⟨p, hpx⟩ : ∃ p, x.1.ps[j]? = some p := ⟨_, List.getElem?_eq_getElem (by omega)⟩
 rw [drop_at hpx] at hpe
 simp only [partsE] at hpe
 refine At.nrm ?_
 refine At.zi (.q 0 (.q 1 (.n false 2 (.n true 3 .done)))) ?_
 refine AtT.qm Tryz.underlying66 qZ ?_
 intro p41 e41 he41 hc41
 obtain rfl : p = e41 := by have : x.1.ps[j]? = some e41 := (by simpa using he41); rw [hpx] at this; simpa using this
 first | refine AtT.zF qZ ?_ | refine AtT.zJ qZ ?_ | refine AtT.zD qZ ?_
 refine AtT.zT z69 ?_
 intro b8
 refine AtT.zy qZ ?_
 refine AtT.done ?_
 refine At.nrm ?_
 refine At.nrm ?_
 refine At.zi (.q 0 (.q 1 (.q 2 (.q 3 (.n false 4 (.q 5 .done)))))) ?_
 first | refine AtT.zk zY ?_ | with_reducible refine AtT.zl zY ?_ | refine AtT.zn zY ?_
 first | refine AtT.zm tk3 ?_ | refine AtT.zo tk3 ?_
 refine AtT.zf ?_
 first | refine AtT.zF qZ ?_ | refine AtT.zJ qZ ?_ | refine AtT.zD qZ ?_
 refine AtT.zG rfl rfl ok61 (partError_f x.1.g (lastP x.1.ps j) p h1 ⟨hb1, hb2⟩ _) ?_
 rintro _ rfl
 refine AtT.zg ?_
 refine AtT.done ?_
 refine At.nrm ?_
 refine At.nrm ?_
 refine At.zi (.q 0 (.q 1 .done)) ?_
 refine AtT.zf ?_
 refine AtT.qE ?_
 refine AtT.done ?_
 refine At.nrm ?_
 refine At.qb rfl (fun he => ?_) (fun he => ?_)
 ·rw [if_pos he] at hpe
  refine At.nrm ?_
  refine At.zi (.q 0 (.q 1 .done)) ?_
  refine AtT.zf ?_
  refine AtT.zg ?_
  refine AtT.done ?_
  refine At.nrm ?_
  exact At.qh rfl (.tmp rfl) (by rw [hbad _ (hrc.trans hpe) he])
 have he' := partE_iff.1 (Classical.not_not.1 he)
 rw [if_neg he] at hpe
 refine At.nrm ?_
 refine At.zi (.q 0 (.q 1 (.q 2 .done))) ?_
 first | refine AtT.zk zZ ?_ | with_reducible refine AtT.zl zZ ?_ | refine AtT.zn zZ ?_
 first | refine AtT.zm tk3 ?_ | refine AtT.zo tk3 ?_
 refine AtT.zg ?_
 refine AtT.done ?_
 refine At.nrm ?_
 refine At.nrm ?_
 refine At.zi (.q 0 (.q 1 .done)) ?_
 first | refine AtT.qG ?_ | refine AtT.qd ?_
 refine AtT.zf ?_
 refine AtT.done ?_
 refine At.nrm ?_
 refine At.round (j + 1) ?_ ?_ ?_ ?_
 ·show x.1.ps.length - (j + 1) < x.1.ps.length - j; omega
 ·exact ⟨hV3, by omega, by rw [lastP_at hpx]; exact hpe, by rw [lastP_at hpx]; have := he'.t; omega, by rw [lastP_at hpx]; exact he'.t.2⟩
 ·rw [lastP_at hpx]; exact ⟨rfl, rfl, rfl, rfl, rfl, rfl, rfl, rfl, ivs (by omega), trivial⟩
 ·exact Pt.zI
theorem rcheckRecipes_f (rs : List Rc) (V : View) (v : Value) (hv : RsV V v rs) : Fnc Tryz.prog 21 [v] V fun r _ => r = iv (crE rs) := by
 obtain ⟨qs, aq, cq, hqr, rfl, hsq, hq⟩ := hv
 have hlen := hsq.jA
 have hql : qs.length = rs.length := by rw [← hqr, List.length_map]
 refine ql Tryz.func21 rfl Tryz.ntmps21 (Nat.le_of_ble_eq_true rfl) ?_
 intro w0 hw0
 refine At.nrm ?_
 refine At.zi (.q 0 .done) ?_
 refine AtT.zg ?_
 refine AtT.done ?_
 refine At.nrm ?_
 refine At.zi (.q 0 .done) ?_
 refine AtT.zg ?_
 refine AtT.done ?_
 refine At.nrm ?_
 refine At.lp (ι := Nat) (KS := fun k => [(0, .slice aq qs.length cq), (3, iv k)]) (OS := fun _ => []) (VS := fun k V' => V' = V ∧ k ≤ qs.length ∧ crE rs = recsE (lastR rs k) (rs.drop k)) (μ := fun k => qs.length - k) 0 ?_ ?_ ?_ ?_
 ·exact ⟨rfl, rfl, trivial⟩
 ·exact Pt.zI
 ·exact ⟨rfl, Nat.zero_le _, rfl⟩
 rintro k V' ks' O' ⟨rfl, hkl, hcr⟩ hk hO hl2
 subst hk hO
 refine At.nrm ?_
 refine At.zi (.q 0 (.q 1 (.q 2 (.q 3 .done)))) ?_
 refine AtT.zf ?_
 refine AtT.zf ?_
 first | refine AtT.zR Tryz.underlying22 ?_ | refine AtT.zQ Tryz.underlying22 ?_
 refine AtT.qp ?_
 refine AtT.done ?_
 refine At.nrm ?_
 refine At.qb rfl (fun hp => ?_) (fun hp => ?_)
 rotate_left
 ·obtain rfl : k = qs.length := by omega
  rw [hql, List.drop_length] at hcr
  refine At.nrm ?_
  refine At.zi (.q 0 .done) ?_
  refine AtT.zg ?_
  refine AtT.done ?_
  refine At.nrm ?_
  exact At.qh rfl (.tmp rfl) (by rw [hcr]; rfl)
 obtain ⟨x, hx⟩ : ∃ x, qs[k]? = some x := ⟨_, List.getElem?_eq_getElem (by omega)⟩
 have hbx : rs[k]? = some x.1 := by rw [← hqr]; exact qs_at hx
 rw [drop_at hbx] at hcr
 simp only [recsE] at hcr
 have hbad : ∀ c, rcE (lastR rs k) x.1 = c → c ≠ 0 → crE rs = c := fun c h0 h1 => by rw [hcr, if_pos (by rw [h0]; exact h1)]; exact h0
 have hps : Sl V' pte 2 (.slice x.2.1 x.1.ps.length x.2.2) x.1.ps := hq x (qs_mem hx)
 refine At.nrm ?_
 refine At.zi (.q 0 (.q 1 (.q 2 (.q 3 (.n false 4 (.n true 5 .done)))))) ?_
 refine AtT.zf ?_
 refine AtT.zf ?_
 refine AtT.qm Tryz.underlying22 qO ?_
 intro p15 e15 he15 hc15
 obtain rfl : x = e15 := by have : qs[k]? = some e15 := (by simpa using he15); rw [hx] at this; simpa using this
 first | refine AtT.zF qO ?_ | refine AtT.zJ qO ?_ | refine AtT.zD qO ?_
 refine AtT.zT z80 ?_
 intro b4
 refine AtT.zy qO ?_
 refine AtT.done ?_
 refine At.nrm ?_
 refine At.nrm ?_
 by_cases h1 : 0 ≤ x.1.g ∧ x.1.g ≤ 7
 rotate_left
 ·refine At.zi (.q 0 (.q 1 (.n false 2 (.q 3 .done)))) ?_
  first | refine AtT.zk zY ?_ | with_reducible refine AtT.zl zY ?_ | refine AtT.zn zY ?_
  first | refine AtT.zm tk3 ?_ | refine AtT.zo tk3 ?_
  refine AtT.zG rfl rfl ok59 (jI x.1.g _) ?_
  rintro _ rfl
  refine AtT.zS (d := 19) rfl (h1) ?_
  refine AtT.qC ?_
  refine AtT.qJ (d := 20) rfl ((show (!false) = true from rfl)) ?_
  refine AtT.done ?_
  refine At.nrm ?_
  refine At.zU rfl rfl ?_
  refine At.nrm ?_
  refine At.zi (.q 0 .done) ?_
  refine AtT.zg ?_
  refine AtT.done ?_
  refine At.nrm ?_
  exact At.qh rfl (.tmp rfl) (by rw [hbad 3 (by unfold rcE; rw [if_pos h1]) (by decide)])
 refine At.zi (.q 0 (.q 1 (.n false 2 (.q 3 .done)))) ?_
 first | refine AtT.zk zY ?_ | with_reducible refine AtT.zl zY ?_ | refine AtT.zn zY ?_
 first | refine AtT.zm tk3 ?_ | refine AtT.zo tk3 ?_
 refine AtT.zG rfl rfl ok59 (jI x.1.g _) ?_
 rintro _ rfl
 refine AtT.qa (d := 19) rfl (h1) ?_
 refine AtT.qC ?_
 refine AtT.qJ (d := 20) rfl ((show (!true) = false from rfl)) ?_
 refine AtT.done ?_
 refine At.nrm ?_
 refine At.zX rfl rfl ?_
 refine At.nrmB ?_
 refine At.cutG (ι := Unit) (fun _ => [(0, .slice aq qs.length cq), (3, iv k), (4, .pointer (some ⟨b4, 0, none⟩)), (33, .bool (decide (x.1.g ≤ lastR rs k)))]) (fun _ => [.blk b4 (LC (rce x) 80)]) (fun _ V'' => V'' = V') ?_ ?_
 ·by_cases hk0 : k = 0
  ·subst hk0
   rw [show decide (x.1.g ≤ lastR rs 0) = false from decide_eq_false (by simp [lastR]; omega)]
   refine At.draw (.q 0 (.q 1 (.q 2 (.q 3 (.q 4 (.q 5 (.q 6 (.q 7 (.q 8 (.q 9 (.q 10 (.q 11 (.q 12 .done))))))))))))) ffm (by kernel_rfl) ?_
   refine AtT.zf ?_
   refine AtT.qI ?_
   refine AtT.zS (d := 22) rfl ((by omega)) ?_
   refine AtT.zf ?_
   all_goals (first | refine AtT.kL 23 ?_ | refine AtT.zw (d := 23) rfl (fun hg23 => ?_) (fun hg23 => ?_) | refine AtT.zu (d := 23) rfl (fun hg23 => ?_) (fun hg23 => ?_))
   all_goals first|refine AtT.zh ?_|refine AtT.ze ?_|(first | refine AtT.zk zY ?_ | with_reducible refine AtT.zl zY ?_ | refine AtT.zn zY ?_)
   all_goals first|refine AtT.zh ?_|refine AtT.ze ?_|(first | refine AtT.zm tk3 ?_ | refine AtT.zo tk3 ?_)
   all_goals first|refine AtT.zh ?_|refine AtT.ze ?_|(refine AtT.zf ?_)
   all_goals first|refine AtT.zh ?_|refine AtT.ze ?_|(refine AtT.zf ?_)
   all_goals first|refine AtT.zh ?_|refine AtT.ze ?_|(first | refine AtT.ji ?_ | refine AtT.jh ?_)
   all_goals first|refine AtT.zh ?_|refine AtT.ze ?_|(refine AtT.qm Tryz.underlying22 qO ?_) ; (intro p29 e29 he29 hc29)
   all_goals first|refine AtT.zh ?_|refine AtT.ze ?_|(first | refine AtT.zk zY ?_ | with_reducible refine AtT.zl zY ?_ | refine AtT.zn zY ?_)
   all_goals first|refine AtT.zh ?_|refine AtT.ze ?_|(first | refine AtT.zm tk3 ?_ | refine AtT.zo tk3 ?_)
   all_goals first|refine AtT.zh ?_|refine AtT.ze ?_|(refine AtT.kleq ?_)
   all_goals (refine AtT.zx ?_)
   all_goals refine AtT.done ?_
   all_goals (refine At.nrm ?_)
   all_goals (exact At.jP () rfl ⟨rfl, rfl, rfl, rfl, trivial⟩ Pt.zI)
  obtain ⟨m, rfl⟩ : ∃ m, k = m + 1 := ⟨k - 1, by omega⟩
  obtain ⟨y, hy⟩ : ∃ y, qs[m]? = some y := ⟨_, List.getElem?_eq_getElem (by omega)⟩
  have hby : rs[m]? = some y.1 := by rw [← hqr]; exact qs_at hy
  have hmm : ((m + 1 : Nat) : Int) - 1 = (m : Int) := by omega
  rw [lastR_at hby]
  refine At.draw (.q 0 (.q 1 (.q 2 (.q 3 (.q 4 (.q 5 (.q 6 (.q 7 (.q 8 (.q 9 (.q 10 (.q 11 (.q 12 .done))))))))))))) ffm (by kernel_rfl) ?_
  refine AtT.zf ?_
  refine AtT.qI ?_
  refine AtT.qa (d := 22) rfl ((by omega)) ?_
  refine AtT.zf ?_
  all_goals (first | refine AtT.kL 23 ?_ | refine AtT.zw (d := 23) rfl (fun hg23 => ?_) (fun hg23 => ?_) | refine AtT.zu (d := 23) rfl (fun hg23 => ?_) (fun hg23 => ?_))
  all_goals first|refine AtT.zh ?_|refine AtT.ze ?_|(first | refine AtT.zk zY ?_ | with_reducible refine AtT.zl zY ?_ | refine AtT.zn zY ?_)
  all_goals first|refine AtT.zh ?_|refine AtT.ze ?_|(first | refine AtT.zm tk3 ?_ | refine AtT.zo tk3 ?_)
  all_goals first|refine AtT.zh ?_|refine AtT.ze ?_|(refine AtT.zf ?_)
  all_goals first|refine AtT.zh ?_|refine AtT.ze ?_|(refine AtT.zf ?_)
  all_goals first|refine AtT.zh ?_|refine AtT.ze ?_|(first | refine AtT.ji ?_ | refine AtT.jh ?_)
  all_goals (rw [hmm])
  all_goals first|refine AtT.zh ?_|refine AtT.ze ?_|(refine AtT.qm Tryz.underlying22 qO ?_) ; (intro p29 e29 he29 hc29)
  all_goals (obtain rfl : y = e29 := by have : qs[m]? = some e29 := (by simpa using he29); rw [hy] at this; simpa using this)
  all_goals first|refine AtT.zh ?_|refine AtT.ze ?_|(first | refine AtT.zk zY ?_ | with_reducible refine AtT.zl zY ?_ | refine AtT.zn zY ?_)
  all_goals first|refine AtT.zh ?_|refine AtT.ze ?_|(first | refine AtT.zm tk3 ?_ | refine AtT.zo tk3 ?_)
  all_goals first|refine AtT.zh ?_|refine AtT.ze ?_|(refine AtT.kleq ?_)
  all_goals (refine AtT.zx ?_)
  all_goals refine AtT.done ?_
  all_goals (refine At.nrm ?_)
  all_goals (exact At.jP () rfl ⟨rfl, rfl, rfl, rfl, trivial⟩ Pt.zI)
 rintro _ V1 ks' O' rfl hk hO hl4
 subst hk hO
 refine At.qb rfl (fun h2 => ?_) (fun h2 => ?_)
 ·refine At.nrm ?_
  refine At.zi (.q 0 .done) ?_
  refine AtT.zg ?_
  refine AtT.done ?_
  refine At.nrm ?_
  exact At.qh rfl (.tmp rfl) (by rw [hbad 16 (by unfold rcE; rw [if_neg (fun h => h h1), if_pos h2]) (by decide)])
 refine At.nrm ?_
 by_cases h3 : (x.1.ps.length : Int) < 1
 ·refine At.zi (.q 0 (.q 1 (.q 2 (.q 3 (.q 4 (.q 5 (.q 6 (.q 7 (.q 8 (.q 9 .done)))))))))) ?_
  first | refine AtT.zk zK ?_ | with_reducible refine AtT.zl zK ?_ | refine AtT.zn zK ?_
  first | refine AtT.zm qM ?_ | refine AtT.zo qM ?_
  first | refine AtT.zR Tryz.underlying66 ?_ | refine AtT.zQ Tryz.underlying66 ?_
  refine AtT.qp ?_
  refine AtT.qa (d := 37) rfl (h3) ?_
  refine AtT.zf ?_
  all_goals (first | refine AtT.kL 38 ?_ | refine AtT.zw (d := 38) rfl (fun hg38 => ?_) (fun hg38 => ?_) | refine AtT.zu (d := 38) rfl (fun hg38 => ?_) (fun hg38 => ?_))
  all_goals first|refine AtT.zh ?_|refine AtT.ze ?_|(first | refine AtT.zk zK ?_ | with_reducible refine AtT.zl zK ?_ | refine AtT.zn zK ?_)
  all_goals first|refine AtT.zh ?_|refine AtT.ze ?_|(first | refine AtT.zm qM ?_ | refine AtT.zo qM ?_)
  all_goals first|refine AtT.zh ?_|refine AtT.ze ?_|(first | refine AtT.zR Tryz.underlying66 ?_ | refine AtT.zQ Tryz.underlying66 ?_)
  all_goals first|refine AtT.zh ?_|refine AtT.ze ?_|(refine AtT.qI ?_)
  all_goals (refine AtT.zx ?_)
  all_goals refine AtT.done ?_
  all_goals (refine At.nrm ?_)
  refine At.zU rfl rfl ?_
  refine At.nrm ?_
  refine At.zi (.q 0 .done) ?_
  refine AtT.zg ?_
  refine AtT.done ?_
  refine At.nrm ?_
  exact At.qh rfl (.tmp rfl) (by rw [hbad 6 (by unfold rcE; rw [if_neg (fun h => h h1), if_neg h2, if_pos (by omega)]) (by decide)])
 by_cases h4 : 3 < (x.1.ps.length : Int)
 ·refine At.zi (.q 0 (.q 1 (.q 2 (.q 3 (.q 4 (.q 5 (.q 6 (.q 7 (.q 8 (.q 9 .done)))))))))) ?_
  first | refine AtT.zk zK ?_ | with_reducible refine AtT.zl zK ?_ | refine AtT.zn zK ?_
  first | refine AtT.zm qM ?_ | refine AtT.zo qM ?_
  first | refine AtT.zR Tryz.underlying66 ?_ | refine AtT.zQ Tryz.underlying66 ?_
  refine AtT.qp ?_
  refine AtT.zS (d := 37) rfl (h3) ?_
  refine AtT.zf ?_
  all_goals (first | refine AtT.kL 38 ?_ | refine AtT.zw (d := 38) rfl (fun hg38 => ?_) (fun hg38 => ?_) | refine AtT.zu (d := 38) rfl (fun hg38 => ?_) (fun hg38 => ?_))
  all_goals first|refine AtT.zh ?_|refine AtT.ze ?_|(first | refine AtT.zk zK ?_ | with_reducible refine AtT.zl zK ?_ | refine AtT.zn zK ?_)
  all_goals first|refine AtT.zh ?_|refine AtT.ze ?_|(first | refine AtT.zm qM ?_ | refine AtT.zo qM ?_)
  all_goals first|refine AtT.zh ?_|refine AtT.ze ?_|(first | refine AtT.zR Tryz.underlying66 ?_ | refine AtT.zQ Tryz.underlying66 ?_)
  all_goals first|refine AtT.zh ?_|refine AtT.ze ?_|(refine AtT.qI ?_)
  all_goals (refine AtT.qa (d := 42) rfl (h4) ?_)
  all_goals (refine AtT.zx ?_)
  all_goals refine AtT.done ?_
  all_goals (refine At.nrm ?_)
  refine At.zU rfl rfl ?_
  refine At.nrm ?_
  refine At.zi (.q 0 .done) ?_
  refine AtT.zg ?_
  refine AtT.done ?_
  refine At.nrm ?_
  exact At.qh rfl (.tmp rfl) (by rw [hbad 6 (by unfold rcE; rw [if_neg (fun h => h h1), if_neg h2, if_pos (by omega)]) (by decide)])
 refine At.zi (.q 0 (.q 1 (.q 2 (.q 3 (.q 4 (.q 5 (.q 6 (.q 7 (.q 8 (.q 9 .done)))))))))) ?_
 first | refine AtT.zk zK ?_ | with_reducible refine AtT.zl zK ?_ | refine AtT.zn zK ?_
 first | refine AtT.zm qM ?_ | refine AtT.zo qM ?_
 first | refine AtT.zR Tryz.underlying66 ?_ | refine AtT.zQ Tryz.underlying66 ?_
 refine AtT.qp ?_
 refine AtT.zS (d := 37) rfl (h3) ?_
 refine AtT.zf ?_
 all_goals (first | refine AtT.kL 38 ?_ | refine AtT.zw (d := 38) rfl (fun hg38 => ?_) (fun hg38 => ?_) | refine AtT.zu (d := 38) rfl (fun hg38 => ?_) (fun hg38 => ?_))
 all_goals first|refine AtT.zh ?_|refine AtT.ze ?_|(first | refine AtT.zk zK ?_ | with_reducible refine AtT.zl zK ?_ | refine AtT.zn zK ?_)
 all_goals first|refine AtT.zh ?_|refine AtT.ze ?_|(first | refine AtT.zm qM ?_ | refine AtT.zo qM ?_)
 all_goals first|refine AtT.zh ?_|refine AtT.ze ?_|(first | refine AtT.zR Tryz.underlying66 ?_ | refine AtT.zQ Tryz.underlying66 ?_)
 all_goals first|refine AtT.zh ?_|refine AtT.ze ?_|(refine AtT.qI ?_)
 all_goals (refine AtT.zS (d := 42) rfl (h4) ?_)
 all_goals (refine AtT.zx ?_)
 all_goals refine AtT.done ?_
 all_goals (refine At.nrm ?_)
 refine At.zX rfl rfl ?_
 have hrc : rcE (lastR rs k) x.1 = partsE x.1.g (-1) x.1.ps := by unfold rcE; rw [if_neg (fun h => h h1), if_neg h2, if_neg (by omega)]
 refine At.nrm ?_
 refine At.zi (.q 0 .done) ?_
 refine AtT.zg ?_
 refine AtT.done ?_
 refine At.nrm ?_
 refine At.lp (ι := Nat) (KS := fun j => [(0, .slice aq qs.length cq), (3, iv k), (4, .pointer (some ⟨b4, 0, none⟩)), (5, iv j)]) (OS := fun _ => [.blk b4 (LC (rce x) 80)]) (VS := fun j V'' => V'' = V1 ∧ j ≤ x.1.ps.length ∧ partsE x.1.g (-1) x.1.ps = partsE x.1.g (lastP x.1.ps j) (x.1.ps.drop j)) (μ := fun j => x.1.ps.length - j) 0 ?_ ?_ ?_ ?_
 ·exact ⟨rfl, rfl, rfl, rfl, trivial⟩
 ·exact Pt.zI
 ·exact ⟨rfl, Nat.zero_le _, rfl⟩
 rintro j V2 ks' O' ⟨rfl, hjl, hpe⟩ hk hO hl3
 subst hk hO
 refine At.nrm ?_
 refine At.zi (.q 0 (.q 1 (.q 2 (.q 3 (.q 4 .done))))) ?_
 refine AtT.zf ?_
 first | refine AtT.zk zK ?_ | with_reducible refine AtT.zl zK ?_ | refine AtT.zn zK ?_
 first | refine AtT.zm qM ?_ | refine AtT.zo qM ?_
 first | refine AtT.zR Tryz.underlying66 ?_ | refine AtT.zQ Tryz.underlying66 ?_
 refine AtT.qp ?_
 refine AtT.done ?_
 refine At.nrm ?_
 refine At.qb rfl (fun hp2 => ?_) (fun hp2 => ?_)
 rotate_left
 ·obtain rfl : j = x.1.ps.length := by omega
  rw [List.drop_length] at hpe
  have h0 : rcE (lastR rs k) x.1 = 0 := by rw [hrc, hpe]; rfl
  rw [if_neg (by rw [h0]; simp)] at hcr
  refine At.nrm ?_
  refine At.zi (.q 0 (.q 1 (.q 2 .done))) ?_
  refine AtT.zf ?_
  first | refine AtT.qG ?_ | refine AtT.qd ?_
  refine AtT.zg ?_
  refine AtT.done ?_
  refine At.nrm ?_
  refine At.round (k + 1) ?_ ?_ ?_ ?_
  ·show qs.length - (k + 1) < qs.length - k; omega
  ·exact ⟨rfl, by omega, by rw [lastR_at hbx]; exact hcr⟩
  ·exact ⟨rfl, ivs (by omega), trivial⟩
  ·exact Pt.zI
 obtain ⟨p, hpx⟩ : ∃ p, x.1.ps[j]? = some p := ⟨_, List.getElem?_eq_getElem (by omega)⟩
 rw [drop_at hpx] at hpe
 simp only [partsE] at hpe
 have hbad2 : ∀ c, partE x.1.g (lastP x.1.ps j) p = c → c ≠ 0 → crE rs = c := fun c h0 h1 => by
  rw [if_pos (by rw [h0]; exact h1), h0] at hpe
  exact hbad c (hrc.trans hpe) h1
 refine At.nrm ?_
 refine At.zi (.q 0 (.q 1 (.q 2 (.q 3 (.q 4 (.n false 5 (.n true 6 .done))))))) ?_
 first | refine AtT.zk zK ?_ | with_reducible refine AtT.zl zK ?_ | refine AtT.zn zK ?_
 first | refine AtT.zm qM ?_ | refine AtT.zo qM ?_
 refine AtT.zf ?_
 refine AtT.qm Tryz.underlying66 qZ ?_
 intro p54 e54 he54 hc54
 obtain rfl : p = e54 := by have : x.1.ps[j]? = some e54 := (by simpa using he54); rw [hpx] at this; simpa using this
 first | refine AtT.zF qZ ?_ | refine AtT.zJ qZ ?_ | refine AtT.zD qZ ?_
 refine AtT.zT z69 ?_
 intro b6
 refine AtT.zy qZ ?_
 refine AtT.done ?_
 refine At.nrm ?_
 refine At.nrm ?_
 by_cases p1 : 0 ≤ p.t ∧ p.t ≤ 7
 rotate_left
 ·refine At.zi (.q 0 (.q 1 (.n false 2 (.q 3 (.q 4 (.q 5 (.q 6 (.q 7 (.q 8 (.q 9 (.q 10 (.q 11 (.q 12 (.q 13 .done)))))))))))))) ?_
  first | refine AtT.zk zZ ?_ | with_reducible refine AtT.zl zZ ?_ | refine AtT.zn zZ ?_
  first | refine AtT.zm tk3 ?_ | refine AtT.zo tk3 ?_
  refine AtT.zG rfl rfl ok59 (jI p.t _) ?_
  rintro _ rfl
  refine AtT.zS (d := 58) rfl (p1) ?_
  refine AtT.qC ?_
  refine AtT.qJ (d := 59) rfl ((show (!false) = true from rfl)) ?_
  refine AtT.zf ?_
  all_goals (first | refine AtT.kL 60 ?_ | refine AtT.zw (d := 60) rfl (fun hg60 => ?_) (fun hg60 => ?_) | refine AtT.zu (d := 60) rfl (fun hg60 => ?_) (fun hg60 => ?_))
  all_goals first|refine AtT.zh ?_|refine AtT.ze ?_|(first | refine AtT.zk qi ?_ | with_reducible refine AtT.zl qi ?_ | refine AtT.zn qi ?_)
  all_goals first|refine AtT.zh ?_|refine AtT.ze ?_|(first | refine AtT.zm tk2 ?_ | refine AtT.zo tk2 ?_)
  all_goals first|refine AtT.zh ?_|refine AtT.ze ?_|(refine AtT.qp ?_)
  all_goals (refine AtT.zx ?_)
  all_goals (refine AtT.zf ?_)
  all_goals (first | refine AtT.kL 65 ?_ | refine AtT.zw (d := 65) rfl (fun hg65 => ?_) (fun hg65 => ?_) | refine AtT.zu (d := 65) rfl (fun hg65 => ?_) (fun hg65 => ?_))
  all_goals first|refine AtT.zh ?_|refine AtT.ze ?_|(first | refine AtT.zk qi ?_ | with_reducible refine AtT.zl qi ?_ | refine AtT.zn qi ?_)
  all_goals first|refine AtT.zh ?_|refine AtT.ze ?_|(first | refine AtT.zm tk2 ?_ | refine AtT.zo tk2 ?_)
  all_goals first|refine AtT.zh ?_|refine AtT.ze ?_|(refine AtT.qI ?_)
  all_goals (refine AtT.zx ?_)
  all_goals refine AtT.done ?_
  all_goals (refine At.nrm ?_)
  all_goals refine At.zU rfl rfl ?_
  refine At.nrm ?_
  refine At.zi (.q 0 .done) ?_
  refine AtT.zg ?_
  refine AtT.done ?_
  refine At.nrm ?_
  exact At.qh rfl (.tmp rfl) (by rw [hbad2 3 (by unfold partE; rw [if_pos (.inl p1)]) (by decide)])
 by_cases p2 : p.n < 1
 ·refine At.zi (.q 0 (.q 1 (.n false 2 (.q 3 (.q 4 (.q 5 (.q 6 (.q 7 (.q 8 (.q 9 (.q 10 (.q 11 (.q 12 (.q 13 .done)))))))))))))) ?_
  first | refine AtT.zk zZ ?_ | with_reducible refine AtT.zl zZ ?_ | refine AtT.zn zZ ?_
  first | refine AtT.zm tk3 ?_ | refine AtT.zo tk3 ?_
  refine AtT.zG rfl rfl ok59 (jI p.t _) ?_
  rintro _ rfl
  refine AtT.qa (d := 58) rfl (p1) ?_
  refine AtT.qC ?_
  refine AtT.qJ (d := 59) rfl ((show (!true) = false from rfl)) ?_
  refine AtT.zf ?_
  all_goals (first | refine AtT.kL 60 ?_ | refine AtT.zw (d := 60) rfl (fun hg60 => ?_) (fun hg60 => ?_) | refine AtT.zu (d := 60) rfl (fun hg60 => ?_) (fun hg60 => ?_))
  all_goals first|refine AtT.zh ?_|refine AtT.ze ?_|(first | refine AtT.zk qi ?_ | with_reducible refine AtT.zl qi ?_ | refine AtT.zn qi ?_)
  all_goals first|refine AtT.zh ?_|refine AtT.ze ?_|(first | refine AtT.zm tk2 ?_ | refine AtT.zo tk2 ?_)
  all_goals first|refine AtT.zh ?_|refine AtT.ze ?_|(refine AtT.qp ?_)
  all_goals (refine AtT.qa (d := 63) rfl (p2) ?_)
  all_goals (refine AtT.zx ?_)
  all_goals (refine AtT.zf ?_)
  all_goals (first | refine AtT.kL 65 ?_ | refine AtT.zw (d := 65) rfl (fun hg65 => ?_) (fun hg65 => ?_) | refine AtT.zu (d := 65) rfl (fun hg65 => ?_) (fun hg65 => ?_))
  all_goals first|refine AtT.zh ?_|refine AtT.ze ?_|(first | refine AtT.zk qi ?_ | with_reducible refine AtT.zl qi ?_ | refine AtT.zn qi ?_)
  all_goals first|refine AtT.zh ?_|refine AtT.ze ?_|(first | refine AtT.zm tk2 ?_ | refine AtT.zo tk2 ?_)
  all_goals first|refine AtT.zh ?_|refine AtT.ze ?_|(refine AtT.qI ?_)
  all_goals (refine AtT.zx ?_)
  all_goals refine AtT.done ?_
  all_goals (refine At.nrm ?_)
  all_goals refine At.zU rfl rfl ?_
  refine At.nrm ?_
  refine At.zi (.q 0 .done) ?_
  refine AtT.zg ?_
  refine AtT.done ?_
  refine At.nrm ?_
  exact At.qh rfl (.tmp rfl) (by rw [hbad2 3 (by unfold partE; rw [if_pos (.inr (.inl p2))]) (by decide)])
 by_cases p3 : 9 < p.n
 ·refine At.zi (.q 0 (.q 1 (.n false 2 (.q 3 (.q 4 (.q 5 (.q 6 (.q 7 (.q 8 (.q 9 (.q 10 (.q 11 (.q 12 (.q 13 .done)))))))))))))) ?_
  first | refine AtT.zk zZ ?_ | with_reducible refine AtT.zl zZ ?_ | refine AtT.zn zZ ?_
  first | refine AtT.zm tk3 ?_ | refine AtT.zo tk3 ?_
  refine AtT.zG rfl rfl ok59 (jI p.t _) ?_
  rintro _ rfl
  refine AtT.qa (d := 58) rfl (p1) ?_
  refine AtT.qC ?_
  refine AtT.qJ (d := 59) rfl ((show (!true) = false from rfl)) ?_
  refine AtT.zf ?_
  all_goals (first | refine AtT.kL 60 ?_ | refine AtT.zw (d := 60) rfl (fun hg60 => ?_) (fun hg60 => ?_) | refine AtT.zu (d := 60) rfl (fun hg60 => ?_) (fun hg60 => ?_))
  all_goals first|refine AtT.zh ?_|refine AtT.ze ?_|(first | refine AtT.zk qi ?_ | with_reducible refine AtT.zl qi ?_ | refine AtT.zn qi ?_)
  all_goals first|refine AtT.zh ?_|refine AtT.ze ?_|(first | refine AtT.zm tk2 ?_ | refine AtT.zo tk2 ?_)
  all_goals first|refine AtT.zh ?_|refine AtT.ze ?_|(refine AtT.qp ?_)
  all_goals (refine AtT.zS (d := 63) rfl (p2) ?_)
  all_goals (refine AtT.zx ?_)
  all_goals (refine AtT.zf ?_)
  all_goals (first | refine AtT.kL 65 ?_ | refine AtT.zw (d := 65) rfl (fun hg65 => ?_) (fun hg65 => ?_) | refine AtT.zu (d := 65) rfl (fun hg65 => ?_) (fun hg65 => ?_))
  all_goals first|refine AtT.zh ?_|refine AtT.ze ?_|(first | refine AtT.zk qi ?_ | with_reducible refine AtT.zl qi ?_ | refine AtT.zn qi ?_)
  all_goals first|refine AtT.zh ?_|refine AtT.ze ?_|(first | refine AtT.zm tk2 ?_ | refine AtT.zo tk2 ?_)
  all_goals first|refine AtT.zh ?_|refine AtT.ze ?_|(refine AtT.qI ?_)
  all_goals (refine AtT.qa (d := 68) rfl (p3) ?_)
  all_goals (refine AtT.zx ?_)
  all_goals refine AtT.done ?_
  all_goals (refine At.nrm ?_)
  all_goals refine At.zU rfl rfl ?_
  refine At.nrm ?_
  refine At.zi (.q 0 .done) ?_
  refine AtT.zg ?_
  refine AtT.done ?_
  refine At.nrm ?_
  exact At.qh rfl (.tmp rfl) (by rw [hbad2 3 (by unfold partE; rw [if_pos (.inr (.inr p3))]) (by decide)])
 refine At.zi (.q 0 (.q 1 (.n false 2 (.q 3 (.q 4 (.q 5 (.q 6 (.q 7 (.q 8 (.q 9 (.q 10 (.q 11 (.q 12 (.q 13 .done)))))))))))))) ?_
 first | refine AtT.zk zZ ?_ | with_reducible refine AtT.zl zZ ?_ | refine AtT.zn zZ ?_
 first | refine AtT.zm tk3 ?_ | refine AtT.zo tk3 ?_
 refine AtT.zG rfl rfl ok59 (jI p.t _) ?_
 rintro _ rfl
 refine AtT.qa (d := 58) rfl (p1) ?_
 refine AtT.qC ?_
 refine AtT.qJ (d := 59) rfl ((show (!true) = false from rfl)) ?_
 refine AtT.zf ?_
 all_goals (first | refine AtT.kL 60 ?_ | refine AtT.zw (d := 60) rfl (fun hg60 => ?_) (fun hg60 => ?_) | refine AtT.zu (d := 60) rfl (fun hg60 => ?_) (fun hg60 => ?_))
 all_goals first|refine AtT.zh ?_|refine AtT.ze ?_|(first | refine AtT.zk qi ?_ | with_reducible refine AtT.zl qi ?_ | refine AtT.zn qi ?_)
 all_goals first|refine AtT.zh ?_|refine AtT.ze ?_|(first | refine AtT.zm tk2 ?_ | refine AtT.zo tk2 ?_)
 all_goals first|refine AtT.zh ?_|refine AtT.ze ?_|(refine AtT.qp ?_)
 all_goals (refine AtT.zS (d := 63) rfl (p2) ?_)
 all_goals (refine AtT.zx ?_)
 all_goals (refine AtT.zf ?_)
 all_goals (first | refine AtT.kL 65 ?_ | refine AtT.zw (d := 65) rfl (fun hg65 => ?_) (fun hg65 => ?_) | refine AtT.zu (d := 65) rfl (fun hg65 => ?_) (fun hg65 => ?_))
 all_goals first|refine AtT.zh ?_|refine AtT.ze ?_|(first | refine AtT.zk qi ?_ | with_reducible refine AtT.zl qi ?_ | refine AtT.zn qi ?_)
 all_goals first|refine AtT.zh ?_|refine AtT.ze ?_|(first | refine AtT.zm tk2 ?_ | refine AtT.zo tk2 ?_)
 all_goals first|refine AtT.zh ?_|refine AtT.ze ?_|(refine AtT.qI ?_)
 all_goals (refine AtT.zS (d := 68) rfl (p3) ?_)
 all_goals (refine AtT.zx ?_)
 all_goals refine AtT.done ?_
 all_goals (refine At.nrm ?_)
 refine At.zX rfl rfl ?_
 have hpn : ¬ (¬ (0 ≤ p.t ∧ p.t ≤ 7) ∨ p.n < 1 ∨ 9 < p.n) := by omega
 refine At.nrmB ?_
 refine At.cutG (ι := Unit) (fun _ => [(0, .slice aq qs.length cq), (3, iv k), (4, .pointer (some ⟨b4, 0, none⟩)), (5, iv j), (6, .pointer (some ⟨b6, 0, none⟩)), (90, .bool (decide (¬ (lastP x.1.ps j + 1 ≤ p.t ∧ p.t ≤ x.1.g - 1))))]) (fun _ => [.blk b4 (LC (rce x) 80), .blk b6 (LC (pte p) 69)]) (fun _ V'' => V'' = V2) ?_ ?_
 ·by_cases c1 : p.t ≥ x.1.g
  ·rw [show decide (¬ (lastP x.1.ps j + 1 ≤ p.t ∧ p.t ≤ x.1.g - 1)) = true from decide_eq_true (by omega)]
   refine At.draw (.q 0 (.q 1 (.q 2 (.q 3 (.q 4 (.q 5 (.q 6 (.q 7 (.q 8 (.q 9 (.q 10 (.q 11 (.q 12 (.q 13 (.q 14 (.q 15 (.q 16 (.q 17 (.q 18 (.q 19 (.q 20 .done))))))))))))))))))))) ffm (by kernel_rfl) ?_
   first | refine AtT.zk zZ ?_ | with_reducible refine AtT.zl zZ ?_ | refine AtT.zn zZ ?_
   first | refine AtT.zm tk3 ?_ | refine AtT.zo tk3 ?_
   first | refine AtT.zk zY ?_ | with_reducible refine AtT.zl zY ?_ | refine AtT.zn zY ?_
   first | refine AtT.zm tk3 ?_ | refine AtT.zo tk3 ?_
   refine AtT.kgeq ?_
   refine AtT.qa (d := 74) rfl (c1) ?_
   refine AtT.zf ?_
   all_goals (first | refine AtT.kL 75 ?_ | refine AtT.zw (d := 75) rfl (fun hg75 => ?_) (fun hg75 => ?_) | refine AtT.zu (d := 75) rfl (fun hg75 => ?_) (fun hg75 => ?_))
   all_goals first|refine AtT.zh ?_|refine AtT.ze ?_|(refine AtT.zf ?_)
   all_goals first|refine AtT.zh ?_|refine AtT.ze ?_|(refine AtT.qI ?_)
   all_goals first|refine AtT.zh ?_|refine AtT.ze ?_|(refine AtT.zf ?_)
   all_goals (first | refine AtT.kL 78 ?_ | refine AtT.zw (d := 78) rfl (fun hg78 => ?_) (fun hg78 => ?_) | refine AtT.zu (d := 78) rfl (fun hg78 => ?_) (fun hg78 => ?_))
   all_goals first|refine AtT.zh ?_|refine AtT.ze ?_|(first | refine AtT.zk zZ ?_ | with_reducible refine AtT.zl zZ ?_ | refine AtT.zn zZ ?_)
   all_goals first|refine AtT.zh ?_|refine AtT.ze ?_|(first | refine AtT.zm tk3 ?_ | refine AtT.zo tk3 ?_)
   all_goals first|refine AtT.zh ?_|refine AtT.ze ?_|(first | refine AtT.zk zK ?_ | with_reducible refine AtT.zl zK ?_ | refine AtT.zn zK ?_)
   all_goals first|refine AtT.zh ?_|refine AtT.ze ?_|(first | refine AtT.zm qM ?_ | refine AtT.zo qM ?_)
   all_goals first|refine AtT.zh ?_|refine AtT.ze ?_|(refine AtT.zf ?_)
   all_goals first|refine AtT.zh ?_|refine AtT.ze ?_|(first | refine AtT.ji ?_ | refine AtT.jh ?_)
   all_goals first|refine AtT.zh ?_|refine AtT.ze ?_|(refine AtT.qm Tryz.underlying66 qZ ?_) ; (intro p85 e85 he85 hc85)
   all_goals first|refine AtT.zh ?_|refine AtT.ze ?_|(first | refine AtT.zk zZ ?_ | with_reducible refine AtT.zl zZ ?_ | refine AtT.zn zZ ?_)
   all_goals first|refine AtT.zh ?_|refine AtT.ze ?_|(first | refine AtT.zm tk3 ?_ | refine AtT.zo tk3 ?_)
   all_goals first|refine AtT.zh ?_|refine AtT.ze ?_|(refine AtT.kleq ?_)
   all_goals first|refine AtT.zh ?_|refine AtT.ze ?_|(refine AtT.zx ?_)
   all_goals (refine AtT.zx ?_)
   all_goals refine AtT.done ?_
   all_goals (refine At.nrm ?_)
   all_goals (exact At.jP () rfl ⟨rfl, rfl, rfl, rfl, rfl, rfl, trivial⟩ Pt.zI)
  by_cases hj0 : j = 0
  ·subst hj0
   rw [show decide (¬ (lastP x.1.ps 0 + 1 ≤ p.t ∧ p.t ≤ x.1.g - 1)) = false from decide_eq_false (by simp [lastP]; omega)]
   refine At.draw (.q 0 (.q 1 (.q 2 (.q 3 (.q 4 (.q 5 (.q 6 (.q 7 (.q 8 (.q 9 (.q 10 (.q 11 (.q 12 (.q 13 (.q 14 (.q 15 (.q 16 (.q 17 (.q 18 (.q 19 (.q 20 .done))))))))))))))))))))) ffm (by kernel_rfl) ?_
   first | refine AtT.zk zZ ?_ | with_reducible refine AtT.zl zZ ?_ | refine AtT.zn zZ ?_
   first | refine AtT.zm tk3 ?_ | refine AtT.zo tk3 ?_
   first | refine AtT.zk zY ?_ | with_reducible refine AtT.zl zY ?_ | refine AtT.zn zY ?_
   first | refine AtT.zm tk3 ?_ | refine AtT.zo tk3 ?_
   refine AtT.kgeq ?_
   refine AtT.zS (d := 74) rfl (c1) ?_
   refine AtT.zf ?_
   all_goals (first | refine AtT.kL 75 ?_ | refine AtT.zw (d := 75) rfl (fun hg75 => ?_) (fun hg75 => ?_) | refine AtT.zu (d := 75) rfl (fun hg75 => ?_) (fun hg75 => ?_))
   all_goals first|refine AtT.zh ?_|refine AtT.ze ?_|(refine AtT.zf ?_)
   all_goals first|refine AtT.zh ?_|refine AtT.ze ?_|(refine AtT.qI ?_)
   all_goals (refine AtT.zS (d := 77) rfl ((by omega)) ?_)
   all_goals first|refine AtT.zh ?_|refine AtT.ze ?_|(refine AtT.zf ?_)
   all_goals (first | refine AtT.kL 78 ?_ | refine AtT.zw (d := 78) rfl (fun hg78 => ?_) (fun hg78 => ?_) | refine AtT.zu (d := 78) rfl (fun hg78 => ?_) (fun hg78 => ?_))
   all_goals first|refine AtT.zh ?_|refine AtT.ze ?_|(first | refine AtT.zk zZ ?_ | with_reducible refine AtT.zl zZ ?_ | refine AtT.zn zZ ?_)
   all_goals first|refine AtT.zh ?_|refine AtT.ze ?_|(first | refine AtT.zm tk3 ?_ | refine AtT.zo tk3 ?_)
   all_goals first|refine AtT.zh ?_|refine AtT.ze ?_|(first | refine AtT.zk zK ?_ | with_reducible refine AtT.zl zK ?_ | refine AtT.zn zK ?_)
   all_goals first|refine AtT.zh ?_|refine AtT.ze ?_|(first | refine AtT.zm qM ?_ | refine AtT.zo qM ?_)
   all_goals first|refine AtT.zh ?_|refine AtT.ze ?_|(refine AtT.zf ?_)
   all_goals first|refine AtT.zh ?_|refine AtT.ze ?_|(first | refine AtT.ji ?_ | refine AtT.jh ?_)
   all_goals first|refine AtT.zh ?_|refine AtT.ze ?_|(refine AtT.qm Tryz.underlying66 qZ ?_) ; (intro p85 e85 he85 hc85)
   all_goals first|refine AtT.zh ?_|refine AtT.ze ?_|(first | refine AtT.zk zZ ?_ | with_reducible refine AtT.zl zZ ?_ | refine AtT.zn zZ ?_)
   all_goals first|refine AtT.zh ?_|refine AtT.ze ?_|(first | refine AtT.zm tk3 ?_ | refine AtT.zo tk3 ?_)
   all_goals first|refine AtT.zh ?_|refine AtT.ze ?_|(refine AtT.kleq ?_)
   all_goals first|refine AtT.zh ?_|refine AtT.ze ?_|(refine AtT.zx ?_)
   all_goals (refine AtT.zx ?_)
   all_goals refine AtT.done ?_
   all_goals (refine At.nrm ?_)
   all_goals (exact At.jP () rfl ⟨rfl, rfl, rfl, rfl, rfl, rfl, trivial⟩ Pt.zI)
  obtain ⟨m, rfl⟩ : ∃ m, j = m + 1 := ⟨j - 1, by omega⟩
  obtain ⟨q, hq'⟩ : ∃ y, x.1.ps[m]? = some y := ⟨_, List.getElem?_eq_getElem (by omega)⟩
  have hmm : ((m + 1 : Nat) : Int) - 1 = (m : Int) := by omega
  have hde : decide (¬ (lastP x.1.ps (m + 1) + 1 ≤ p.t ∧ p.t ≤ x.1.g - 1)) = decide (p.t ≤ q.t) := by rw [lastP_at hq']; exact decide_eq_decide.2 (by omega)
  rw [hde]
  refine At.draw (.q 0 (.q 1 (.q 2 (.q 3 (.q 4 (.q 5 (.q 6 (.q 7 (.q 8 (.q 9 (.q 10 (.q 11 (.q 12 (.q 13 (.q 14 (.q 15 (.q 16 (.q 17 (.q 18 (.q 19 (.q 20 .done))))))))))))))))))))) ffm (by kernel_rfl) ?_
  first | refine AtT.zk zZ ?_ | with_reducible refine AtT.zl zZ ?_ | refine AtT.zn zZ ?_
  first | refine AtT.zm tk3 ?_ | refine AtT.zo tk3 ?_
  first | refine AtT.zk zY ?_ | with_reducible refine AtT.zl zY ?_ | refine AtT.zn zY ?_
  first | refine AtT.zm tk3 ?_ | refine AtT.zo tk3 ?_
  refine AtT.kgeq ?_
  refine AtT.zS (d := 74) rfl (c1) ?_
  refine AtT.zf ?_
  all_goals (first | refine AtT.kL 75 ?_ | refine AtT.zw (d := 75) rfl (fun hg75 => ?_) (fun hg75 => ?_) | refine AtT.zu (d := 75) rfl (fun hg75 => ?_) (fun hg75 => ?_))
  all_goals first|refine AtT.zh ?_|refine AtT.ze ?_|(refine AtT.zf ?_)
  all_goals first|refine AtT.zh ?_|refine AtT.ze ?_|(refine AtT.qI ?_)
  all_goals (refine AtT.qa (d := 77) rfl ((by omega)) ?_)
  all_goals first|refine AtT.zh ?_|refine AtT.ze ?_|(refine AtT.zf ?_)
  all_goals (first | refine AtT.kL 78 ?_ | refine AtT.zw (d := 78) rfl (fun hg78 => ?_) (fun hg78 => ?_) | refine AtT.zu (d := 78) rfl (fun hg78 => ?_) (fun hg78 => ?_))
  all_goals first|refine AtT.zh ?_|refine AtT.ze ?_|(first | refine AtT.zk zZ ?_ | with_reducible refine AtT.zl zZ ?_ | refine AtT.zn zZ ?_)
  all_goals first|refine AtT.zh ?_|refine AtT.ze ?_|(first | refine AtT.zm tk3 ?_ | refine AtT.zo tk3 ?_)
  all_goals first|refine AtT.zh ?_|refine AtT.ze ?_|(first | refine AtT.zk zK ?_ | with_reducible refine AtT.zl zK ?_ | refine AtT.zn zK ?_)
  all_goals first|refine AtT.zh ?_|refine AtT.ze ?_|(first | refine AtT.zm qM ?_ | refine AtT.zo qM ?_)
  all_goals first|refine AtT.zh ?_|refine AtT.ze ?_|(refine AtT.zf ?_)
  all_goals first|refine AtT.zh ?_|refine AtT.ze ?_|(first | refine AtT.ji ?_ | refine AtT.jh ?_)
  all_goals (rw [hmm])
  all_goals first|refine AtT.zh ?_|refine AtT.ze ?_|(refine AtT.qm Tryz.underlying66 qZ ?_) ; (intro p85 e85 he85 hc85)
  all_goals (obtain rfl : q = e85 := by have : x.1.ps[m]? = some e85 := (by simpa using he85); rw [hq'] at this; simpa using this)
  all_goals first|refine AtT.zh ?_|refine AtT.ze ?_|(first | refine AtT.zk zZ ?_ | with_reducible refine AtT.zl zZ ?_ | refine AtT.zn zZ ?_)
  all_goals first|refine AtT.zh ?_|refine AtT.ze ?_|(first | refine AtT.zm tk3 ?_ | refine AtT.zo tk3 ?_)
  all_goals first|refine AtT.zh ?_|refine AtT.ze ?_|(refine AtT.kleq ?_)
  all_goals first|refine AtT.zh ?_|refine AtT.ze ?_|(refine AtT.zx ?_)
  all_goals (refine AtT.zx ?_)
  all_goals refine AtT.done ?_
  all_goals (refine At.nrm ?_)
  all_goals (exact At.jP () rfl ⟨rfl, rfl, rfl, rfl, rfl, rfl, trivial⟩ Pt.zI)
 rintro _ V3 ks' O' rfl hk hO hl4
 subst hk hO
 refine At.qb rfl (fun p4 => ?_) (fun p4 => ?_)
 ·refine At.nrm ?_
  refine At.zi (.q 0 .done) ?_
  refine AtT.zg ?_
  refine AtT.done ?_
  refine At.nrm ?_
  exact At.qh rfl (.tmp rfl) (by rw [hbad2 16 (by unfold partE; rw [if_neg hpn, if_pos p4]) (by decide)])
 have hp0 : partE x.1.g (lastP x.1.ps j) p = 0 := by unfold partE; rw [if_neg hpn, if_neg p4]
 rw [if_neg (fun h => h hp0)] at hpe
 refine At.nrm ?_
 refine At.zi (.q 0 (.q 1 (.q 2 .done))) ?_
 refine AtT.zf ?_
 first | refine AtT.qG ?_ | refine AtT.qd ?_
 refine AtT.zg ?_
 refine AtT.done ?_
 refine At.nrm ?_
 refine At.round (j + 1) ?_ ?_ ?_ ?_
 ·show x.1.ps.length - (j + 1) < x.1.ps.length - j; omega
 ·exact ⟨rfl, by omega, by rw [lastP_at hpx]; exact hpe⟩
 ·exact ⟨rfl, rfl, rfl, ivs (by omega), trivial⟩
 ·exact Pt.zI
end Go.Proofs.YtpoignmclfdgpaaGreatDoor
set_option linter.unusedVariables false
namespace Go.Proofs.YtpoignmclfdgpaaGreatDoor
open Go.Lw Go.Gl Go.Bk Go.RowKit
theorem rentE_f (rs : List Rc) (e : En) (index last : Int) (V : View) (v : Value) (hv : RsV V v rs) : Fnc Tryz.prog 66 [v, env e, iv index, iv last] V fun r _ => r = iv (kD rs e index last) := by
 refine ql Tryz.func66 rfl Tryz.ntmps66 (Nat.le_of_ble_eq_true rfl) ?_
 intro w0 hw0
 refine At.nrm ?_
 refine At.zi (.n false 0 (.q 1 .done)) ?_
 refine AtT.jE ?_
 intro b5
 refine AtT.zg ?_
 refine AtT.done ?_
 refine At.nrm ?_
 refine At.nrm ?_
 by_cases d1 : e.d < 0
 ·refine At.zi (.q 0 (.q 1 (.q 2 (.q 3 (.q 4 (.q 5 (.q 6 (.q 7 (.q 8 (.q 9 (.q 10 (.q 11 (.q 12 (.q 13 (.q 14 (.q 15 (.q 16 (.q 17 .done)))))))))))))))))) ?_
  first | refine AtT.zk qc ?_ | with_reducible refine AtT.zl qc ?_ | refine AtT.zn qc ?_
  first | refine AtT.zm tk3 ?_ | refine AtT.zo tk3 ?_
  refine AtT.qp ?_
  refine AtT.qa (d := 11) rfl (d1) ?_
  refine AtT.zf ?_
  all_goals (first | refine AtT.kL 12 ?_ | refine AtT.zw (d := 12) rfl (fun hg12 => ?_) (fun hg12 => ?_) | refine AtT.zu (d := 12) rfl (fun hg12 => ?_) (fun hg12 => ?_))
  all_goals first|refine AtT.zh ?_|refine AtT.ze ?_|(first | refine AtT.zk qc ?_ | with_reducible refine AtT.zl qc ?_ | refine AtT.zn qc ?_)
  all_goals first|refine AtT.zh ?_|refine AtT.ze ?_|(first | refine AtT.zm tk3 ?_ | refine AtT.zo tk3 ?_)
  all_goals first|refine AtT.zh ?_|refine AtT.ze ?_|(refine AtT.qI ?_)
  all_goals (refine AtT.zx ?_)
  all_goals (refine AtT.zf ?_)
  all_goals (first | refine AtT.kL 17 ?_ | refine AtT.zw (d := 17) rfl (fun hg17 => ?_) (fun hg17 => ?_) | refine AtT.zu (d := 17) rfl (fun hg17 => ?_) (fun hg17 => ?_))
  all_goals first|refine AtT.zh ?_|refine AtT.ze ?_|(first | refine AtT.zk zA ?_ | with_reducible refine AtT.zl zA ?_ | refine AtT.zn zA ?_)
  all_goals first|refine AtT.zh ?_|refine AtT.ze ?_|(first | refine AtT.zm tk3 ?_ | refine AtT.zo tk3 ?_)
  all_goals first|refine AtT.zh ?_|refine AtT.ze ?_|(refine AtT.qp ?_)
  all_goals (refine AtT.zx ?_)
  all_goals (refine AtT.zf ?_)
  all_goals (first | refine AtT.kL 22 ?_ | refine AtT.zw (d := 22) rfl (fun hg22 => ?_) (fun hg22 => ?_) | refine AtT.zu (d := 22) rfl (fun hg22 => ?_) (fun hg22 => ?_))
  all_goals first|refine AtT.zh ?_|refine AtT.ze ?_|(first | refine AtT.zk zA ?_ | with_reducible refine AtT.zl zA ?_ | refine AtT.zn zA ?_)
  all_goals first|refine AtT.zh ?_|refine AtT.ze ?_|(first | refine AtT.zm tk3 ?_ | refine AtT.zo tk3 ?_)
  all_goals first|refine AtT.zh ?_|refine AtT.ze ?_|(refine AtT.qI ?_)
  all_goals (refine AtT.zx ?_)
  all_goals refine AtT.done ?_
  all_goals (refine At.nrm ?_)
  all_goals refine At.zU rfl rfl ?_
  refine At.nrm ?_
  refine At.zi (.q 0 .done) ?_
  refine AtT.zg ?_
  refine AtT.done ?_
  refine At.nrm ?_
  exact At.qh rfl (.tmp rfl) (by unfold kD; rw [if_pos (by omega)])
 by_cases d2 : 999 < e.d
 ·refine At.zi (.q 0 (.q 1 (.q 2 (.q 3 (.q 4 (.q 5 (.q 6 (.q 7 (.q 8 (.q 9 (.q 10 (.q 11 (.q 12 (.q 13 (.q 14 (.q 15 (.q 16 (.q 17 .done)))))))))))))))))) ?_
  first | refine AtT.zk qc ?_ | with_reducible refine AtT.zl qc ?_ | refine AtT.zn qc ?_
  first | refine AtT.zm tk3 ?_ | refine AtT.zo tk3 ?_
  refine AtT.qp ?_
  refine AtT.zS (d := 11) rfl (d1) ?_
  refine AtT.zf ?_
  all_goals (first | refine AtT.kL 12 ?_ | refine AtT.zw (d := 12) rfl (fun hg12 => ?_) (fun hg12 => ?_) | refine AtT.zu (d := 12) rfl (fun hg12 => ?_) (fun hg12 => ?_))
  all_goals first|refine AtT.zh ?_|refine AtT.ze ?_|(first | refine AtT.zk qc ?_ | with_reducible refine AtT.zl qc ?_ | refine AtT.zn qc ?_)
  all_goals first|refine AtT.zh ?_|refine AtT.ze ?_|(first | refine AtT.zm tk3 ?_ | refine AtT.zo tk3 ?_)
  all_goals first|refine AtT.zh ?_|refine AtT.ze ?_|(refine AtT.qI ?_)
  all_goals (refine AtT.qa (d := 15) rfl (d2) ?_)
  all_goals (refine AtT.zx ?_)
  all_goals (refine AtT.zf ?_)
  all_goals (first | refine AtT.kL 17 ?_ | refine AtT.zw (d := 17) rfl (fun hg17 => ?_) (fun hg17 => ?_) | refine AtT.zu (d := 17) rfl (fun hg17 => ?_) (fun hg17 => ?_))
  all_goals first|refine AtT.zh ?_|refine AtT.ze ?_|(first | refine AtT.zk zA ?_ | with_reducible refine AtT.zl zA ?_ | refine AtT.zn zA ?_)
  all_goals first|refine AtT.zh ?_|refine AtT.ze ?_|(first | refine AtT.zm tk3 ?_ | refine AtT.zo tk3 ?_)
  all_goals first|refine AtT.zh ?_|refine AtT.ze ?_|(refine AtT.qp ?_)
  all_goals (refine AtT.zx ?_)
  all_goals (refine AtT.zf ?_)
  all_goals (first | refine AtT.kL 22 ?_ | refine AtT.zw (d := 22) rfl (fun hg22 => ?_) (fun hg22 => ?_) | refine AtT.zu (d := 22) rfl (fun hg22 => ?_) (fun hg22 => ?_))
  all_goals first|refine AtT.zh ?_|refine AtT.ze ?_|(first | refine AtT.zk zA ?_ | with_reducible refine AtT.zl zA ?_ | refine AtT.zn zA ?_)
  all_goals first|refine AtT.zh ?_|refine AtT.ze ?_|(first | refine AtT.zm tk3 ?_ | refine AtT.zo tk3 ?_)
  all_goals first|refine AtT.zh ?_|refine AtT.ze ?_|(refine AtT.qI ?_)
  all_goals (refine AtT.zx ?_)
  all_goals refine AtT.done ?_
  all_goals (refine At.nrm ?_)
  all_goals refine At.zU rfl rfl ?_
  refine At.nrm ?_
  refine At.zi (.q 0 .done) ?_
  refine AtT.zg ?_
  refine AtT.done ?_
  refine At.nrm ?_
  exact At.qh rfl (.tmp rfl) (by unfold kD; rw [if_pos (by omega)])
 by_cases k1 : e.k < 1
 ·refine At.zi (.q 0 (.q 1 (.q 2 (.q 3 (.q 4 (.q 5 (.q 6 (.q 7 (.q 8 (.q 9 (.q 10 (.q 11 (.q 12 (.q 13 (.q 14 (.q 15 (.q 16 (.q 17 .done)))))))))))))))))) ?_
  first | refine AtT.zk qc ?_ | with_reducible refine AtT.zl qc ?_ | refine AtT.zn qc ?_
  first | refine AtT.zm tk3 ?_ | refine AtT.zo tk3 ?_
  refine AtT.qp ?_
  refine AtT.zS (d := 11) rfl (d1) ?_
  refine AtT.zf ?_
  all_goals (first | refine AtT.kL 12 ?_ | refine AtT.zw (d := 12) rfl (fun hg12 => ?_) (fun hg12 => ?_) | refine AtT.zu (d := 12) rfl (fun hg12 => ?_) (fun hg12 => ?_))
  all_goals first|refine AtT.zh ?_|refine AtT.ze ?_|(first | refine AtT.zk qc ?_ | with_reducible refine AtT.zl qc ?_ | refine AtT.zn qc ?_)
  all_goals first|refine AtT.zh ?_|refine AtT.ze ?_|(first | refine AtT.zm tk3 ?_ | refine AtT.zo tk3 ?_)
  all_goals first|refine AtT.zh ?_|refine AtT.ze ?_|(refine AtT.qI ?_)
  all_goals (refine AtT.zS (d := 15) rfl (d2) ?_)
  all_goals (refine AtT.zx ?_)
  all_goals (refine AtT.zf ?_)
  all_goals (first | refine AtT.kL 17 ?_ | refine AtT.zw (d := 17) rfl (fun hg17 => ?_) (fun hg17 => ?_) | refine AtT.zu (d := 17) rfl (fun hg17 => ?_) (fun hg17 => ?_))
  all_goals first|refine AtT.zh ?_|refine AtT.ze ?_|(first | refine AtT.zk zA ?_ | with_reducible refine AtT.zl zA ?_ | refine AtT.zn zA ?_)
  all_goals first|refine AtT.zh ?_|refine AtT.ze ?_|(first | refine AtT.zm tk3 ?_ | refine AtT.zo tk3 ?_)
  all_goals first|refine AtT.zh ?_|refine AtT.ze ?_|(refine AtT.qp ?_)
  all_goals (refine AtT.qa (d := 20) rfl (k1) ?_)
  all_goals (refine AtT.zx ?_)
  all_goals (refine AtT.zf ?_)
  all_goals (first | refine AtT.kL 22 ?_ | refine AtT.zw (d := 22) rfl (fun hg22 => ?_) (fun hg22 => ?_) | refine AtT.zu (d := 22) rfl (fun hg22 => ?_) (fun hg22 => ?_))
  all_goals first|refine AtT.zh ?_|refine AtT.ze ?_|(first | refine AtT.zk zA ?_ | with_reducible refine AtT.zl zA ?_ | refine AtT.zn zA ?_)
  all_goals first|refine AtT.zh ?_|refine AtT.ze ?_|(first | refine AtT.zm tk3 ?_ | refine AtT.zo tk3 ?_)
  all_goals first|refine AtT.zh ?_|refine AtT.ze ?_|(refine AtT.qI ?_)
  all_goals (refine AtT.zx ?_)
  all_goals refine AtT.done ?_
  all_goals (refine At.nrm ?_)
  all_goals refine At.zU rfl rfl ?_
  refine At.nrm ?_
  refine At.zi (.q 0 .done) ?_
  refine AtT.zg ?_
  refine AtT.done ?_
  refine At.nrm ?_
  exact At.qh rfl (.tmp rfl) (by unfold kD; rw [if_pos (by omega)])
 by_cases k2 : 4 < e.k
 ·refine At.zi (.q 0 (.q 1 (.q 2 (.q 3 (.q 4 (.q 5 (.q 6 (.q 7 (.q 8 (.q 9 (.q 10 (.q 11 (.q 12 (.q 13 (.q 14 (.q 15 (.q 16 (.q 17 .done)))))))))))))))))) ?_
  first | refine AtT.zk qc ?_ | with_reducible refine AtT.zl qc ?_ | refine AtT.zn qc ?_
  first | refine AtT.zm tk3 ?_ | refine AtT.zo tk3 ?_
  refine AtT.qp ?_
  refine AtT.zS (d := 11) rfl (d1) ?_
  refine AtT.zf ?_
  all_goals (first | refine AtT.kL 12 ?_ | refine AtT.zw (d := 12) rfl (fun hg12 => ?_) (fun hg12 => ?_) | refine AtT.zu (d := 12) rfl (fun hg12 => ?_) (fun hg12 => ?_))
  all_goals first|refine AtT.zh ?_|refine AtT.ze ?_|(first | refine AtT.zk qc ?_ | with_reducible refine AtT.zl qc ?_ | refine AtT.zn qc ?_)
  all_goals first|refine AtT.zh ?_|refine AtT.ze ?_|(first | refine AtT.zm tk3 ?_ | refine AtT.zo tk3 ?_)
  all_goals first|refine AtT.zh ?_|refine AtT.ze ?_|(refine AtT.qI ?_)
  all_goals (refine AtT.zS (d := 15) rfl (d2) ?_)
  all_goals (refine AtT.zx ?_)
  all_goals (refine AtT.zf ?_)
  all_goals (first | refine AtT.kL 17 ?_ | refine AtT.zw (d := 17) rfl (fun hg17 => ?_) (fun hg17 => ?_) | refine AtT.zu (d := 17) rfl (fun hg17 => ?_) (fun hg17 => ?_))
  all_goals first|refine AtT.zh ?_|refine AtT.ze ?_|(first | refine AtT.zk zA ?_ | with_reducible refine AtT.zl zA ?_ | refine AtT.zn zA ?_)
  all_goals first|refine AtT.zh ?_|refine AtT.ze ?_|(first | refine AtT.zm tk3 ?_ | refine AtT.zo tk3 ?_)
  all_goals first|refine AtT.zh ?_|refine AtT.ze ?_|(refine AtT.qp ?_)
  all_goals (refine AtT.zS (d := 20) rfl (k1) ?_)
  all_goals (refine AtT.zx ?_)
  all_goals (refine AtT.zf ?_)
  all_goals (first | refine AtT.kL 22 ?_ | refine AtT.zw (d := 22) rfl (fun hg22 => ?_) (fun hg22 => ?_) | refine AtT.zu (d := 22) rfl (fun hg22 => ?_) (fun hg22 => ?_))
  all_goals first|refine AtT.zh ?_|refine AtT.ze ?_|(first | refine AtT.zk zA ?_ | with_reducible refine AtT.zl zA ?_ | refine AtT.zn zA ?_)
  all_goals first|refine AtT.zh ?_|refine AtT.ze ?_|(first | refine AtT.zm tk3 ?_ | refine AtT.zo tk3 ?_)
  all_goals first|refine AtT.zh ?_|refine AtT.ze ?_|(refine AtT.qI ?_)
  all_goals (refine AtT.qa (d := 25) rfl (k2) ?_)
  all_goals (refine AtT.zx ?_)
  all_goals refine AtT.done ?_
  all_goals (refine At.nrm ?_)
  all_goals refine At.zU rfl rfl ?_
  refine At.nrm ?_
  refine At.zi (.q 0 .done) ?_
  refine AtT.zg ?_
  refine AtT.done ?_
  refine At.nrm ?_
  exact At.qh rfl (.tmp rfl) (by unfold kD; rw [if_pos (by omega)])
 refine At.zi (.q 0 (.q 1 (.q 2 (.q 3 (.q 4 (.q 5 (.q 6 (.q 7 (.q 8 (.q 9 (.q 10 (.q 11 (.q 12 (.q 13 (.q 14 (.q 15 (.q 16 (.q 17 .done)))))))))))))))))) ?_
 first | refine AtT.zk qc ?_ | with_reducible refine AtT.zl qc ?_ | refine AtT.zn qc ?_
 first | refine AtT.zm tk3 ?_ | refine AtT.zo tk3 ?_
 refine AtT.qp ?_
 refine AtT.zS (d := 11) rfl (d1) ?_
 refine AtT.zf ?_
 all_goals (first | refine AtT.kL 12 ?_ | refine AtT.zw (d := 12) rfl (fun hg12 => ?_) (fun hg12 => ?_) | refine AtT.zu (d := 12) rfl (fun hg12 => ?_) (fun hg12 => ?_))
 all_goals first|refine AtT.zh ?_|refine AtT.ze ?_|(first | refine AtT.zk qc ?_ | with_reducible refine AtT.zl qc ?_ | refine AtT.zn qc ?_)
 all_goals first|refine AtT.zh ?_|refine AtT.ze ?_|(first | refine AtT.zm tk3 ?_ | refine AtT.zo tk3 ?_)
 all_goals first|refine AtT.zh ?_|refine AtT.ze ?_|(refine AtT.qI ?_)
 all_goals (refine AtT.zS (d := 15) rfl (d2) ?_)
 all_goals (refine AtT.zx ?_)
 all_goals (refine AtT.zf ?_)
 all_goals (first | refine AtT.kL 17 ?_ | refine AtT.zw (d := 17) rfl (fun hg17 => ?_) (fun hg17 => ?_) | refine AtT.zu (d := 17) rfl (fun hg17 => ?_) (fun hg17 => ?_))
 all_goals first|refine AtT.zh ?_|refine AtT.ze ?_|(first | refine AtT.zk zA ?_ | with_reducible refine AtT.zl zA ?_ | refine AtT.zn zA ?_)
 all_goals first|refine AtT.zh ?_|refine AtT.ze ?_|(first | refine AtT.zm tk3 ?_ | refine AtT.zo tk3 ?_)
 all_goals first|refine AtT.zh ?_|refine AtT.ze ?_|(refine AtT.qp ?_)
 all_goals (refine AtT.zS (d := 20) rfl (k1) ?_)
 all_goals (refine AtT.zx ?_)
 all_goals (refine AtT.zf ?_)
 all_goals (first | refine AtT.kL 22 ?_ | refine AtT.zw (d := 22) rfl (fun hg22 => ?_) (fun hg22 => ?_) | refine AtT.zu (d := 22) rfl (fun hg22 => ?_) (fun hg22 => ?_))
 all_goals first|refine AtT.zh ?_|refine AtT.ze ?_|(first | refine AtT.zk zA ?_ | with_reducible refine AtT.zl zA ?_ | refine AtT.zn zA ?_)
 all_goals first|refine AtT.zh ?_|refine AtT.ze ?_|(first | refine AtT.zm tk3 ?_ | refine AtT.zo tk3 ?_)
 all_goals first|refine AtT.zh ?_|refine AtT.ze ?_|(refine AtT.qI ?_)
 all_goals (refine AtT.zS (d := 25) rfl (k2) ?_)
 all_goals (refine AtT.zx ?_)
 all_goals refine AtT.done ?_
 all_goals (refine At.nrm ?_)
 all_goals refine At.zX rfl rfl ?_
 refine At.nrm ?_
 have hA : ¬ (¬ (0 ≤ e.d ∧ e.d ≤ 999) ∨ ¬ (1 ≤ e.k ∧ e.k ≤ 4)) := by omega
 refine At.zi (.q 0 (.q 1 (.q 2 .done))) ?_
 first | refine AtT.zk zA ?_ | with_reducible refine AtT.zl zA ?_ | refine AtT.zn zA ?_
 first | refine AtT.zm tk3 ?_ | refine AtT.zo tk3 ?_
 refine AtT.qF ?_
 refine AtT.done ?_
 refine At.nrm ?_
 have htail : ¬ (e.k = 4 ∧ ¬ (0 ≤ e.t ∧ e.t ≤ index - 1)) → ¬ (e.k = 4 ∧ e.n ≠ 0) → ¬ (e.k ≠ 4 ∧ (¬ (0 ≤ e.t ∧ e.t ≤ 7) ∨ e.n < 1 ∨ 1000 < e.n)) → kD rs e index last = if e.d < last then 12 else if e.k = 3 ∧ partsOf rs e.t = [] then 16 else 0 := fun h1 h2 h3 => by
  unfold kD; rw [if_neg hA, if_neg h1, if_neg h2, if_neg h3]
 refine At.cutG (ι := Unit) (fun _ => [(0, v), (3, iv last), (5, .pointer (some ⟨b5, 0, none⟩))]) (fun _ => [.blk b5 (LC (ene e) 36)]) (fun _ V'' => V'' = V ∧ kD rs e index last = if e.d < last then 12 else if e.k = 3 ∧ partsOf rs e.t = [] then 16 else 0) ?_ ?_
 ·refine At.qb rfl (fun k4 => ?_) (fun k4 => ?_)
  ·refine At.nrm ?_
   by_cases t1 : e.t < 0
   ·refine At.zi (.q 0 (.q 1 (.q 2 (.q 3 (.q 4 (.q 5 (.q 6 (.q 7 (.q 8 .done))))))))) ?_
    first | refine AtT.zk zL ?_ | with_reducible refine AtT.zl zL ?_ | refine AtT.zn zL ?_
    first | refine AtT.zm tk3 ?_ | refine AtT.zo tk3 ?_
    refine AtT.qp ?_
    refine AtT.qa (d := 32) rfl (t1) ?_
    refine AtT.zf ?_
    all_goals (first | refine AtT.kL 33 ?_ | refine AtT.zw (d := 33) rfl (fun hg33 => ?_) (fun hg33 => ?_) | refine AtT.zu (d := 33) rfl (fun hg33 => ?_) (fun hg33 => ?_))
    all_goals first|refine AtT.zh ?_|refine AtT.ze ?_|(first | refine AtT.zk zL ?_ | with_reducible refine AtT.zl zL ?_ | refine AtT.zn zL ?_)
    all_goals first|refine AtT.zh ?_|refine AtT.ze ?_|(first | refine AtT.zm tk3 ?_ | refine AtT.zo tk3 ?_)
    all_goals first|refine AtT.zh ?_|refine AtT.ze ?_|(refine AtT.zf ?_)
    all_goals first|refine AtT.zh ?_|refine AtT.ze ?_|(refine AtT.kgeq ?_)
    all_goals (refine AtT.zx ?_)
    all_goals refine AtT.done ?_
    all_goals (refine At.nrm ?_)
    all_goals refine At.zU rfl rfl ?_
    refine At.nrm ?_
    refine At.zi (.q 0 .done) ?_
    refine AtT.zg ?_
    refine AtT.done ?_
    refine At.nrm ?_
    exact At.qh rfl (.tmp rfl) (by unfold kD; rw [if_neg hA, if_pos ⟨k4, by omega⟩])
   by_cases t2 : index ≤ e.t
   ·refine At.zi (.q 0 (.q 1 (.q 2 (.q 3 (.q 4 (.q 5 (.q 6 (.q 7 (.q 8 .done))))))))) ?_
    first | refine AtT.zk zL ?_ | with_reducible refine AtT.zl zL ?_ | refine AtT.zn zL ?_
    first | refine AtT.zm tk3 ?_ | refine AtT.zo tk3 ?_
    refine AtT.qp ?_
    refine AtT.zS (d := 32) rfl (t1) ?_
    refine AtT.zf ?_
    all_goals (first | refine AtT.kL 33 ?_ | refine AtT.zw (d := 33) rfl (fun hg33 => ?_) (fun hg33 => ?_) | refine AtT.zu (d := 33) rfl (fun hg33 => ?_) (fun hg33 => ?_))
    all_goals first|refine AtT.zh ?_|refine AtT.ze ?_|(first | refine AtT.zk zL ?_ | with_reducible refine AtT.zl zL ?_ | refine AtT.zn zL ?_)
    all_goals first|refine AtT.zh ?_|refine AtT.ze ?_|(first | refine AtT.zm tk3 ?_ | refine AtT.zo tk3 ?_)
    all_goals first|refine AtT.zh ?_|refine AtT.ze ?_|(refine AtT.zf ?_)
    all_goals first|refine AtT.zh ?_|refine AtT.ze ?_|(refine AtT.kgeq ?_)
    all_goals (refine AtT.qa (d := 37) rfl (t2) ?_)
    all_goals (refine AtT.zx ?_)
    all_goals refine AtT.done ?_
    all_goals (refine At.nrm ?_)
    all_goals refine At.zU rfl rfl ?_
    refine At.nrm ?_
    refine At.zi (.q 0 .done) ?_
    refine AtT.zg ?_
    refine AtT.done ?_
    refine At.nrm ?_
    exact At.qh rfl (.tmp rfl) (by unfold kD; rw [if_neg hA, if_pos ⟨k4, by omega⟩])
   refine At.zi (.q 0 (.q 1 (.q 2 (.q 3 (.q 4 (.q 5 (.q 6 (.q 7 (.q 8 .done))))))))) ?_
   first | refine AtT.zk zL ?_ | with_reducible refine AtT.zl zL ?_ | refine AtT.zn zL ?_
   first | refine AtT.zm tk3 ?_ | refine AtT.zo tk3 ?_
   refine AtT.qp ?_
   refine AtT.zS (d := 32) rfl (t1) ?_
   refine AtT.zf ?_
   all_goals (first | refine AtT.kL 33 ?_ | refine AtT.zw (d := 33) rfl (fun hg33 => ?_) (fun hg33 => ?_) | refine AtT.zu (d := 33) rfl (fun hg33 => ?_) (fun hg33 => ?_))
   all_goals first|refine AtT.zh ?_|refine AtT.ze ?_|(first | refine AtT.zk zL ?_ | with_reducible refine AtT.zl zL ?_ | refine AtT.zn zL ?_)
   all_goals first|refine AtT.zh ?_|refine AtT.ze ?_|(first | refine AtT.zm tk3 ?_ | refine AtT.zo tk3 ?_)
   all_goals first|refine AtT.zh ?_|refine AtT.ze ?_|(refine AtT.zf ?_)
   all_goals first|refine AtT.zh ?_|refine AtT.ze ?_|(refine AtT.kgeq ?_)
   all_goals (refine AtT.zS (d := 37) rfl (t2) ?_)
   all_goals (refine AtT.zx ?_)
   all_goals refine AtT.done ?_
   all_goals (refine At.nrm ?_)
   all_goals refine At.zX rfl rfl ?_
   refine At.nrm ?_
   refine At.zi (.q 0 (.q 1 (.q 2 .done))) ?_
   first | refine AtT.zk zO ?_ | with_reducible refine AtT.zl zO ?_ | refine AtT.zn zO ?_
   first | refine AtT.zm tk2 ?_ | refine AtT.zo tk2 ?_
   refine AtT.qE ?_
   refine AtT.done ?_
   refine At.nrm ?_
   refine At.qb rfl (fun hn => ?_) (fun hn => ?_)
   ·refine At.nrm ?_
    refine At.zi (.q 0 .done) ?_
    refine AtT.zg ?_
    refine AtT.done ?_
    refine At.nrm ?_
    exact At.qh rfl (.tmp rfl) (by unfold kD; rw [if_neg hA, if_neg (by omega), if_pos ⟨k4, hn⟩])
   ·refine At.nrm ?_
    exact At.jP () ⟨rfl, htail (by omega) (fun h => hn h.2) (fun h => h.1 k4)⟩ ⟨rfl, rfl, rfl, trivial⟩ Pt.zI
  ·refine At.nrm ?_
   by_cases t1 : 0 ≤ e.t ∧ e.t ≤ 7
   rotate_left
   ·refine At.zi (.q 0 (.q 1 (.n false 2 (.q 3 (.q 4 (.q 5 (.q 6 (.q 7 (.q 8 (.q 9 (.q 10 (.q 11 (.q 12 (.q 13 .done)))))))))))))) ?_
    first | refine AtT.zk zL ?_ | with_reducible refine AtT.zl zL ?_ | refine AtT.zn zL ?_
    first | refine AtT.zm tk3 ?_ | refine AtT.zo tk3 ?_
    refine AtT.zG rfl rfl ok59 (jI e.t _) ?_
    rintro _ rfl
    refine AtT.zS (d := 44) rfl (t1) ?_
    refine AtT.qC ?_
    refine AtT.qJ (d := 45) rfl ((show (!false) = true from rfl)) ?_
    refine AtT.zf ?_
    all_goals (first | refine AtT.kL 46 ?_ | refine AtT.zw (d := 46) rfl (fun hg46 => ?_) (fun hg46 => ?_) | refine AtT.zu (d := 46) rfl (fun hg46 => ?_) (fun hg46 => ?_))
    all_goals first|refine AtT.zh ?_|refine AtT.ze ?_|(first | refine AtT.zk zO ?_ | with_reducible refine AtT.zl zO ?_ | refine AtT.zn zO ?_)
    all_goals first|refine AtT.zh ?_|refine AtT.ze ?_|(first | refine AtT.zm tk2 ?_ | refine AtT.zo tk2 ?_)
    all_goals first|refine AtT.zh ?_|refine AtT.ze ?_|(refine AtT.qp ?_)
    all_goals (refine AtT.zx ?_)
    all_goals (refine AtT.zf ?_)
    all_goals (first | refine AtT.kL 51 ?_ | refine AtT.zw (d := 51) rfl (fun hg51 => ?_) (fun hg51 => ?_) | refine AtT.zu (d := 51) rfl (fun hg51 => ?_) (fun hg51 => ?_))
    all_goals first|refine AtT.zh ?_|refine AtT.ze ?_|(first | refine AtT.zk zO ?_ | with_reducible refine AtT.zl zO ?_ | refine AtT.zn zO ?_)
    all_goals first|refine AtT.zh ?_|refine AtT.ze ?_|(first | refine AtT.zm tk2 ?_ | refine AtT.zo tk2 ?_)
    all_goals first|refine AtT.zh ?_|refine AtT.ze ?_|(refine AtT.qI ?_)
    all_goals (refine AtT.zx ?_)
    all_goals refine AtT.done ?_
    all_goals (refine At.nrm ?_)
    all_goals refine At.zU rfl rfl ?_
    refine At.nrm ?_
    refine At.zi (.q 0 .done) ?_
    refine AtT.zg ?_
    refine AtT.done ?_
    refine At.nrm ?_
    exact At.qh rfl (.tmp rfl) (by unfold kD; rw [if_neg hA, if_neg (by omega), if_neg (by omega), if_pos ⟨k4, by omega⟩])
   by_cases n1 : e.n < 1
   ·refine At.zi (.q 0 (.q 1 (.n false 2 (.q 3 (.q 4 (.q 5 (.q 6 (.q 7 (.q 8 (.q 9 (.q 10 (.q 11 (.q 12 (.q 13 .done)))))))))))))) ?_
    first | refine AtT.zk zL ?_ | with_reducible refine AtT.zl zL ?_ | refine AtT.zn zL ?_
    first | refine AtT.zm tk3 ?_ | refine AtT.zo tk3 ?_
    refine AtT.zG rfl rfl ok59 (jI e.t _) ?_
    rintro _ rfl
    refine AtT.qa (d := 44) rfl (t1) ?_
    refine AtT.qC ?_
    refine AtT.qJ (d := 45) rfl ((show (!true) = false from rfl)) ?_
    refine AtT.zf ?_
    all_goals (first | refine AtT.kL 46 ?_ | refine AtT.zw (d := 46) rfl (fun hg46 => ?_) (fun hg46 => ?_) | refine AtT.zu (d := 46) rfl (fun hg46 => ?_) (fun hg46 => ?_))
    all_goals first|refine AtT.zh ?_|refine AtT.ze ?_|(first | refine AtT.zk zO ?_ | with_reducible refine AtT.zl zO ?_ | refine AtT.zn zO ?_)
    all_goals first|refine AtT.zh ?_|refine AtT.ze ?_|(first | refine AtT.zm tk2 ?_ | refine AtT.zo tk2 ?_)
    all_goals first|refine AtT.zh ?_|refine AtT.ze ?_|(refine AtT.qp ?_)
    all_goals (refine AtT.qa (d := 49) rfl (n1) ?_)
    all_goals (refine AtT.zx ?_)
    all_goals (refine AtT.zf ?_)
    all_goals (first | refine AtT.kL 51 ?_ | refine AtT.zw (d := 51) rfl (fun hg51 => ?_) (fun hg51 => ?_) | refine AtT.zu (d := 51) rfl (fun hg51 => ?_) (fun hg51 => ?_))
    all_goals first|refine AtT.zh ?_|refine AtT.ze ?_|(first | refine AtT.zk zO ?_ | with_reducible refine AtT.zl zO ?_ | refine AtT.zn zO ?_)
    all_goals first|refine AtT.zh ?_|refine AtT.ze ?_|(first | refine AtT.zm tk2 ?_ | refine AtT.zo tk2 ?_)
    all_goals first|refine AtT.zh ?_|refine AtT.ze ?_|(refine AtT.qI ?_)
    all_goals (refine AtT.zx ?_)
    all_goals refine AtT.done ?_
    all_goals (refine At.nrm ?_)
    all_goals refine At.zU rfl rfl ?_
    refine At.nrm ?_
    refine At.zi (.q 0 .done) ?_
    refine AtT.zg ?_
    refine AtT.done ?_
    refine At.nrm ?_
    exact At.qh rfl (.tmp rfl) (by unfold kD; rw [if_neg hA, if_neg (by omega), if_neg (by omega), if_pos ⟨k4, by omega⟩])
   by_cases n2 : 1000 < e.n
   ·refine At.zi (.q 0 (.q 1 (.n false 2 (.q 3 (.q 4 (.q 5 (.q 6 (.q 7 (.q 8 (.q 9 (.q 10 (.q 11 (.q 12 (.q 13 .done)))))))))))))) ?_
    first | refine AtT.zk zL ?_ | with_reducible refine AtT.zl zL ?_ | refine AtT.zn zL ?_
    first | refine AtT.zm tk3 ?_ | refine AtT.zo tk3 ?_
    refine AtT.zG rfl rfl ok59 (jI e.t _) ?_
    rintro _ rfl
    refine AtT.qa (d := 44) rfl (t1) ?_
    refine AtT.qC ?_
    refine AtT.qJ (d := 45) rfl ((show (!true) = false from rfl)) ?_
    refine AtT.zf ?_
    all_goals (first | refine AtT.kL 46 ?_ | refine AtT.zw (d := 46) rfl (fun hg46 => ?_) (fun hg46 => ?_) | refine AtT.zu (d := 46) rfl (fun hg46 => ?_) (fun hg46 => ?_))
    all_goals first|refine AtT.zh ?_|refine AtT.ze ?_|(first | refine AtT.zk zO ?_ | with_reducible refine AtT.zl zO ?_ | refine AtT.zn zO ?_)
    all_goals first|refine AtT.zh ?_|refine AtT.ze ?_|(first | refine AtT.zm tk2 ?_ | refine AtT.zo tk2 ?_)
    all_goals first|refine AtT.zh ?_|refine AtT.ze ?_|(refine AtT.qp ?_)
    all_goals (refine AtT.zS (d := 49) rfl (n1) ?_)
    all_goals (refine AtT.zx ?_)
    all_goals (refine AtT.zf ?_)
    all_goals (first | refine AtT.kL 51 ?_ | refine AtT.zw (d := 51) rfl (fun hg51 => ?_) (fun hg51 => ?_) | refine AtT.zu (d := 51) rfl (fun hg51 => ?_) (fun hg51 => ?_))
    all_goals first|refine AtT.zh ?_|refine AtT.ze ?_|(first | refine AtT.zk zO ?_ | with_reducible refine AtT.zl zO ?_ | refine AtT.zn zO ?_)
    all_goals first|refine AtT.zh ?_|refine AtT.ze ?_|(first | refine AtT.zm tk2 ?_ | refine AtT.zo tk2 ?_)
    all_goals first|refine AtT.zh ?_|refine AtT.ze ?_|(refine AtT.qI ?_)
    all_goals (refine AtT.qa (d := 54) rfl (n2) ?_)
    all_goals (refine AtT.zx ?_)
    all_goals refine AtT.done ?_
    all_goals (refine At.nrm ?_)
    all_goals refine At.zU rfl rfl ?_
    refine At.nrm ?_
    refine At.zi (.q 0 .done) ?_
    refine AtT.zg ?_
    refine AtT.done ?_
    refine At.nrm ?_
    exact At.qh rfl (.tmp rfl) (by unfold kD; rw [if_neg hA, if_neg (by omega), if_neg (by omega), if_pos ⟨k4, by omega⟩])
   refine At.zi (.q 0 (.q 1 (.n false 2 (.q 3 (.q 4 (.q 5 (.q 6 (.q 7 (.q 8 (.q 9 (.q 10 (.q 11 (.q 12 (.q 13 .done)))))))))))))) ?_
   first | refine AtT.zk zL ?_ | with_reducible refine AtT.zl zL ?_ | refine AtT.zn zL ?_
   first | refine AtT.zm tk3 ?_ | refine AtT.zo tk3 ?_
   refine AtT.zG rfl rfl ok59 (jI e.t _) ?_
   rintro _ rfl
   refine AtT.qa (d := 44) rfl (t1) ?_
   refine AtT.qC ?_
   refine AtT.qJ (d := 45) rfl ((show (!true) = false from rfl)) ?_
   refine AtT.zf ?_
   all_goals (first | refine AtT.kL 46 ?_ | refine AtT.zw (d := 46) rfl (fun hg46 => ?_) (fun hg46 => ?_) | refine AtT.zu (d := 46) rfl (fun hg46 => ?_) (fun hg46 => ?_))
   all_goals first|refine AtT.zh ?_|refine AtT.ze ?_|(first | refine AtT.zk zO ?_ | with_reducible refine AtT.zl zO ?_ | refine AtT.zn zO ?_)
   all_goals first|refine AtT.zh ?_|refine AtT.ze ?_|(first | refine AtT.zm tk2 ?_ | refine AtT.zo tk2 ?_)
   all_goals first|refine AtT.zh ?_|refine AtT.ze ?_|(refine AtT.qp ?_)
   all_goals (refine AtT.zS (d := 49) rfl (n1) ?_)
   all_goals (refine AtT.zx ?_)
   all_goals (refine AtT.zf ?_)
   all_goals (first | refine AtT.kL 51 ?_ | refine AtT.zw (d := 51) rfl (fun hg51 => ?_) (fun hg51 => ?_) | refine AtT.zu (d := 51) rfl (fun hg51 => ?_) (fun hg51 => ?_))
   all_goals first|refine AtT.zh ?_|refine AtT.ze ?_|(first | refine AtT.zk zO ?_ | with_reducible refine AtT.zl zO ?_ | refine AtT.zn zO ?_)
   all_goals first|refine AtT.zh ?_|refine AtT.ze ?_|(first | refine AtT.zm tk2 ?_ | refine AtT.zo tk2 ?_)
   all_goals first|refine AtT.zh ?_|refine AtT.ze ?_|(refine AtT.qI ?_)
   all_goals (refine AtT.zS (d := 54) rfl (n2) ?_)
   all_goals (refine AtT.zx ?_)
   all_goals refine AtT.done ?_
   all_goals (refine At.nrm ?_)
   all_goals refine At.zX rfl rfl ?_
   refine At.nrm ?_
   exact At.jP () ⟨rfl, htail (by omega) (by omega) (by omega)⟩ ⟨rfl, rfl, rfl, trivial⟩ Pt.zI
 rintro _ V1 ks' O' ⟨rfl, hE⟩ hk hO hl1
 subst hk hO
 rw [hE]
 refine At.nrm ?_
 refine At.zi (.q 0 (.q 1 (.q 2 (.q 3 .done)))) ?_
 first | refine AtT.zk qc ?_ | with_reducible refine AtT.zl qc ?_ | refine AtT.zn qc ?_
 first | refine AtT.zm tk3 ?_ | refine AtT.zo tk3 ?_
 refine AtT.zf ?_
 refine AtT.qp ?_
 refine AtT.done ?_
 refine At.nrm ?_
 refine At.qb rfl (fun hd => ?_) (fun hd => ?_)
 ·refine At.nrm ?_
  refine At.zi (.q 0 .done) ?_
  refine AtT.zg ?_
  refine AtT.done ?_
  refine At.nrm ?_
  exact At.qh rfl (.tmp rfl) (by rw [if_pos hd])
 rw [if_neg hd]
 refine At.nrm ?_
 by_cases k3 : e.k = 3
 rotate_left
 ·refine At.zi (.q 0 (.q 1 (.q 2 (.q 3 (.q 4 (.q 5 (.q 6 (.n false 7 (.q 8 (.q 9 (.q 10 .done))))))))))) ?_
  first | refine AtT.zk zA ?_ | with_reducible refine AtT.zl zA ?_ | refine AtT.zn zA ?_
  first | refine AtT.zm tk3 ?_ | refine AtT.zo tk3 ?_
  refine AtT.qF ?_
  refine AtT.zS (d := 62) rfl (k3) ?_
  refine AtT.zf ?_
  all_goals (first | refine AtT.kL 63 ?_ | refine AtT.zw (d := 63) rfl (fun hg63 => ?_) (fun hg63 => ?_) | refine AtT.zu (d := 63) rfl (fun hg63 => ?_) (fun hg63 => ?_))
  all_goals first|refine AtT.zh ?_|refine AtT.ze ?_|(refine AtT.zf ?_)
  all_goals first|refine AtT.zh ?_|refine AtT.ze ?_|(first | refine AtT.zk zL ?_ | with_reducible refine AtT.zl zL ?_ | refine AtT.zn zL ?_)
  all_goals first|refine AtT.zh ?_|refine AtT.ze ?_|(first | refine AtT.zm tk3 ?_ | refine AtT.zo tk3 ?_)
  all_goals first|refine AtT.qf ?_|refine AtT.zW ?_|((fail))
  all_goals first|refine AtT.zh ?_|refine AtT.ze ?_|(first | refine AtT.zR Tryz.underlying66 ?_ | refine AtT.zQ Tryz.underlying66 ?_)
  all_goals first|refine AtT.zh ?_|refine AtT.ze ?_|(refine AtT.qF ?_)
  all_goals (refine AtT.zx ?_)
  all_goals refine AtT.done ?_
  all_goals (refine At.nrm ?_)
  all_goals refine At.zX rfl rfl ?_
  refine At.nrm ?_
  refine At.zi (.q 0 .done) ?_
  refine AtT.zg ?_
  refine AtT.done ?_
  refine At.nrm ?_
  exact At.qh rfl (.tmp rfl) (by rw [if_neg (fun h => k3 h.1)])
 have hlen : ((partsOf rs e.t).length : Int) = 0 ↔ partsOf rs e.t = [] := by rw [← List.length_eq_zero_iff]; omega
 by_cases hp : partsOf rs e.t = []
 ·refine At.zi (.q 0 (.q 1 (.q 2 (.q 3 (.q 4 (.q 5 (.q 6 (.n false 7 (.q 8 (.q 9 (.q 10 .done))))))))))) ?_
  first | refine AtT.zk zA ?_ | with_reducible refine AtT.zl zA ?_ | refine AtT.zn zA ?_
  first | refine AtT.zm tk3 ?_ | refine AtT.zo tk3 ?_
  refine AtT.qF ?_
  refine AtT.qa (d := 62) rfl (k3) ?_
  refine AtT.zf ?_
  all_goals (first | refine AtT.kL 63 ?_ | refine AtT.zw (d := 63) rfl (fun hg63 => ?_) (fun hg63 => ?_) | refine AtT.zu (d := 63) rfl (fun hg63 => ?_) (fun hg63 => ?_))
  all_goals first|refine AtT.zh ?_|refine AtT.ze ?_|(refine AtT.zf ?_)
  all_goals first|refine AtT.zh ?_|refine AtT.ze ?_|(first | refine AtT.zk zL ?_ | with_reducible refine AtT.zl zL ?_ | refine AtT.zn zL ?_)
  all_goals first|refine AtT.zh ?_|refine AtT.ze ?_|(first | refine AtT.zm tk3 ?_ | refine AtT.zo tk3 ?_)
  all_goals first|refine AtT.qf ?_|refine AtT.zW ?_|((refine AtT.qg rfl rfl ok48 (partsOf_f rs e.t _ _ hv) ?_) ; (rintro v67 V67 hV67 ⟨a67, c67, rfl, hs67⟩))
  all_goals first|refine AtT.zh ?_|refine AtT.ze ?_|(first | refine AtT.zR Tryz.underlying66 ?_ | refine AtT.zQ Tryz.underlying66 ?_)
  all_goals first|refine AtT.zh ?_|refine AtT.ze ?_|(refine AtT.qF ?_)
  all_goals (refine AtT.qa (d := 69) rfl ((hlen.2 hp)) ?_)
  all_goals (refine AtT.zx ?_)
  all_goals refine AtT.done ?_
  all_goals (refine At.nrm ?_)
  all_goals refine At.zU rfl rfl ?_
  refine At.nrm ?_
  refine At.zi (.q 0 .done) ?_
  refine AtT.zg ?_
  refine AtT.done ?_
  refine At.nrm ?_
  exact At.qh rfl (.tmp rfl) (by rw [if_pos ⟨k3, hp⟩])
 ·refine At.zi (.q 0 (.q 1 (.q 2 (.q 3 (.q 4 (.q 5 (.q 6 (.n false 7 (.q 8 (.q 9 (.q 10 .done))))))))))) ?_
  first | refine AtT.zk zA ?_ | with_reducible refine AtT.zl zA ?_ | refine AtT.zn zA ?_
  first | refine AtT.zm tk3 ?_ | refine AtT.zo tk3 ?_
  refine AtT.qF ?_
  refine AtT.qa (d := 62) rfl (k3) ?_
  refine AtT.zf ?_
  all_goals (first | refine AtT.kL 63 ?_ | refine AtT.zw (d := 63) rfl (fun hg63 => ?_) (fun hg63 => ?_) | refine AtT.zu (d := 63) rfl (fun hg63 => ?_) (fun hg63 => ?_))
  all_goals first|refine AtT.zh ?_|refine AtT.ze ?_|(refine AtT.zf ?_)
  all_goals first|refine AtT.zh ?_|refine AtT.ze ?_|(first | refine AtT.zk zL ?_ | with_reducible refine AtT.zl zL ?_ | refine AtT.zn zL ?_)
  all_goals first|refine AtT.zh ?_|refine AtT.ze ?_|(first | refine AtT.zm tk3 ?_ | refine AtT.zo tk3 ?_)
  all_goals first|refine AtT.qf ?_|refine AtT.zW ?_|((refine AtT.qg rfl rfl ok48 (partsOf_f rs e.t _ _ hv) ?_) ; (rintro v67 V67 hV67 ⟨a67, c67, rfl, hs67⟩))
  all_goals first|refine AtT.zh ?_|refine AtT.ze ?_|(first | refine AtT.zR Tryz.underlying66 ?_ | refine AtT.zQ Tryz.underlying66 ?_)
  all_goals first|refine AtT.zh ?_|refine AtT.ze ?_|(refine AtT.qF ?_)
  all_goals (refine AtT.zS (d := 69) rfl ((fun h => hp (hlen.1 h))) ?_)
  all_goals (refine AtT.zx ?_)
  all_goals refine AtT.done ?_
  all_goals (refine At.nrm ?_)
  all_goals refine At.zX rfl rfl ?_
  refine At.nrm ?_
  refine At.zi (.q 0 .done) ?_
  refine AtT.zg ?_
  refine AtT.done ?_
  refine At.nrm ?_
  exact At.qh rfl (.tmp rfl) (by rw [if_neg (fun h => hp h.2)])
end Go.Proofs.YtpoignmclfdgpaaGreatDoor
set_option linter.unusedVariables false
namespace Go.Proofs.YtpoignmclfdgpaaGreatDoor
open Go.Lw Go.Gl Go.Bk Go.RowKit
theorem rcntOf_f (es : List En) (first : Nat) (hf : first ≤ es.length) (h30 : es.length ≤ 100) (hbk : BkOk es first) (V : View) (v : Value) (hs : Sl V ene 4 v es) : Fnc Tryz.prog 46 [v, iv first] V fun r V' => SlI V' r (cntI es first) := by
 obtain ⟨a, c, rfl, k1, k2, _⟩ := id hs
 clear k1 k2
 refine ql Tryz.func46 rfl Tryz.ntmps46 (Nat.le_of_ble_eq_true rfl) ?_
 intro w0 hw0
 refine At.nrm ?_
 refine At.zi (.q 0 .done) ?_
 refine AtT.zg ?_
 refine AtT.done ?_
 refine At.nrm ?_
 refine At.zi (.q 0 (.n false 1 (.q 2 .done))) ?_
 refine AtT.zf ?_
 refine AtT.makeSl rfl trivial ei rfl Tryz.underlying37 rw3 rfl rfl (by decide) rfl rfl (by omega) (by omega) (by decide) (za := (0 : Int)) ?_
 intro b10
 refine AtT.zg ?_
 refine AtT.done ?_
 refine At.nrm ?_
 refine At.zi (.q 0 (.q 1 (.q 2 .done))) ?_
 refine AtT.zf ?_
 first | refine AtT.ji ?_ | refine AtT.jh ?_
 refine AtT.zg ?_
 refine AtT.done ?_
 refine At.nrm ?_
 rw [← gK_zero es first]
 refine At.lp (ι := Nat) (KS := fun k => [(0, .slice a es.length c), (1, iv first), (5, .slice (some ⟨b10, 0, none⟩) first first), (6, iv ((first : Int) - 1 - k))]) (OS := fun k => [.blk b10 (LC (flat ei (gK es first k)) 3)]) (VS := fun k V' => V' = V ∧ k ≤ first) (μ := fun k => first - k) 0 ?_ ?_ ?_ ?_
 ·exact ⟨rfl, rfl, rfl, ivs (by omega), trivial⟩
 ·exact Pt.zI
 ·exact ⟨rfl, Nat.zero_le _⟩
 ·rintro k V' ks' O' ⟨rfl, hkl⟩ hk hO hl2
  subst hk hO
  refine At.nrm ?_
  refine At.zi (.q 0 (.q 1 .done)) ?_
  refine AtT.zf ?_
  refine AtT.kgeq ?_
  refine AtT.done ?_
  refine At.nrm ?_
  refine At.qb rfl (fun hp => ?_) (fun hp => ?_)
  ·have hik : (first : Int) - 1 - k = ((first - 1 - k : Nat) : Int) := by omega
   obtain ⟨x, hx⟩ : ∃ x, es[first - 1 - k]? = some x := ⟨_, List.getElem?_eq_getElem (by omega)⟩
   have hxe := enA_at hx
   have hcell := gK_cell (es := es) (first := first) (k := k) (s := first - 1 - k) (by omega)
   have hnx : (first : Int) - 1 - (k + 1 : Nat) = ((first - 1 - k : Nat) : Int) - 1 := by omega
   cases hg : jg es first k (first - 1 - k) with
   | true =>
    rw [hg, if_pos rfl] at hcell
    refine At.nrm ?_
    refine At.zi (.q 0 (.q 1 (.q 2 (.q 3 (.q 4 (.q 5 (.q 6 (.q 7 (.q 8 (.q 9 (.q 10 (.q 11 (.q 12 .done))))))))))))) ?_
    refine AtT.zf ?_
    refine AtT.zf ?_
    rw [hik]
    refine AtT.idxZ rfl trivial Tryz.underlying37 tk3 rfl rfl (by omega) (by decide) ?_
    refine AtT.jQ rfl trivial rfl tk3 zP.zI hcell (by decide) ?_
    refine AtT.qF ?_
    refine AtT.zS (d := 21) rfl ((by decide)) ?_
    refine AtT.zf ?_
    all_goals (first | refine AtT.kL 22 ?_ | refine AtT.zw (d := 22) rfl (fun hg22 => ?_) (fun hg22 => ?_) | refine AtT.zu (d := 22) rfl (fun hg22 => ?_) (fun hg22 => ?_))
    all_goals first|refine AtT.zh ?_|refine AtT.ze ?_|(refine AtT.zf ?_)
    all_goals first|refine AtT.zh ?_|refine AtT.ze ?_|(refine AtT.zf ?_)
    all_goals first|refine AtT.zh ?_|refine AtT.ze ?_|(refine AtT.qm Tryz.underlying24 qH ?_) ; (intro p25 e25 he25 hc25)
    all_goals first|refine AtT.zh ?_|refine AtT.ze ?_|(first | refine AtT.zk zA ?_ | with_reducible refine AtT.zl zA ?_ | refine AtT.zn zA ?_)
    all_goals first|refine AtT.zh ?_|refine AtT.ze ?_|(first | refine AtT.zm tk3 ?_ | refine AtT.zo tk3 ?_)
    all_goals first|refine AtT.zh ?_|refine AtT.ze ?_|(refine AtT.qF ?_)
    all_goals (refine AtT.zx ?_)
    all_goals refine AtT.done ?_
    all_goals (refine At.nrm ?_)
    all_goals refine At.zX rfl rfl ?_
    refine At.nrm ?_
    refine At.zi (.q 0 (.q 1 (.q 2 .done))) ?_
    refine AtT.zf ?_
    first | refine AtT.ji ?_ | refine AtT.jh ?_
    refine AtT.zg ?_
    refine AtT.done ?_
    refine At.nrm ?_
    refine At.round (k + 1) ?_ ?_ ?_ ?_
    ·show first - (k + 1) < first - k; omega
    ·exact ⟨rfl, by omega⟩
    ·exact ⟨rfl, rfl, rfl, ivs (by rw [hnx]), trivial⟩
    rw [gK_same (by rw [hg]; simp)]
    ·exact Pt.zI
   | false =>
    rw [hg, if_neg (by simp)] at hcell
    by_cases h4 : x.k = 4
    ·have hb := hbk (first - 1 - k) (by omega) (by rw [hxe]; exact h4)
     rw [hxe] at hb
     obtain ⟨T, hT⟩ : ∃ T : Nat, x.t = (T : Int) := ⟨x.t.toNat, by omega⟩
     have hput := gK_put (es := es) (first := first) (k := k) (T := T) (by rw [hxe]; exact hT) (by rw [hxe]; exact h4) hg
     have hlt : T * 1 < (flat ei (gK es first k)).length := by rw [gK_flen]; omega
     refine At.nrm ?_
     refine At.zi (.q 0 (.q 1 (.q 2 (.q 3 (.q 4 (.q 5 (.q 6 (.q 7 (.q 8 (.q 9 (.q 10 (.q 11 (.q 12 .done))))))))))))) ?_
     refine AtT.zf ?_
     refine AtT.zf ?_
     rw [hik]
     refine AtT.idxZ rfl trivial Tryz.underlying37 tk3 rfl rfl (by omega) (by decide) ?_
     refine AtT.jQ rfl trivial rfl tk3 zP.zI hcell (by decide) ?_
     refine AtT.qF ?_
     refine AtT.qa (d := 21) rfl ((by decide)) ?_
     refine AtT.zf ?_
     all_goals (first | refine AtT.kL 22 ?_ | refine AtT.zw (d := 22) rfl (fun hg22 => ?_) (fun hg22 => ?_) | refine AtT.zu (d := 22) rfl (fun hg22 => ?_) (fun hg22 => ?_))
     all_goals first|refine AtT.zh ?_|refine AtT.ze ?_|(refine AtT.zf ?_)
     all_goals first|refine AtT.zh ?_|refine AtT.ze ?_|(refine AtT.zf ?_)
     all_goals first|refine AtT.zh ?_|refine AtT.ze ?_|(refine AtT.qm Tryz.underlying24 qH ?_) ; (intro p25 e25 he25 hc25)
     all_goals (obtain rfl : x = e25 := by have : es[first - 1 - k]? = some e25 := (by simpa using he25); rw [hx] at this; simpa using this)
     all_goals first|refine AtT.zh ?_|refine AtT.ze ?_|(first | refine AtT.zk zA ?_ | with_reducible refine AtT.zl zA ?_ | refine AtT.zn zA ?_)
     all_goals first|refine AtT.zh ?_|refine AtT.ze ?_|(first | refine AtT.zm tk3 ?_ | refine AtT.zo tk3 ?_)
     all_goals first|refine AtT.zh ?_|refine AtT.ze ?_|(refine AtT.qF ?_)
     all_goals (refine AtT.qa (d := 28) rfl (h4) ?_)
     all_goals (refine AtT.zx ?_)
     all_goals refine AtT.done ?_
     all_goals (refine At.nrm ?_)
     all_goals refine At.zU rfl rfl ?_
     refine At.nrm ?_
     refine At.zi (.q 0 (.q 1 (.q 2 (.q 3 (.q 4 (.q 5 (.q 6 (.n true 7 .done)))))))) ?_
     refine AtT.zf ?_
     refine AtT.zf ?_
     refine AtT.zf ?_
     refine AtT.qm Tryz.underlying24 qH ?_
     intro p33 e33 he33 hc33
     obtain rfl : x = e33 := by have : es[first - 1 - k]? = some e33 := (by simpa using he33); rw [hx] at this; simpa using this
     first | refine AtT.zk zL ?_ | with_reducible refine AtT.zl zL ?_ | refine AtT.zn zL ?_
     first | refine AtT.zm tk3 ?_ | refine AtT.zo tk3 ?_
     rw [hT]
     refine AtT.idxZ rfl trivial Tryz.underlying37 tk3 rfl rfl (by omega) (by decide) ?_
     refine AtT.jK rfl trivial rfl rfl tk3 rfl rfl (by repeat first|exact Upd.here|apply Upd.there) (qU hlt hput) ?_
     refine AtT.done ?_
     refine At.nrm ?_
     refine At.nrm ?_
     refine At.zi (.q 0 (.q 1 (.q 2 .done))) ?_
     refine AtT.zf ?_
     first | refine AtT.ji ?_ | refine AtT.jh ?_
     refine AtT.zg ?_
     refine AtT.done ?_
     refine At.nrm ?_
     refine At.round (k + 1) ?_ ?_ ?_ ?_
     ·show first - (k + 1) < first - k; omega
     ·exact ⟨rfl, by omega⟩
     ·exact ⟨rfl, rfl, rfl, ivs (by rw [hnx]), trivial⟩
     ·exact Pt.zI
    ·refine At.nrm ?_
     refine At.zi (.q 0 (.q 1 (.q 2 (.q 3 (.q 4 (.q 5 (.q 6 (.q 7 (.q 8 (.q 9 (.q 10 (.q 11 (.q 12 .done))))))))))))) ?_
     refine AtT.zf ?_
     refine AtT.zf ?_
     rw [hik]
     refine AtT.idxZ rfl trivial Tryz.underlying37 tk3 rfl rfl (by omega) (by decide) ?_
     refine AtT.jQ rfl trivial rfl tk3 zP.zI hcell (by decide) ?_
     refine AtT.qF ?_
     refine AtT.qa (d := 21) rfl ((by decide)) ?_
     refine AtT.zf ?_
     all_goals (first | refine AtT.kL 22 ?_ | refine AtT.zw (d := 22) rfl (fun hg22 => ?_) (fun hg22 => ?_) | refine AtT.zu (d := 22) rfl (fun hg22 => ?_) (fun hg22 => ?_))
     all_goals first|refine AtT.zh ?_|refine AtT.ze ?_|(refine AtT.zf ?_)
     all_goals first|refine AtT.zh ?_|refine AtT.ze ?_|(refine AtT.zf ?_)
     all_goals first|refine AtT.zh ?_|refine AtT.ze ?_|(refine AtT.qm Tryz.underlying24 qH ?_) ; (intro p25 e25 he25 hc25)
     all_goals (obtain rfl : x = e25 := by have : es[first - 1 - k]? = some e25 := (by simpa using he25); rw [hx] at this; simpa using this)
     all_goals first|refine AtT.zh ?_|refine AtT.ze ?_|(first | refine AtT.zk zA ?_ | with_reducible refine AtT.zl zA ?_ | refine AtT.zn zA ?_)
     all_goals first|refine AtT.zh ?_|refine AtT.ze ?_|(first | refine AtT.zm tk3 ?_ | refine AtT.zo tk3 ?_)
     all_goals first|refine AtT.zh ?_|refine AtT.ze ?_|(refine AtT.qF ?_)
     all_goals (refine AtT.zS (d := 28) rfl (h4) ?_)
     all_goals (refine AtT.zx ?_)
     all_goals refine AtT.done ?_
     all_goals (refine At.nrm ?_)
     all_goals refine At.zX rfl rfl ?_
     refine At.nrm ?_
     refine At.zi (.q 0 (.q 1 (.q 2 .done))) ?_
     refine AtT.zf ?_
     first | refine AtT.ji ?_ | refine AtT.jh ?_
     refine AtT.zg ?_
     refine AtT.done ?_
     refine At.nrm ?_
     refine At.round (k + 1) ?_ ?_ ?_ ?_
     ·show first - (k + 1) < first - k; omega
     ·exact ⟨rfl, by omega⟩
     ·exact ⟨rfl, rfl, rfl, ivs (by rw [hnx]), trivial⟩
     rw [gK_same (by rw [hxe]; exact fun h => h4 h.1)]
     ·exact Pt.zI
  obtain rfl : k = first := by omega
  refine At.nrm ?_
  refine At.zi (.q 0 .done) ?_
  refine AtT.zg ?_
  refine AtT.done ?_
  refine At.nrm ?_
  refine At.zi (.q 0 .done) ?_
  refine AtT.zg ?_
  refine AtT.done ?_
  refine At.nrm ?_
  refine At.newRow 3 1 ?_
  refine At.lp (ι := Nat × Option Addr × Nat) (KS := fun g => [(1, iv k), (5, .slice (some ⟨b10, 0, none⟩) k k), (7, .slice g.2.1 ((cntJ es k g.1).map fun (i : Nat) => ((i : Nat) : Int)).length g.2.2), (8, iv g.1)])
   (OS := fun g => [.blk b10 (LC (flat ei (gK es k k)) 3), .row (.slice g.2.1 ((cntJ es k g.1).map fun (i : Nat) => ((i : Nat) : Int)).length g.2.2) 3 1 ((cntJ es k g.1).map fun (i : Nat) => ((i : Nat) : Int)).length (flat ei ((cntJ es k g.1).map fun (i : Nat) => ((i : Nat) : Int)))]) (VS := fun g V2 => Le V' V2 ∧ g.1 ≤ k) (μ := fun g => k - g.1) (0, none, 0) ?_ ?_ ?_ ?_
  ·exact ⟨rfl, rfl, rfl, rfl, trivial⟩
  ·exact Pt.zI
  ·exact ⟨Le.refl _, Nat.zero_le _⟩
  rintro ⟨j, ao, co⟩ V2 ks' O' ⟨hV2, hjl⟩ hk hO hl3
  dsimp only at hjl hk hO
  subst hk hO
  have hcl : ((cntJ es k j).map fun (i : Nat) => ((i : Nat) : Int)).length ≤ j := by rw [List.length_map]; exact cntJ_len es k j
  refine At.nrm ?_
  refine At.zi (.q 0 (.q 1 (.q 2 .done))) ?_
  refine AtT.zf ?_
  refine AtT.zf ?_
  refine AtT.qp ?_
  refine AtT.done ?_
  refine At.nrm ?_
  refine At.qb rfl (fun hp2 => ?_) (fun hp2 => ?_)
  ·have hcell := gK_cell (es := es) (first := k) (k := k) (s := j) (by omega)
   cases hg : jg es k k j with
   | true =>
    rw [hg, if_pos rfl] at hcell
    refine At.nrm ?_
    refine At.zi (.q 0 (.q 1 (.q 2 (.q 3 (.q 4 .done))))) ?_
    refine AtT.zf ?_
    refine AtT.zf ?_
    refine AtT.idxZ rfl trivial Tryz.underlying37 tk3 rfl rfl (by omega) (by decide) ?_
    refine AtT.jQ rfl trivial rfl tk3 zP.zI hcell (by decide) ?_
    refine AtT.qF ?_
    refine AtT.zS (d := 46) rfl ((by decide)) ?_
    refine AtT.done ?_
    refine At.nrm ?_
    refine At.zX rfl rfl ?_
    refine At.nrm ?_
    refine At.zi (.q 0 (.q 1 (.q 2 .done))) ?_
    refine AtT.zf ?_
    first | refine AtT.qG ?_ | refine AtT.qd ?_
    refine AtT.zg ?_
    refine AtT.done ?_
    refine At.nrm ?_
    refine At.round (j + 1, ao, co) ?_ ?_ ?_ ?_
    ·show k - (j + 1) < k - j; omega
    ·exact ⟨hV2, by dsimp only; omega⟩
    ·dsimp only; rw [cntJ_out (show gone es k j = true from hg)]; exact ⟨rfl, rfl, rfl, ivs (by omega), trivial⟩
    dsimp only
    rw [cntJ_out (show gone es k j = true from hg)]
    ·exact Pt.zI
   | false =>
    rw [hg, if_neg (by simp)] at hcell
    have hn2 := cntI_in (show gone es k j = false from hg)
    refine At.nrm ?_
    refine At.zi (.q 0 (.q 1 (.q 2 (.q 3 (.q 4 .done))))) ?_
    refine AtT.zf ?_
    refine AtT.zf ?_
    refine AtT.idxZ rfl trivial Tryz.underlying37 tk3 rfl rfl (by omega) (by decide) ?_
    refine AtT.jQ rfl trivial rfl tk3 zP.zI hcell (by decide) ?_
    refine AtT.qF ?_
    refine AtT.qa (d := 46) rfl ((by decide)) ?_
    refine AtT.done ?_
    refine At.nrm ?_
    refine At.zU rfl rfl ?_
    refine At.nrm ?_
    refine At.zi (.q 0 (.q 1 (.n false 2 (.n true 3 (.q 4 .done))))) ?_
    refine AtT.zf ?_
    refine AtT.zf ?_
    refine AtT.zN (qw _) ?_
    intro q49 V49 hV49 hq49
    first | refine AtT.qX Tryz.underlying37 rw3 ?_
    intro a50 c50
    refine AtT.zg ?_
    refine AtT.done ?_
    refine At.nrm ?_
    refine At.nrm ?_
    refine At.zi (.q 0 (.q 1 (.q 2 .done))) ?_
    refine AtT.zf ?_
    first | refine AtT.qG ?_ | refine AtT.qd ?_
    refine AtT.zg ?_
    refine AtT.done ?_
    refine At.nrm ?_
    refine At.round (j + 1, a50, c50) ?_ ?_ ?_ ?_
    ·show k - (j + 1) < k - j; omega
    ·exact ⟨hV2.trans (by assumption), by dsimp only; omega⟩
    ·dsimp only; rw [hn2, List.length_append]; exact ⟨rfl, rfl, rfl, ivs (by omega), trivial⟩
    dsimp only
    rw [hn2, qY, List.length_append]
    ·exact Pt.zI
  obtain rfl : j = k := by omega
  refine At.nrm ?_
  refine At.zi (.q 0 (.q 1 .done)) ?_
  refine AtT.zf ?_
  refine AtT.zg ?_
  refine AtT.done ?_
  refine At.nrm ?_
  refine At.jF Lw.jU rfl rfl zP.zI (fun V4 hV4 hs4 => ?_)
  exact At.qh rfl (.tmp rfl) hs4
end Go.Proofs.YtpoignmclfdgpaaGreatDoor
set_option linter.unusedVariables false
namespace Go.Proofs.YtpoignmclfdgpaaGreatDoor
open Go.Lw Go.Gl Go.Bk Go.RowKit
theorem rbook_f {cx : Cx} {O : List Own} (rs : List Rc) (hrs : qL (-1) rs) (e : En) (he : EnG e) (f : Nat → Int) (hf : ∀ s, s < 8 → 0 ≤ f s ∧ f s ≤ 24000) (b : Nat) (V : View) (v : Value) (hv : RsV V v rs) :
  FncM Tryz.prog cx 92 [v, .slice (some ⟨b, 0, none⟩) 8 8, env e] (.blk b (LC (stC f) 2) :: O) V fun r O' V' => Le V V' ∧ ((r = .bool true ∧ okS rs e f = true ∧ O' = .blk b (LC (stC (stB rs e f)) 2) :: O) ∨ (r = .bool false ∧ okS rs e f = false ∧ ∃ g, O' = .blk b (LC (stC g) 2) :: O)) := by
 have hk := he.k
 have hn0 := he.n
 have ht0 := he.t
 refine fncM_of Tryz.func92 rfl Tryz.ntmps92 (Nat.le_of_ble_eq_true rfl) ?_
 refine At.nrm ?_
 refine At.zi (.n false 0 (.q 1 .done)) ?_
 refine AtT.jE ?_
 intro b5
 refine AtT.zg ?_
 refine AtT.done ?_
 refine At.nrm ?_
 refine At.zi (.q 0 (.q 1 (.q 2 .done))) ?_
 first | refine AtT.zk zA ?_ | with_reducible refine AtT.zl zA ?_ | refine AtT.zn zA ?_
 first | refine AtT.zm tk3 ?_ | refine AtT.zo tk3 ?_
 refine AtT.qF ?_
 refine AtT.done ?_
 refine At.nrm ?_
 refine At.cutG (ι := Unit) (fun _ => [(0, v), (1, .slice (some ⟨b, 0, none⟩) 8 8), (5, .pointer (some ⟨b5, 0, none⟩))]) (fun _ => .blk b5 (LC (ene e) 36) :: .blk b (LC (stC (if e.k = 2 then stA rs e f else f)) 2) :: O) (fun _ V'' => V'' = V) ?_ ?_
 ·refine At.qb rfl (fun k2 => ?_) (fun k2 => ?_)
  ·have ht := ht0 (by omega)
   have hn := hn0 (by omega)
   obtain ⟨T, hT⟩ : ∃ T : Nat, e.t = (T : Int) := ⟨e.t.toNat, by omega⟩
   have hT8 : T < 8 := by omega
   have hfT := hf T hT8
   have hat : (stC f)[T * 1]? = some (iv (f T)) := by rw [Nat.mul_one]; exact stC_at f hT8
   have hset : (stC f).set (T * 1) (iv (f T - e.n)) = stC (stA rs e f) := by rw [Nat.mul_one, stC_set f _ hT8, stA_out k2, hT, Int.toNat_natCast]
   rw [if_pos k2]
   refine At.nrm ?_
   refine At.draw (.q 0 (.q 1 (.q 2 (.q 3 (.q 4 (.q 5 (.q 6 (.q 7 (.q 8 (.n true 9 .done)))))))))) ffm (by kernel_rfl) ?_
   refine AtT.zf ?_
   first | refine AtT.zk zL ?_ | with_reducible refine AtT.zl zL ?_ | refine AtT.zn zL ?_
   first | refine AtT.zm tk3 ?_ | refine AtT.zo tk3 ?_
   rw [hT]
   refine AtT.idxZ rfl trivial Tryz.underlying28 tk2 rfl rfl hT8 (by decide) ?_
   refine AtT.jQ rfl trivial rfl tk2 zP.zI hat (by decide) ?_
   first | refine AtT.zk zO ?_ | with_reducible refine AtT.zl zO ?_ | refine AtT.zn zO ?_
   first | refine AtT.zm tk2 ?_ | refine AtT.zo tk2 ?_
   refine AtT.subt rfl trivial rfl rfl (by decide) (Fit.of (by omega) (by omega)) ?_
   refine AtT.idxZ rfl trivial Tryz.underlying28 tk2 rfl rfl hT8 (by decide) ?_
   refine AtT.jK rfl trivial rfl rfl tk2 rfl rfl (by repeat first|exact Upd.here|apply Upd.there) (qU (by simp; omega) hset) ?_
   refine AtT.done ?_
   refine At.nrm ?_
   rw [← hT]
   exact At.jP () rfl ⟨rfl, rfl, rfl, trivial⟩ Pt.zV
  ·rw [if_neg k2]
   refine At.nrm ?_
   exact At.jP () rfl ⟨rfl, rfl, rfl, trivial⟩ Pt.zV
 rintro _ V1 ks' O' rfl hk1 hO hl1
 subst hk1 hO
 refine At.nrm ?_
 refine At.zi (.q 0 (.q 1 (.q 2 (.n false 3 (.q 4 .done))))) ?_
 refine AtT.zf ?_
 first | refine AtT.zk zL ?_ | with_reducible refine AtT.zl zL ?_ | refine AtT.zn zL ?_
 first | refine AtT.zm tk3 ?_ | refine AtT.zo tk3 ?_
 refine AtT.qg rfl rfl ok48 (partsOf_f rs e.t _ _ hv) ?_
 rintro v25 V25 hV25 ⟨a25, c25, rfl, hs25⟩
 refine AtT.zg ?_
 refine AtT.done ?_
 refine At.nrm ?_
 refine At.zi (.q 0 .done) ?_
 refine AtT.zg ?_
 refine AtT.done ?_
 refine At.nrm ?_
 have hpl := partsOf_len hrs e.t
 have hpn : ∀ p ∈ partsOf rs e.t, 1 ≤ p.n ∧ p.n ≤ 9 := fun p hp => by have := qD hrs hp; omega
 have hz : (if e.k = 2 then stA rs e f else f) = if e.k = 3 then kz e.n ((partsOf rs e.t).take 0) f else stA rs e f := by
  by_cases k2 : e.k = 2
  ·rw [if_pos k2, if_neg (by omega)]
  ·rw [if_neg k2]
   by_cases k3 : e.k = 3
   ·rw [if_pos k3, List.take_zero, lessJ_nil]
   ·rw [if_neg k3, stA_none k2 k3]
 refine At.lp (ι := Nat) (KS := fun j => [(1, .slice (some ⟨b, 0, none⟩) 8 8), (5, .pointer (some ⟨b5, 0, none⟩)), (7, .slice a25 (partsOf rs e.t).length c25), (8, iv j)]) (OS := fun j => .blk b5 (LC (ene e) 36) :: .blk b (LC (stC (if e.k = 3 then kz e.n ((partsOf rs e.t).take j) f else stA rs e f)) 2) :: O)
  (VS := fun j V'' => V'' = V25 ∧ j ≤ (partsOf rs e.t).length) (μ := fun j => (partsOf rs e.t).length - j) 0 ?_ ?_ ?_ ?_
 ·exact ⟨rfl, rfl, rfl, rfl, trivial⟩
 ·rw [hz]; exact Pt.zV
 ·exact ⟨rfl, Nat.zero_le _⟩
 rintro j V2 ks' O' ⟨rfl, hjl⟩ hk1 hO hl2
 subst hk1 hO
 by_cases hgo : e.k = 3 ∧ j < (partsOf rs e.t).length
 ·obtain ⟨k3, hj⟩ := hgo
  have hn := hn0 (by omega)
  obtain ⟨p, hp⟩ : ∃ p, (partsOf rs e.t)[j]? = some p := ⟨_, List.getElem?_eq_getElem hj⟩
  have hpi := qD hrs (List.mem_of_getElem? hp)
  obtain ⟨T, hT⟩ : ∃ T : Nat, p.t = (T : Int) := ⟨p.t.toNat, by omega⟩
  have hT8 : T < 8 := by omega
  have htk : (partsOf rs e.t).take (j + 1) = (partsOf rs e.t).take j ++ [p] := by
   rw [List.take_succ_eq_append_getElem hj]; congr 1; rw [List.getElem?_eq_getElem hj] at hp; simpa using hp
  have hm0 := Int.mul_nonneg (show 0 ≤ e.n by omega) (show 0 ≤ p.n by omega)
  have hm1 : e.n * p.n ≤ 1000 * 9 := Int.mul_le_mul (by omega) (by omega) (by omega) (by decide)
  have hbd := lessJ_bd (c := e.n) (by omega) hf (ps := (partsOf rs e.t).take j) (fun q hq => hpn q (List.mem_of_mem_take hq)) (by rw [List.length_take]; omega) hT8
  have hat : (stC (kz e.n ((partsOf rs e.t).take j) f))[T * 1]? = some (iv (kz e.n ((partsOf rs e.t).take j) f T)) := by rw [Nat.mul_one]; exact stC_at _ hT8
  have hset : (stC (kz e.n ((partsOf rs e.t).take j) f)).set (T * 1) (iv (kz e.n ((partsOf rs e.t).take j) f T - e.n * p.n)) = stC (kz e.n ((partsOf rs e.t).take (j + 1)) f) := by
   rw [Nat.mul_one, stC_set _ _ hT8, htk, lessJ_snoc, hT, Int.toNat_natCast]
  rw [if_pos k3]
  refine At.nrm ?_
  refine At.zi (.q 0 (.q 1 (.q 2 (.q 3 (.q 4 (.q 5 (.q 6 (.q 7 (.q 8 .done))))))))) ?_
  first | refine AtT.zk zA ?_ | with_reducible refine AtT.zl zA ?_ | refine AtT.zn zA ?_
  first | refine AtT.zm tk3 ?_ | refine AtT.zo tk3 ?_
  refine AtT.qF ?_
  refine AtT.qa (d := 28) rfl (k3) ?_
  refine AtT.zf ?_
  all_goals (first | refine AtT.kL 29 ?_ | refine AtT.zw (d := 29) rfl (fun hg29 => ?_) (fun hg29 => ?_) | refine AtT.zu (d := 29) rfl (fun hg29 => ?_) (fun hg29 => ?_))
  all_goals first|refine AtT.zh ?_|refine AtT.ze ?_|(refine AtT.zf ?_)
  all_goals first|refine AtT.zh ?_|refine AtT.ze ?_|(refine AtT.zf ?_)
  all_goals first|refine AtT.zh ?_|refine AtT.ze ?_|(first | refine AtT.zR Tryz.underlying66 ?_ | refine AtT.zQ Tryz.underlying66 ?_)
  all_goals first|refine AtT.zh ?_|refine AtT.ze ?_|(refine AtT.qp ?_)
  all_goals (refine AtT.qa (d := 33) rfl ((by omega)) ?_)
  all_goals (refine AtT.zx ?_)
  all_goals refine AtT.done ?_
  all_goals (refine At.nrm ?_)
  refine At.zU rfl rfl ?_
  refine At.nrm ?_
  refine At.draw (.q 0 (.q 1 (.q 2 (.q 3 (.q 4 (.q 5 (.q 6 (.q 7 (.q 8 (.q 9 (.q 10 (.q 11 (.q 12 (.q 13 (.q 14 (.q 15 (.q 16 (.q 17 (.n true 18 .done))))))))))))))))))) ffm (by kernel_rfl) ?_
  refine AtT.zf ?_
  refine AtT.zf ?_
  refine AtT.zf ?_
  refine AtT.qm Tryz.underlying66 qZ ?_
  intro p40 e40 he40 hc40
  obtain rfl : p = e40 := by have : (partsOf rs e.t)[j]? = some e40 := (by simpa using he40); rw [hp] at this; simpa using this
  first | refine AtT.zk zZ ?_ | with_reducible refine AtT.zl zZ ?_ | refine AtT.zn zZ ?_
  first | refine AtT.zm tk3 ?_ | refine AtT.zo tk3 ?_
  rw [hT]
  refine AtT.idxZ rfl trivial Tryz.underlying28 tk2 rfl rfl hT8 (by decide) ?_
  refine AtT.jQ rfl trivial rfl tk2 zP.zI hat (by decide) ?_
  first | refine AtT.zk zO ?_ | with_reducible refine AtT.zl zO ?_ | refine AtT.zn zO ?_
  first | refine AtT.zm tk2 ?_ | refine AtT.zo tk2 ?_
  refine AtT.zf ?_
  refine AtT.zf ?_
  refine AtT.qm Tryz.underlying66 qZ ?_
  intro p49 e49 he49 hc49
  obtain rfl : p = e49 := by have : (partsOf rs e.t)[j]? = some e49 := (by simpa using he49); rw [hp] at this; simpa using this
  first | refine AtT.zk qi ?_ | with_reducible refine AtT.zl qi ?_ | refine AtT.zn qi ?_
  first | refine AtT.zm tk2 ?_ | refine AtT.zo tk2 ?_
  refine AtT.mul rfl trivial rfl rfl (by decide) (Fit.of (by omega) (by omega)) ?_
  refine AtT.subt rfl trivial rfl rfl (by decide) (Fit.of (by omega) (by omega)) ?_
  refine AtT.idxZ rfl trivial Tryz.underlying28 tk2 rfl rfl hT8 (by decide) ?_
  refine AtT.jK rfl trivial rfl rfl tk2 rfl rfl (by repeat first|exact Upd.here|apply Upd.there) (qU (by simp; omega) hset) ?_
  refine AtT.done ?_
  refine At.nrm ?_
  refine At.nrm ?_
  refine At.zi (.q 0 (.q 1 (.q 2 .done))) ?_
  refine AtT.zf ?_
  first | refine AtT.qG ?_ | refine AtT.qd ?_
  refine AtT.zg ?_
  refine AtT.done ?_
  refine At.nrm ?_
  refine At.round (j + 1) ?_ ?_ ?_ ?_
  ·show (partsOf rs e.t).length - (j + 1) < (partsOf rs e.t).length - j; omega
  ·exact ⟨rfl, by omega⟩
  ·exact ⟨rfl, rfl, rfl, ivs (by omega), trivial⟩
  ·rw [if_pos k3]; exact Pt.zV
 have hend : (if e.k = 3 then kz e.n ((partsOf rs e.t).take j) f else stA rs e f) = stA rs e f := by
  by_cases k3 : e.k = 3
  ·rw [if_pos k3, List.take_of_length_le (by omega), stA_made k3]
  ·rw [if_neg k3]
 rw [hend]
 by_cases k3 : e.k = 3
 ·refine At.nrm ?_
  refine At.zi (.q 0 (.q 1 (.q 2 (.q 3 (.q 4 (.q 5 (.q 6 (.q 7 (.q 8 .done))))))))) ?_
  first | refine AtT.zk zA ?_ | with_reducible refine AtT.zl zA ?_ | refine AtT.zn zA ?_
  first | refine AtT.zm tk3 ?_ | refine AtT.zo tk3 ?_
  refine AtT.qF ?_
  refine AtT.qa (d := 28) rfl (k3) ?_
  refine AtT.zf ?_
  all_goals (first | refine AtT.kL 29 ?_ | refine AtT.zw (d := 29) rfl (fun hg29 => ?_) (fun hg29 => ?_) | refine AtT.zu (d := 29) rfl (fun hg29 => ?_) (fun hg29 => ?_))
  all_goals first|refine AtT.zh ?_|refine AtT.ze ?_|(refine AtT.zf ?_)
  all_goals first|refine AtT.zh ?_|refine AtT.ze ?_|(refine AtT.zf ?_)
  all_goals first|refine AtT.zh ?_|refine AtT.ze ?_|(first | refine AtT.zR Tryz.underlying66 ?_ | refine AtT.zQ Tryz.underlying66 ?_)
  all_goals first|refine AtT.zh ?_|refine AtT.ze ?_|(refine AtT.qp ?_)
  all_goals (refine AtT.zS (d := 33) rfl ((by omega)) ?_)
  all_goals (refine AtT.zx ?_)
  all_goals refine AtT.done ?_
  all_goals (refine At.nrm ?_)
  refine At.zX rfl rfl ?_
  refine At.nrm ?_
  refine At.zi (.q 0 .done) ?_
  refine AtT.zg ?_
  refine AtT.done ?_
  refine At.nrm ?_
  have hsA : ∀ s, s < 8 → -27000 ≤ stA rs e f s ∧ stA rs e f s ≤ 24000 := fun s hs => by
   by_cases k2 : e.k = 2
   ·have := hn0 (by omega)
    rw [stA_out k2]; have := hf s hs; unfold upd; split
    ·have := hf e.t.toNat (by have := ht0 (by omega); omega); omega
    ·omega
   ·by_cases k3 : e.k = 3
    ·rw [stA_made k3]
     have hn := hn0 (by omega)
     exact lessJ_bd (by omega) hf hpn hpl hs
    ·rw [stA_none k2 k3]; have := hf s hs; omega
  refine At.lp (ι := Nat) (KS := fun i => [(1, .slice (some ⟨b, 0, none⟩) 8 8), (5, .pointer (some ⟨b5, 0, none⟩)), (9, iv i)]) (OS := fun _ => .blk b5 (LC (ene e) 36) :: .blk b (LC (stC (stA rs e f)) 2) :: O) (VS := fun i V'' => V'' = V2 ∧ i ≤ 8 ∧ ∀ s, s < i → 0 ≤ stA rs e f s) (μ := fun i => 8 - i) 0 ?_ ?_ ?_ ?_
  ·exact ⟨rfl, rfl, rfl, trivial⟩
  ·exact Pt.zV
  ·exact ⟨rfl, Nat.zero_le _, fun s hs => absurd hs (Nat.not_lt_zero s)⟩
  rintro i V3 ks' O' ⟨rfl, hil, hpos⟩ hk1 hO hl3
  subst hk1 hO
  refine At.nrm ?_
  refine At.zi (.q 0 (.q 1 (.q 2 (.q 3 .done)))) ?_
  refine AtT.zf ?_
  refine AtT.zf ?_
  first | refine AtT.zR Tryz.underlying28 ?_ | refine AtT.zQ Tryz.underlying28 ?_
  refine AtT.qp ?_
  refine AtT.done ?_
  refine At.nrm ?_
  refine At.qb rfl (fun hp => ?_) (fun hp => ?_)
  ·have hi8 : i < 8 := by omega
   have hat : (stC (stA rs e f))[i * 1]? = some (iv (stA rs e f i)) := by rw [Nat.mul_one]; exact stC_at _ hi8
   refine At.nrm ?_
   refine At.zi (.q 0 (.q 1 (.q 2 (.q 3 (.q 4 .done))))) ?_
   refine AtT.zf ?_
   refine AtT.zf ?_
   refine AtT.idxZ rfl trivial Tryz.underlying28 tk2 rfl rfl hi8 (by decide) ?_
   refine AtT.jQ rfl trivial rfl tk2 zP.zI hat (by decide) ?_
   refine AtT.qp ?_
   refine AtT.done ?_
   refine At.nrm ?_
   refine At.qb rfl (fun hlt => ?_) (fun hlt => ?_)
   ·refine At.nrm ?_
    refine At.zi (.q 0 .done) ?_
    refine AtT.zg ?_
    refine AtT.done ?_
    refine At.nrm ?_
    refine At.pt (O' := .blk b (LC (stC (stA rs e f)) 2) :: O) Pt.zV ?_
    refine At.kr rfl (.tmp rfl) ⟨hV25, .inr ⟨rfl, ?_, _, rfl⟩⟩
    cases ho : okS rs e f with
    | false => rfl
    | true => have := okS_iff.1 ho i hi8; omega
   ·refine At.nrm ?_
    refine At.zi (.q 0 (.q 1 (.q 2 .done))) ?_
    refine AtT.zf ?_
    first | refine AtT.qG ?_ | refine AtT.qd ?_
    refine AtT.zg ?_
    refine AtT.done ?_
    refine At.nrm ?_
    refine At.round (i + 1) ?_ ?_ ?_ ?_
    ·show 8 - (i + 1) < 8 - i; omega
    ·refine ⟨rfl, by omega, fun s hs => ?_⟩
     by_cases c : s = i
     ·subst c; omega
     ·exact hpos s (by omega)
    ·exact ⟨rfl, rfl, ivs (by omega), trivial⟩
    ·exact Pt.zV
  have ho : okS rs e f = true := okS_iff.2 fun s hs => hpos s (by omega)
  refine At.nrm ?_
  by_cases ka : e.k = 1 ∨ e.k = 3
  rotate_left
  ·refine At.zi (.q 0 (.q 1 (.q 2 (.q 3 (.q 4 (.q 5 (.q 6 (.q 7 .done)))))))) ?_
   first | refine AtT.zk zA ?_ | with_reducible refine AtT.zl zA ?_ | refine AtT.zn zA ?_
   first | refine AtT.zm tk3 ?_ | refine AtT.zo tk3 ?_
   refine AtT.qF ?_
   refine AtT.zS (d := 68) rfl ((fun h => ka (.inl h))) ?_
   refine AtT.zf ?_
   all_goals (first | refine AtT.kL 69 ?_ | refine AtT.zw (d := 69) rfl (fun hg69 => ?_) (fun hg69 => ?_) | refine AtT.zu (d := 69) rfl (fun hg69 => ?_) (fun hg69 => ?_))
   all_goals first|refine AtT.zh ?_|refine AtT.ze ?_|(first | refine AtT.zk zA ?_ | with_reducible refine AtT.zl zA ?_ | refine AtT.zn zA ?_)
   all_goals first|refine AtT.zh ?_|refine AtT.ze ?_|(first | refine AtT.zm tk3 ?_ | refine AtT.zo tk3 ?_)
   all_goals first|refine AtT.zh ?_|refine AtT.ze ?_|(refine AtT.qF ?_)
   all_goals (refine AtT.zS (d := 72) rfl ((fun h => ka (.inr h))) ?_)
   all_goals (refine AtT.zx ?_)
   all_goals refine AtT.done ?_
   all_goals (refine At.nrm ?_)
   all_goals refine At.zX rfl rfl ?_
   refine At.nrm ?_
   refine At.zi (.q 0 .done) ?_
   refine AtT.zg ?_
   refine AtT.done ?_
   refine At.nrm ?_
   refine At.pt (O' := .blk b (LC (stC (stA rs e f)) 2) :: O) Pt.zV ?_
   exact At.kr rfl (.tmp rfl) ⟨hV25, .inl ⟨rfl, ho, by rw [stB_no ka]⟩⟩
  have ht := ht0 (by omega)
  have hn := hn0 (by omega)
  obtain ⟨T, hT⟩ : ∃ T : Nat, e.t = (T : Int) := ⟨e.t.toNat, by omega⟩
  have hT8 : T < 8 := by omega
  have hsT := hsA T hT8
  have hat : (stC (stA rs e f))[T * 1]? = some (iv (stA rs e f T)) := by rw [Nat.mul_one]; exact stC_at _ hT8
  have hset : (stC (stA rs e f)).set (T * 1) (iv (stA rs e f T + e.n)) = stC (stB rs e f) := by rw [Nat.mul_one, stC_set _ _ hT8, stB_add ka, hT, Int.toNat_natCast]
  by_cases k1 : e.k = 1
  ·refine At.zi (.q 0 (.q 1 (.q 2 (.q 3 (.q 4 (.q 5 (.q 6 (.q 7 .done)))))))) ?_
   first | refine AtT.zk zA ?_ | with_reducible refine AtT.zl zA ?_ | refine AtT.zn zA ?_
   first | refine AtT.zm tk3 ?_ | refine AtT.zo tk3 ?_
   refine AtT.qF ?_
   refine AtT.qa (d := 68) rfl (k1) ?_
   refine AtT.zf ?_
   all_goals (first | refine AtT.kL 69 ?_ | refine AtT.zw (d := 69) rfl (fun hg69 => ?_) (fun hg69 => ?_) | refine AtT.zu (d := 69) rfl (fun hg69 => ?_) (fun hg69 => ?_))
   all_goals first|refine AtT.zh ?_|refine AtT.ze ?_|(first | refine AtT.zk zA ?_ | with_reducible refine AtT.zl zA ?_ | refine AtT.zn zA ?_)
   all_goals first|refine AtT.zh ?_|refine AtT.ze ?_|(first | refine AtT.zm tk3 ?_ | refine AtT.zo tk3 ?_)
   all_goals first|refine AtT.zh ?_|refine AtT.ze ?_|(refine AtT.qF ?_)
   all_goals (refine AtT.zx ?_)
   all_goals refine AtT.done ?_
   all_goals (refine At.nrm ?_)
   all_goals refine At.zU rfl rfl ?_
   refine At.nrm ?_
   refine At.draw (.q 0 (.q 1 (.q 2 (.q 3 (.q 4 (.q 5 (.q 6 (.q 7 (.q 8 (.n true 9 .done)))))))))) ffm (by kernel_rfl) ?_
   refine AtT.zf ?_
   first | refine AtT.zk zL ?_ | with_reducible refine AtT.zl zL ?_ | refine AtT.zn zL ?_
   first | refine AtT.zm tk3 ?_ | refine AtT.zo tk3 ?_
   rw [hT]
   refine AtT.idxZ rfl trivial Tryz.underlying28 tk2 rfl rfl hT8 (by decide) ?_
   refine AtT.jQ rfl trivial rfl tk2 zP.zI hat (by decide) ?_
   first | refine AtT.zk zO ?_ | with_reducible refine AtT.zl zO ?_ | refine AtT.zn zO ?_
   first | refine AtT.zm tk2 ?_ | refine AtT.zo tk2 ?_
   refine AtT.add rfl trivial rfl rfl (by decide) (Fit.of (by omega) (by omega)) ?_
   refine AtT.idxZ rfl trivial Tryz.underlying28 tk2 rfl rfl hT8 (by decide) ?_
   refine AtT.jK rfl trivial rfl rfl tk2 rfl rfl (by repeat first|exact Upd.here|apply Upd.there) (qU (by simp; omega) hset) ?_
   refine AtT.done ?_
   refine At.nrm ?_
   refine At.nrm ?_
   refine At.zi (.q 0 .done) ?_
   refine AtT.zg ?_
   refine AtT.done ?_
   refine At.nrm ?_
   refine At.pt (O' := .blk b (LC (stC (stB rs e f)) 2) :: O) Pt.zV ?_
   exact At.kr rfl (.tmp rfl) ⟨hV25, .inl ⟨rfl, ho, rfl⟩⟩
  ·refine At.zi (.q 0 (.q 1 (.q 2 (.q 3 (.q 4 (.q 5 (.q 6 (.q 7 .done)))))))) ?_
   first | refine AtT.zk zA ?_ | with_reducible refine AtT.zl zA ?_ | refine AtT.zn zA ?_
   first | refine AtT.zm tk3 ?_ | refine AtT.zo tk3 ?_
   refine AtT.qF ?_
   refine AtT.zS (d := 68) rfl (k1) ?_
   refine AtT.zf ?_
   all_goals (first | refine AtT.kL 69 ?_ | refine AtT.zw (d := 69) rfl (fun hg69 => ?_) (fun hg69 => ?_) | refine AtT.zu (d := 69) rfl (fun hg69 => ?_) (fun hg69 => ?_))
   all_goals first|refine AtT.zh ?_|refine AtT.ze ?_|(first | refine AtT.zk zA ?_ | with_reducible refine AtT.zl zA ?_ | refine AtT.zn zA ?_)
   all_goals first|refine AtT.zh ?_|refine AtT.ze ?_|(first | refine AtT.zm tk3 ?_ | refine AtT.zo tk3 ?_)
   all_goals first|refine AtT.zh ?_|refine AtT.ze ?_|(refine AtT.qF ?_)
   all_goals (refine AtT.qa (d := 72) rfl ((by omega)) ?_)
   all_goals (refine AtT.zx ?_)
   all_goals refine AtT.done ?_
   all_goals (refine At.nrm ?_)
   all_goals refine At.zU rfl rfl ?_
   refine At.nrm ?_
   refine At.draw (.q 0 (.q 1 (.q 2 (.q 3 (.q 4 (.q 5 (.q 6 (.q 7 (.q 8 (.n true 9 .done)))))))))) ffm (by kernel_rfl) ?_
   refine AtT.zf ?_
   first | refine AtT.zk zL ?_ | with_reducible refine AtT.zl zL ?_ | refine AtT.zn zL ?_
   first | refine AtT.zm tk3 ?_ | refine AtT.zo tk3 ?_
   rw [hT]
   refine AtT.idxZ rfl trivial Tryz.underlying28 tk2 rfl rfl hT8 (by decide) ?_
   refine AtT.jQ rfl trivial rfl tk2 zP.zI hat (by decide) ?_
   first | refine AtT.zk zO ?_ | with_reducible refine AtT.zl zO ?_ | refine AtT.zn zO ?_
   first | refine AtT.zm tk2 ?_ | refine AtT.zo tk2 ?_
   refine AtT.add rfl trivial rfl rfl (by decide) (Fit.of (by omega) (by omega)) ?_
   refine AtT.idxZ rfl trivial Tryz.underlying28 tk2 rfl rfl hT8 (by decide) ?_
   refine AtT.jK rfl trivial rfl rfl tk2 rfl rfl (by repeat first|exact Upd.here|apply Upd.there) (qU (by simp; omega) hset) ?_
   refine AtT.done ?_
   refine At.nrm ?_
   refine At.nrm ?_
   refine At.zi (.q 0 .done) ?_
   refine AtT.zg ?_
   refine AtT.done ?_
   refine At.nrm ?_
   refine At.pt (O' := .blk b (LC (stC (stB rs e f)) 2) :: O) Pt.zV ?_
   exact At.kr rfl (.tmp rfl) ⟨hV25, .inl ⟨rfl, ho, rfl⟩⟩
 ·refine At.nrm ?_
  refine At.zi (.q 0 (.q 1 (.q 2 (.q 3 (.q 4 (.q 5 (.q 6 (.q 7 (.q 8 .done))))))))) ?_
  first | refine AtT.zk zA ?_ | with_reducible refine AtT.zl zA ?_ | refine AtT.zn zA ?_
  first | refine AtT.zm tk3 ?_ | refine AtT.zo tk3 ?_
  refine AtT.qF ?_
  refine AtT.zS (d := 28) rfl (k3) ?_
  refine AtT.zf ?_
  all_goals (first | refine AtT.kL 29 ?_ | refine AtT.zw (d := 29) rfl (fun hg29 => ?_) (fun hg29 => ?_) | refine AtT.zu (d := 29) rfl (fun hg29 => ?_) (fun hg29 => ?_))
  all_goals first|refine AtT.zh ?_|refine AtT.ze ?_|(refine AtT.zf ?_)
  all_goals first|refine AtT.zh ?_|refine AtT.ze ?_|(refine AtT.zf ?_)
  all_goals first|refine AtT.zh ?_|refine AtT.ze ?_|(first | refine AtT.zR Tryz.underlying66 ?_ | refine AtT.zQ Tryz.underlying66 ?_)
  all_goals first|refine AtT.zh ?_|refine AtT.ze ?_|(refine AtT.qp ?_)
  all_goals (refine AtT.zx ?_)
  all_goals refine AtT.done ?_
  all_goals (refine At.nrm ?_)
  all_goals refine At.zX rfl rfl ?_
  refine At.nrm ?_
  refine At.zi (.q 0 .done) ?_
  refine AtT.zg ?_
  refine AtT.done ?_
  refine At.nrm ?_
  have hsA : ∀ s, s < 8 → -27000 ≤ stA rs e f s ∧ stA rs e f s ≤ 24000 := fun s hs => by
   by_cases k2 : e.k = 2
   ·have := hn0 (by omega)
    rw [stA_out k2]; have := hf s hs; unfold upd; split
    ·have := hf e.t.toNat (by have := ht0 (by omega); omega); omega
    ·omega
   ·by_cases k3 : e.k = 3
    ·rw [stA_made k3]
     have hn := hn0 (by omega)
     exact lessJ_bd (by omega) hf hpn hpl hs
    ·rw [stA_none k2 k3]; have := hf s hs; omega
  refine At.lp (ι := Nat) (KS := fun i => [(1, .slice (some ⟨b, 0, none⟩) 8 8), (5, .pointer (some ⟨b5, 0, none⟩)), (9, iv i)]) (OS := fun _ => .blk b5 (LC (ene e) 36) :: .blk b (LC (stC (stA rs e f)) 2) :: O) (VS := fun i V'' => V'' = V2 ∧ i ≤ 8 ∧ ∀ s, s < i → 0 ≤ stA rs e f s) (μ := fun i => 8 - i) 0 ?_ ?_ ?_ ?_
  ·exact ⟨rfl, rfl, rfl, trivial⟩
  ·exact Pt.zV
  ·exact ⟨rfl, Nat.zero_le _, fun s hs => absurd hs (Nat.not_lt_zero s)⟩
  rintro i V3 ks' O' ⟨rfl, hil, hpos⟩ hk1 hO hl3
  subst hk1 hO
  refine At.nrm ?_
  refine At.zi (.q 0 (.q 1 (.q 2 (.q 3 .done)))) ?_
  refine AtT.zf ?_
  refine AtT.zf ?_
  first | refine AtT.zR Tryz.underlying28 ?_ | refine AtT.zQ Tryz.underlying28 ?_
  refine AtT.qp ?_
  refine AtT.done ?_
  refine At.nrm ?_
  refine At.qb rfl (fun hp => ?_) (fun hp => ?_)
  ·have hi8 : i < 8 := by omega
   have hat : (stC (stA rs e f))[i * 1]? = some (iv (stA rs e f i)) := by rw [Nat.mul_one]; exact stC_at _ hi8
   refine At.nrm ?_
   refine At.zi (.q 0 (.q 1 (.q 2 (.q 3 (.q 4 .done))))) ?_
   refine AtT.zf ?_
   refine AtT.zf ?_
   refine AtT.idxZ rfl trivial Tryz.underlying28 tk2 rfl rfl hi8 (by decide) ?_
   refine AtT.jQ rfl trivial rfl tk2 zP.zI hat (by decide) ?_
   refine AtT.qp ?_
   refine AtT.done ?_
   refine At.nrm ?_
   refine At.qb rfl (fun hlt => ?_) (fun hlt => ?_)
   ·refine At.nrm ?_
    refine At.zi (.q 0 .done) ?_
    refine AtT.zg ?_
    refine AtT.done ?_
    refine At.nrm ?_
    refine At.pt (O' := .blk b (LC (stC (stA rs e f)) 2) :: O) Pt.zV ?_
    refine At.kr rfl (.tmp rfl) ⟨hV25, .inr ⟨rfl, ?_, _, rfl⟩⟩
    cases ho : okS rs e f with
    | false => rfl
    | true => have := okS_iff.1 ho i hi8; omega
   ·refine At.nrm ?_
    refine At.zi (.q 0 (.q 1 (.q 2 .done))) ?_
    refine AtT.zf ?_
    first | refine AtT.qG ?_ | refine AtT.qd ?_
    refine AtT.zg ?_
    refine AtT.done ?_
    refine At.nrm ?_
    refine At.round (i + 1) ?_ ?_ ?_ ?_
    ·show 8 - (i + 1) < 8 - i; omega
    ·refine ⟨rfl, by omega, fun s hs => ?_⟩
     by_cases c : s = i
     ·subst c; omega
     ·exact hpos s (by omega)
    ·exact ⟨rfl, rfl, ivs (by omega), trivial⟩
    ·exact Pt.zV
  have ho : okS rs e f = true := okS_iff.2 fun s hs => hpos s (by omega)
  refine At.nrm ?_
  by_cases ka : e.k = 1 ∨ e.k = 3
  rotate_left
  ·refine At.zi (.q 0 (.q 1 (.q 2 (.q 3 (.q 4 (.q 5 (.q 6 (.q 7 .done)))))))) ?_
   first | refine AtT.zk zA ?_ | with_reducible refine AtT.zl zA ?_ | refine AtT.zn zA ?_
   first | refine AtT.zm tk3 ?_ | refine AtT.zo tk3 ?_
   refine AtT.qF ?_
   refine AtT.zS (d := 68) rfl ((fun h => ka (.inl h))) ?_
   refine AtT.zf ?_
   all_goals (first | refine AtT.kL 69 ?_ | refine AtT.zw (d := 69) rfl (fun hg69 => ?_) (fun hg69 => ?_) | refine AtT.zu (d := 69) rfl (fun hg69 => ?_) (fun hg69 => ?_))
   all_goals first|refine AtT.zh ?_|refine AtT.ze ?_|(first | refine AtT.zk zA ?_ | with_reducible refine AtT.zl zA ?_ | refine AtT.zn zA ?_)
   all_goals first|refine AtT.zh ?_|refine AtT.ze ?_|(first | refine AtT.zm tk3 ?_ | refine AtT.zo tk3 ?_)
   all_goals first|refine AtT.zh ?_|refine AtT.ze ?_|(refine AtT.qF ?_)
   all_goals (refine AtT.zS (d := 72) rfl ((fun h => ka (.inr h))) ?_)
   all_goals (refine AtT.zx ?_)
   all_goals refine AtT.done ?_
   all_goals (refine At.nrm ?_)
   all_goals refine At.zX rfl rfl ?_
   refine At.nrm ?_
   refine At.zi (.q 0 .done) ?_
   refine AtT.zg ?_
   refine AtT.done ?_
   refine At.nrm ?_
   refine At.pt (O' := .blk b (LC (stC (stA rs e f)) 2) :: O) Pt.zV ?_
   exact At.kr rfl (.tmp rfl) ⟨hV25, .inl ⟨rfl, ho, by rw [stB_no ka]⟩⟩
  have ht := ht0 (by omega)
  have hn := hn0 (by omega)
  obtain ⟨T, hT⟩ : ∃ T : Nat, e.t = (T : Int) := ⟨e.t.toNat, by omega⟩
  have hT8 : T < 8 := by omega
  have hsT := hsA T hT8
  have hat : (stC (stA rs e f))[T * 1]? = some (iv (stA rs e f T)) := by rw [Nat.mul_one]; exact stC_at _ hT8
  have hset : (stC (stA rs e f)).set (T * 1) (iv (stA rs e f T + e.n)) = stC (stB rs e f) := by rw [Nat.mul_one, stC_set _ _ hT8, stB_add ka, hT, Int.toNat_natCast]
  by_cases k1 : e.k = 1
  ·refine At.zi (.q 0 (.q 1 (.q 2 (.q 3 (.q 4 (.q 5 (.q 6 (.q 7 .done)))))))) ?_
   first | refine AtT.zk zA ?_ | with_reducible refine AtT.zl zA ?_ | refine AtT.zn zA ?_
   first | refine AtT.zm tk3 ?_ | refine AtT.zo tk3 ?_
   refine AtT.qF ?_
   refine AtT.qa (d := 68) rfl (k1) ?_
   refine AtT.zf ?_
   all_goals (first | refine AtT.kL 69 ?_ | refine AtT.zw (d := 69) rfl (fun hg69 => ?_) (fun hg69 => ?_) | refine AtT.zu (d := 69) rfl (fun hg69 => ?_) (fun hg69 => ?_))
   all_goals first|refine AtT.zh ?_|refine AtT.ze ?_|(first | refine AtT.zk zA ?_ | with_reducible refine AtT.zl zA ?_ | refine AtT.zn zA ?_)
   all_goals first|refine AtT.zh ?_|refine AtT.ze ?_|(first | refine AtT.zm tk3 ?_ | refine AtT.zo tk3 ?_)
   all_goals first|refine AtT.zh ?_|refine AtT.ze ?_|(refine AtT.qF ?_)
   all_goals (refine AtT.zx ?_)
   all_goals refine AtT.done ?_
   all_goals (refine At.nrm ?_)
   all_goals refine At.zU rfl rfl ?_
   refine At.nrm ?_
   refine At.draw (.q 0 (.q 1 (.q 2 (.q 3 (.q 4 (.q 5 (.q 6 (.q 7 (.q 8 (.n true 9 .done)))))))))) ffm (by kernel_rfl) ?_
   refine AtT.zf ?_
   first | refine AtT.zk zL ?_ | with_reducible refine AtT.zl zL ?_ | refine AtT.zn zL ?_
   first | refine AtT.zm tk3 ?_ | refine AtT.zo tk3 ?_
   rw [hT]
   refine AtT.idxZ rfl trivial Tryz.underlying28 tk2 rfl rfl hT8 (by decide) ?_
   refine AtT.jQ rfl trivial rfl tk2 zP.zI hat (by decide) ?_
   first | refine AtT.zk zO ?_ | with_reducible refine AtT.zl zO ?_ | refine AtT.zn zO ?_
   first | refine AtT.zm tk2 ?_ | refine AtT.zo tk2 ?_
   refine AtT.add rfl trivial rfl rfl (by decide) (Fit.of (by omega) (by omega)) ?_
   refine AtT.idxZ rfl trivial Tryz.underlying28 tk2 rfl rfl hT8 (by decide) ?_
   refine AtT.jK rfl trivial rfl rfl tk2 rfl rfl (by repeat first|exact Upd.here|apply Upd.there) (qU (by simp; omega) hset) ?_
   refine AtT.done ?_
   refine At.nrm ?_
   refine At.nrm ?_
   refine At.zi (.q 0 .done) ?_
   refine AtT.zg ?_
   refine AtT.done ?_
   refine At.nrm ?_
   refine At.pt (O' := .blk b (LC (stC (stB rs e f)) 2) :: O) Pt.zV ?_
   exact At.kr rfl (.tmp rfl) ⟨hV25, .inl ⟨rfl, ho, rfl⟩⟩
  ·refine At.zi (.q 0 (.q 1 (.q 2 (.q 3 (.q 4 (.q 5 (.q 6 (.q 7 .done)))))))) ?_
   first | refine AtT.zk zA ?_ | with_reducible refine AtT.zl zA ?_ | refine AtT.zn zA ?_
   first | refine AtT.zm tk3 ?_ | refine AtT.zo tk3 ?_
   refine AtT.qF ?_
   refine AtT.zS (d := 68) rfl (k1) ?_
   refine AtT.zf ?_
   all_goals (first | refine AtT.kL 69 ?_ | refine AtT.zw (d := 69) rfl (fun hg69 => ?_) (fun hg69 => ?_) | refine AtT.zu (d := 69) rfl (fun hg69 => ?_) (fun hg69 => ?_))
   all_goals first|refine AtT.zh ?_|refine AtT.ze ?_|(first | refine AtT.zk zA ?_ | with_reducible refine AtT.zl zA ?_ | refine AtT.zn zA ?_)
   all_goals first|refine AtT.zh ?_|refine AtT.ze ?_|(first | refine AtT.zm tk3 ?_ | refine AtT.zo tk3 ?_)
   all_goals first|refine AtT.zh ?_|refine AtT.ze ?_|(refine AtT.qF ?_)
   all_goals (refine AtT.qa (d := 72) rfl ((by omega)) ?_)
   all_goals (refine AtT.zx ?_)
   all_goals refine AtT.done ?_
   all_goals (refine At.nrm ?_)
   all_goals refine At.zU rfl rfl ?_
   refine At.nrm ?_
   refine At.draw (.q 0 (.q 1 (.q 2 (.q 3 (.q 4 (.q 5 (.q 6 (.q 7 (.q 8 (.n true 9 .done)))))))))) ffm (by kernel_rfl) ?_
   refine AtT.zf ?_
   first | refine AtT.zk zL ?_ | with_reducible refine AtT.zl zL ?_ | refine AtT.zn zL ?_
   first | refine AtT.zm tk3 ?_ | refine AtT.zo tk3 ?_
   rw [hT]
   refine AtT.idxZ rfl trivial Tryz.underlying28 tk2 rfl rfl hT8 (by decide) ?_
   refine AtT.jQ rfl trivial rfl tk2 zP.zI hat (by decide) ?_
   first | refine AtT.zk zO ?_ | with_reducible refine AtT.zl zO ?_ | refine AtT.zn zO ?_
   first | refine AtT.zm tk2 ?_ | refine AtT.zo tk2 ?_
   refine AtT.add rfl trivial rfl rfl (by decide) (Fit.of (by omega) (by omega)) ?_
   refine AtT.idxZ rfl trivial Tryz.underlying28 tk2 rfl rfl hT8 (by decide) ?_
   refine AtT.jK rfl trivial rfl rfl tk2 rfl rfl (by repeat first|exact Upd.here|apply Upd.there) (qU (by simp; omega) hset) ?_
   refine AtT.done ?_
   refine At.nrm ?_
   refine At.nrm ?_
   refine At.zi (.q 0 .done) ?_
   refine AtT.zg ?_
   refine AtT.done ?_
   refine At.nrm ?_
   refine At.pt (O' := .blk b (LC (stC (stB rs e f)) 2) :: O) Pt.zV ?_
   exact At.kr rfl (.tmp rfl) ⟨hV25, .inl ⟨rfl, ho, rfl⟩⟩
end Go.Proofs.YtpoignmclfdgpaaGreatDoor
set_option linter.unusedVariables false
namespace Go.Proofs.YtpoignmclfdgpaaGreatDoor
open Go.Lw Go.Gl Go.Bk Go.RowKit
theorem kv {P : Program} {cx : Cx} {f : FuncId} {args : List Value} {O : List Own} {V : View} {R R' : Value → List Own → View → Prop} (h : FncM P cx f args O V R) (hr : ∀ v O' V', R v O' V' → R' v O' V') : FncM P cx f args O V R' := fun w hm =>
 (h w hm).mono fun e w' ⟨v, O', V', h1, h2, h3⟩ => ⟨v, O', V', h1, h2, hr _ _ _ h3⟩
theorem rbook_ok {cx : Cx} {O : List Own} (rs : List Rc) (hrs : qL (-1) rs) (e : En) (he : EnG e) (f : Nat → Int) (hf : ∀ s, s < 8 → 0 ≤ f s ∧ f s ≤ 24000) (b : Nat) (V : View) (v : Value) (hv : RsV V v rs) (ho : okS rs e f = true) :
  FncM Tryz.prog cx 92 [v, .slice (some ⟨b, 0, none⟩) 8 8, env e] (.blk b (LC (stC f) 2) :: O) V fun r O' V' => Le V V' ∧ r = .bool true ∧ O' = .blk b (LC (stC (stB rs e f)) 2) :: O :=
 kv (rbook_f rs hrs e he f hf b V v hv) fun r O' V' ⟨h1, h2⟩ => by
  rcases h2 with ⟨a, _, c⟩ | ⟨_, b, _⟩
  ·exact ⟨h1, a, c⟩
  ·rw [ho] at b; cases b
theorem rbook_no {cx : Cx} {O : List Own} (rs : List Rc) (hrs : qL (-1) rs) (e : En) (he : EnG e) (f : Nat → Int) (hf : ∀ s, s < 8 → 0 ≤ f s ∧ f s ≤ 24000) (b : Nat) (V : View) (v : Value) (hv : RsV V v rs) (ho : okS rs e f = false) :
  FncM Tryz.prog cx 92 [v, .slice (some ⟨b, 0, none⟩) 8 8, env e] (.blk b (LC (stC f) 2) :: O) V fun r O' V' => Le V V' ∧ r = .bool false :=
 kv (rbook_f rs hrs e he f hf b V v hv) fun r O' V' ⟨h1, h2⟩ => by
  rcases h2 with ⟨_, b, _⟩ | ⟨a, _, _⟩
  ·rw [ho] at b; cases b
  ·exact ⟨h1, a⟩
def RunR (b : Bo) (first : Nat) (day : Int) (r : Value) (V' : View) : Prop :=
 (∃ st v1, runS b.rs b.es first day = some st ∧ r = .tuple #[v1, .bool true] ∧ SlI V' v1 (stL st)) ∨ (runS b.rs b.es first day = none ∧ r = .tuple #[.slice none 0 0, .bool false])
theorem RunR.ok {b : Bo} {first : Nat} {day : Int} {r : Value} {V' : View} (h : RunR b first day r V') {st : Nat → Int} (hs : runS b.rs b.es first day = some st) : ∃ v1, r = .tuple #[v1, .bool true] ∧ SlI V' v1 (stL st) := by
 rcases h with ⟨st', v1, h1, h2, h3⟩ | ⟨h1, _⟩
 ·rw [hs] at h1; cases h1; exact ⟨v1, h2, h3⟩
 ·rw [hs] at h1; cases h1
theorem RunR.no {b : Bo} {first : Nat} {day : Int} {r : Value} {V' : View} (h : RunR b first day r V') (hs : runS b.rs b.es first day = none) : r = .tuple #[.slice none 0 0, .bool false] := by
 rcases h with ⟨st', v1, h1, h2, h3⟩ | ⟨_, h1⟩
 ·rw [hs] at h1; cases h1
 ·exact h1
theorem sl_stL {V : View} {b : Nat} {f : Nat → Int} {E : TypeId} (h : V b = some (LC (stC f) E)) : SlI V (.slice (some ⟨b, 0, none⟩) 8 8) (stL f) := Sl.lit (l := stL f) (jy h) rfl (by simp)
theorem rrun_f (b : Bo) (hb : BoG b) (first : Nat) (hf : first ≤ b.es.length) (hbk : BkOk b.es first) (day : Int) (V : View) (v : Value) (hv : BoV V v b) : Fnc Tryz.prog 67 [v, iv first, iv day] V fun r V' => RunR b first day r V' := by
 have h24 := hb.len
 obtain ⟨v1, a, c, rfl, hr, hes⟩ := hv
 refine ql Tryz.func67 rfl Tryz.ntmps67 (Nat.le_of_ble_eq_true rfl) ?_
 intro w0 hw0
 refine At.nrm ?_
 refine At.zi (.n false 0 (.q 1 (.q 2 .done))) ?_
 refine AtT.jE ?_
 intro b3
 refine AtT.zg ?_
 refine AtT.zg ?_
 refine AtT.done ?_
 refine At.nrm ?_
 refine At.nrm ?_
 refine At.zi (.q 0 (.q 1 (.q 2 (.n false 3 (.q 4 .done))))) ?_
 first | refine AtT.zk zz ?_ | with_reducible refine AtT.zl zz ?_ | refine AtT.zn zz ?_
 first | refine AtT.zm qo ?_ | refine AtT.zo qo ?_
 refine AtT.zf ?_
 refine AtT.qg rfl rfl ok46 (rcntOf_f b.es first hf (by omega) hbk _ _ hes) ?_
 rintro v15 V15 hV15 hs15; obtain ⟨a15, c15, rfl, _⟩ := id hs15
 refine AtT.zg ?_
 refine AtT.done ?_
 refine At.nrm ?_
 refine At.zi (.n false 0 (.q 1 .done)) ?_
 refine AtT.makeSl rfl trivial ei rfl Tryz.underlying28 rw2 rfl rfl (by decide) rfl rfl (by omega) (by omega) (by decide) (m := 8) (za := (0 : Int)) ?_
 intro b16
 refine AtT.zg ?_
 refine AtT.done ?_
 refine At.nrm ?_
 refine At.zi (.q 0 .done) ?_
 refine AtT.zg ?_
 refine AtT.done ?_
 refine At.nrm ?_
 have hcl : (cntI b.es first).length ≤ first := by rw [List.length_map]; exact cntJ_len b.es first first
 refine At.lp (ι := Nat × (Nat → Int)) (KS := fun g => [(2, iv day), (3, .pointer (some ⟨b3, 0, none⟩)), (8, .slice a15 (cntI b.es first).length c15), (9, .slice (some ⟨b16, 0, none⟩) 8 8), (10, iv g.1)]) (OS := fun g => [.blk b3 (LC [v1, .slice a b.es.length c] 26), .blk b16 (LC (stC g.2) 2)])
  (VS := fun g V' => Le V15 V' ∧ g.1 ≤ (cntI b.es first).length ∧ runS b.rs b.es first day = runL b.rs day (((cntS b.es first).drop g.1).map (enA b.es)) g.2 ∧ ∀ s, s < 8 → 0 ≤ g.2 s ∧ g.2 s ≤ 1000 * (g.1 : Int)) (μ := fun g => (cntI b.es first).length - g.1) (0, fun _ => 0) ?_ ?_ ?_ ?_
 ·exact ⟨rfl, rfl, rfl, rfl, rfl, trivial⟩
 ·exact Pt.zI
 ·exact ⟨Le.refl _, Nat.zero_le _, rfl, fun s _ => ⟨by simp, by simp⟩⟩
 rintro ⟨i, f⟩ V' ks' O' ⟨hVV, hil, hrun, hfb⟩ hk hO hl2
 dsimp only at hil hrun hfb hk hO
 subst hk hO
 have hs15' := hs15.le hVV
 have hes' := hes.le (hV15.trans hVV)
 have hr' := hr.le (hV15.trans hVV)
 refine At.nrm ?_
 refine At.zi (.q 0 (.q 1 (.q 2 (.q 3 .done)))) ?_
 refine AtT.zf ?_
 refine AtT.zf ?_
 first | refine AtT.zR Tryz.underlying37 ?_ | refine AtT.zQ Tryz.underlying37 ?_
 refine AtT.qp ?_
 refine AtT.done ?_
 refine At.nrm ?_
 refine At.qb rfl (fun hp => ?_) (fun hp => ?_)
 rotate_left
 ·obtain rfl : i = (cntI b.es first).length := by omega
  rw [List.length_map, List.drop_length] at hrun
  refine At.nrm ?_
  refine At.zi (.q 0 (.q 1 (.q 2 .done))) ?_
  refine AtT.zf ?_
  refine AtT.zg ?_
  refine AtT.zg ?_
  refine AtT.done ?_
  refine At.nrm ?_
  refine At.giveB (b := b16) zP.zI (fun V4 hV4 hb4 => ?_)
  exact At.qN rfl (.tmp rfl) (.tmp rfl) (.inl ⟨f, _, hrun, rfl, sl_stL hb4⟩)
 have hcI : (cntI b.es first).length = (cntS b.es first).length := List.length_map ..
 obtain ⟨q, hq⟩ : ∃ q, (cntS b.es first)[i]? = some q := ⟨_, List.getElem?_eq_getElem (by omega)⟩
 have hqI : (cntI b.es first)[i]? = some (q : Int) := by rw [List.getElem?_map, hq]; rfl
 have hq24 := cntS_lt (List.mem_of_getElem? hq)
 obtain ⟨e, he⟩ : ∃ e, b.es[q]? = some e := ⟨_, List.getElem?_eq_getElem (by omega)⟩
 have hee := enA_at he
 have hg := hb.es e (List.mem_of_getElem? he)
 rw [drop_at hq, List.map_cons, hee, runL_step] at hrun
 have hf24 : ∀ s, s < 8 → 0 ≤ f s ∧ f s ≤ 24000 := fun s hs => by have := hfb s hs; omega
 refine At.nrm ?_
 refine At.draw (.q 0 (.q 1 (.q 2 (.q 3 (.q 4 (.q 5 (.q 6 (.q 7 (.n false 8 (.n true 9 .done)))))))))) ffm (by kernel_rfl) ?_
 first | refine AtT.zk zz ?_ | with_reducible refine AtT.zl zz ?_ | refine AtT.zn zz ?_
 first | refine AtT.zm qo ?_ | refine AtT.zo qo ?_
 refine AtT.zf ?_
 refine AtT.zf ?_
 refine AtT.qm Tryz.underlying37 tk3 ?_
 intro p27 e27 he27 hc27
 obtain rfl : (q : Int) = e27 := by have : (cntI b.es first)[i]? = some e27 := (by simpa using he27); rw [hqI] at this; simpa using this
 first | refine AtT.zm tk3 ?_ | refine AtT.zo tk3 ?_
 refine AtT.qm Tryz.underlying24 qH ?_
 intro p29 e29 he29 hc29
 obtain rfl : e = e29 := by have : b.es[q]? = some e29 := (by simpa using he29); rw [he] at this; simpa using this
 first | refine AtT.zF qH ?_ | refine AtT.zJ qH ?_ | refine AtT.zD qH ?_
 refine AtT.zT z36 ?_
 intro b11
 refine AtT.zy qH ?_
 refine AtT.done ?_
 refine At.nrm ?_
 refine At.nrm ?_
 by_cases hd : e.d ≤ day
 rotate_left
 ·rw [if_pos (by omega)] at hrun
  refine At.zi (.q 0 (.q 1 (.q 2 (.q 3 (.q 4 (.q 5 (.q 6 (.q 7 (.q 8 (.n false 9 (.q 10 (.q 11 .done)))))))))))) ?_
  first | refine AtT.zk qc ?_ | with_reducible refine AtT.zl qc ?_ | refine AtT.zn qc ?_
  first | refine AtT.zm tk3 ?_ | refine AtT.zo tk3 ?_
  refine AtT.zf ?_
  refine AtT.kleq ?_
  refine AtT.zS (d := 34) rfl (hd) ?_
  refine AtT.zf ?_
  all_goals (first | refine AtT.kL 35 ?_ | refine AtT.zw (d := 35) rfl (fun hg35 => ?_) (fun hg35 => ?_) | refine AtT.zu (d := 35) rfl (fun hg35 => ?_) (fun hg35 => ?_))
  all_goals first|refine AtT.zh ?_|refine AtT.ze ?_|(first | refine AtT.zk zC ?_ | with_reducible refine AtT.zl zC ?_ | refine AtT.zn zC ?_)
  all_goals first|refine AtT.zh ?_|refine AtT.ze ?_|(first | refine AtT.zm qz ?_ | refine AtT.zo qz ?_)
  all_goals first|refine AtT.zh ?_|refine AtT.ze ?_|(refine AtT.zf ?_)
  all_goals first|refine AtT.zh ?_|refine AtT.ze ?_|(first | refine AtT.zF qH ?_ | refine AtT.zJ qH ?_ | refine AtT.zD qH ?_)
  all_goals first|refine AtT.qf ?_|refine AtT.zW ?_|((fail))
  all_goals first|refine AtT.zh ?_|refine AtT.ze ?_|(refine AtT.qC ?_)
  all_goals (refine AtT.zx ?_)
  all_goals refine AtT.done ?_
  all_goals (refine At.nrm ?_)
  all_goals refine At.zX rfl rfl ?_
  refine At.nrm ?_
  refine At.zi (.q 0 (.q 1 (.q 2 .done))) ?_
  refine AtT.zf ?_
  first | refine AtT.qG ?_ | refine AtT.qd ?_
  refine AtT.zg ?_
  refine AtT.done ?_
  refine At.nrm ?_
  refine At.round (i + 1, f) ?_ ?_ ?_ ?_
  ·show (cntI b.es first).length - (i + 1) < (cntI b.es first).length - i; omega
  ·exact ⟨hVV, by dsimp only; omega, hrun, fun s hs => by have := hfb s hs; dsimp only; push_cast; omega⟩
  ·exact ⟨rfl, rfl, rfl, rfl, ivs (by dsimp only; push_cast; omega), trivial⟩
  ·exact Pt.zI
 rw [if_neg (by omega)] at hrun
 cases ho : okS b.rs e f with
 | false =>
  rw [if_neg (by rw [ho]; simp)] at hrun
  refine At.zi (.q 0 (.q 1 (.q 2 (.q 3 (.q 4 (.q 5 (.q 6 (.q 7 (.q 8 (.n true 9 (.q 10 (.q 11 .done)))))))))))) ?_
  first | refine AtT.zk qc ?_ | with_reducible refine AtT.zl qc ?_ | refine AtT.zn qc ?_
  first | refine AtT.zm tk3 ?_ | refine AtT.zo tk3 ?_
  refine AtT.zf ?_
  refine AtT.kleq ?_
  refine AtT.qa (d := 34) rfl (hd) ?_
  refine AtT.zf ?_
  all_goals (first | refine AtT.kL 35 ?_ | refine AtT.zw (d := 35) rfl (fun hg35 => ?_) (fun hg35 => ?_) | refine AtT.zu (d := 35) rfl (fun hg35 => ?_) (fun hg35 => ?_))
  all_goals first|refine AtT.zh ?_|refine AtT.ze ?_|(first | refine AtT.zk zC ?_ | with_reducible refine AtT.zl zC ?_ | refine AtT.zn zC ?_)
  all_goals first|refine AtT.zh ?_|refine AtT.ze ?_|(first | refine AtT.zm qz ?_ | refine AtT.zo qz ?_)
  all_goals first|refine AtT.zh ?_|refine AtT.ze ?_|(refine AtT.zf ?_)
  all_goals first|refine AtT.zh ?_|refine AtT.ze ?_|(first | refine AtT.zF qH ?_ | refine AtT.zJ qH ?_ | refine AtT.zD qH ?_)
  all_goals first|refine AtT.qf ?_|refine AtT.zW ?_|((refine AtT.jb rfl ⟨_, _, rfl, rfl, rfl⟩ rfl ok92 (by decide) (zP.perm zP.zI) (rbook_no b.rs hb.rs e hg f hf24 b16 _ _ hr' ho) ?_) ; (rintro _ _ V40 ⟨hV40, rfl⟩))
  all_goals first|refine AtT.zh ?_|refine AtT.ze ?_|(refine AtT.qC ?_)
  all_goals (refine AtT.zx ?_)
  all_goals refine AtT.done ?_
  all_goals (refine At.nrm ?_)
  all_goals refine At.zU rfl rfl ?_
  refine At.nrm ?_
  refine At.zi (.q 0 (.q 1 .done)) ?_
  refine AtT.zg ?_
  refine AtT.zg ?_
  refine AtT.done ?_
  refine At.nrm ?_
  exact At.qN rfl (.tmp rfl) (.tmp rfl) (.inr ⟨hrun, rfl⟩)
 | true =>
  rw [if_pos ho] at hrun
  have hbd := stB_bd hb.rs hg.n hfb ho
  refine At.zi (.q 0 (.q 1 (.q 2 (.q 3 (.q 4 (.q 5 (.q 6 (.q 7 (.q 8 (.n true 9 (.q 10 (.q 11 .done)))))))))))) ?_
  first | refine AtT.zk qc ?_ | with_reducible refine AtT.zl qc ?_ | refine AtT.zn qc ?_
  first | refine AtT.zm tk3 ?_ | refine AtT.zo tk3 ?_
  refine AtT.zf ?_
  refine AtT.kleq ?_
  refine AtT.qa (d := 34) rfl (hd) ?_
  refine AtT.zf ?_
  all_goals (first | refine AtT.kL 35 ?_ | refine AtT.zw (d := 35) rfl (fun hg35 => ?_) (fun hg35 => ?_) | refine AtT.zu (d := 35) rfl (fun hg35 => ?_) (fun hg35 => ?_))
  all_goals first|refine AtT.zh ?_|refine AtT.ze ?_|(first | refine AtT.zk zC ?_ | with_reducible refine AtT.zl zC ?_ | refine AtT.zn zC ?_)
  all_goals first|refine AtT.zh ?_|refine AtT.ze ?_|(first | refine AtT.zm qz ?_ | refine AtT.zo qz ?_)
  all_goals first|refine AtT.zh ?_|refine AtT.ze ?_|(refine AtT.zf ?_)
  all_goals first|refine AtT.zh ?_|refine AtT.ze ?_|(first | refine AtT.zF qH ?_ | refine AtT.zJ qH ?_ | refine AtT.zD qH ?_)
  all_goals first|refine AtT.qf ?_|refine AtT.zW ?_|((refine AtT.jb rfl ⟨_, _, rfl, rfl, rfl⟩ rfl ok92 (by decide) (zP.perm zP.zI) (rbook_ok b.rs hb.rs e hg f hf24 b16 _ _ hr' ho) ?_) ; (rintro _ _ V40 ⟨hV40, rfl, rfl⟩))
  all_goals first|refine AtT.zh ?_|refine AtT.ze ?_|(refine AtT.qC ?_)
  all_goals (refine AtT.zx ?_)
  all_goals refine AtT.done ?_
  all_goals (refine At.nrm ?_)
  all_goals refine At.zX rfl rfl ?_
  refine At.nrm ?_
  refine At.zi (.q 0 (.q 1 (.q 2 .done))) ?_
  refine AtT.zf ?_
  first | refine AtT.qG ?_ | refine AtT.qd ?_
  refine AtT.zg ?_
  refine AtT.done ?_
  refine At.nrm ?_
  refine At.round (i + 1, stB b.rs e f) ?_ ?_ ?_ ?_
  ·show (cntI b.es first).length - (i + 1) < (cntI b.es first).length - i; omega
  ·exact ⟨hVV.trans hV40, by dsimp only; omega, hrun, fun s hs => by have := hbd s hs; dsimp only; push_cast; omega⟩
  ·exact ⟨rfl, rfl, rfl, rfl, ivs (by dsimp only; push_cast; omega), trivial⟩
  ·exact Pt.zI
end Go.Proofs.YtpoignmclfdgpaaGreatDoor
set_option linter.unusedVariables false
namespace Go.Proofs.YtpoignmclfdgpaaGreatDoor
open Go.Lw Go.Gl Go.Bk Go.RowKit
theorem jD (b : Bo) (V : View) (v : Value) (hv : BoV V v b) : Fnc Tryz.prog 28 [v] V fun r _ => r = iv (bkE b) := by
 obtain ⟨v1, a, c, rfl, hr, hes⟩ := id hv
 have hlen := hes.jA
 refine ql Tryz.func28 rfl Tryz.ntmps28 (Nat.le_of_ble_eq_true rfl) ?_
 intro w0 hw0
 refine At.nrm ?_
 refine At.zi (.n false 0 (.q 1 .done)) ?_
 refine AtT.jE ?_
 intro b1
 refine AtT.zg ?_
 refine AtT.done ?_
 refine At.nrm ?_
 refine At.zi (.q 0 (.q 1 (.n false 2 (.q 3 .done)))) ?_
 first | refine AtT.zk zC ?_ | with_reducible refine AtT.zl zC ?_ | refine AtT.zn zC ?_
 first | refine AtT.zm qz ?_ | refine AtT.zo qz ?_
 refine AtT.zG rfl rfl ok21 (rcheckRecipes_f b.rs _ _ hr) ?_
 rintro _ rfl
 refine AtT.qE ?_
 refine AtT.done ?_
 refine At.nrm ?_
 refine At.qb rfl (fun h0 => ?_) (fun h0 => ?_)
 ·refine At.nrm ?_
  refine At.zi (.q 0 (.q 1 (.n false 2 (.q 3 .done)))) ?_
  first | refine AtT.zk zC ?_ | with_reducible refine AtT.zl zC ?_ | refine AtT.zn zC ?_
  first | refine AtT.zm qz ?_ | refine AtT.zo qz ?_
  refine AtT.zG rfl rfl ok21 (rcheckRecipes_f b.rs _ _ hr) ?_
  rintro _ rfl
  refine AtT.zg ?_
  refine AtT.done ?_
  refine At.nrm ?_
  exact At.qh rfl (.tmp rfl) (by unfold bkE; rw [if_pos h0])
 refine At.nrm ?_
 refine At.zi (.q 0 (.q 1 (.q 2 (.q 3 .done)))) ?_
 first | refine AtT.zk zz ?_ | with_reducible refine AtT.zl zz ?_ | refine AtT.zn zz ?_
 first | refine AtT.zm qo ?_ | refine AtT.zo qo ?_
 first | refine AtT.zR Tryz.underlying24 ?_ | refine AtT.zQ Tryz.underlying24 ?_
 refine AtT.qI ?_
 refine AtT.done ?_
 refine At.nrm ?_
 refine At.qb rfl (fun h1 => ?_) (fun h1 => ?_)
 ·refine At.nrm ?_
  refine At.zi (.q 0 .done) ?_
  refine AtT.zg ?_
  refine AtT.done ?_
  refine At.nrm ?_
  exact At.qh rfl (.tmp rfl) (by unfold bkE; rw [if_neg h0, if_pos (by omega)])
 have h24 : ¬ 24 < b.es.length := by omega
 refine At.nrm ?_
 refine At.zi (.q 0 .done) ?_
 refine AtT.zg ?_
 refine AtT.done ?_
 refine At.nrm ?_
 refine At.zi (.q 0 .done) ?_
 refine AtT.zg ?_
 refine AtT.done ?_
 refine At.nrm ?_
 refine At.lp (ι := Nat) (KS := fun k => [(1, .pointer (some ⟨b1, 0, none⟩)), (3, iv (lastE b.es k)), (4, iv k)]) (OS := fun _ => [.blk b1 (LC [v1, .slice a b.es.length c] 26)]) (VS := fun k V' => V' = V ∧ k ≤ b.es.length ∧ entsE b.rs 0 0 b.es = entsE b.rs k (lastE b.es k) (b.es.drop k)) (μ := fun k => b.es.length - k) 0 ?_ ?_ ?_ ?_
 ·exact ⟨rfl, rfl, rfl, trivial⟩
 ·exact Pt.zI
 ·exact ⟨rfl, Nat.zero_le _, rfl⟩
 rintro k V' ks' O' ⟨rfl, hkl, hen⟩ hk hO hl2
 subst hk hO
 refine At.nrm ?_
 refine At.zi (.q 0 (.q 1 (.q 2 (.q 3 (.q 4 .done))))) ?_
 refine AtT.zf ?_
 first | refine AtT.zk zz ?_ | with_reducible refine AtT.zl zz ?_ | refine AtT.zn zz ?_
 first | refine AtT.zm qo ?_ | refine AtT.zo qo ?_
 first | refine AtT.zR Tryz.underlying24 ?_ | refine AtT.zQ Tryz.underlying24 ?_
 refine AtT.qp ?_
 refine AtT.done ?_
 refine At.nrm ?_
 refine At.qb rfl (fun hp => ?_) (fun hp => ?_)
 ·obtain ⟨e, he⟩ : ∃ e, b.es[k]? = some e := ⟨_, List.getElem?_eq_getElem (by omega)⟩
  rw [drop_at he] at hen
  simp only [entsE] at hen
  refine At.nrm ?_
  refine At.draw (.q 0 (.q 1 (.q 2 (.q 3 (.q 4 (.q 5 (.q 6 (.q 7 (.q 8 (.n false 9 (.q 10 .done))))))))))) ffm (by kernel_rfl) ?_
  first | refine AtT.zk zC ?_ | with_reducible refine AtT.zl zC ?_ | refine AtT.zn zC ?_
  first | refine AtT.zm qz ?_ | refine AtT.zo qz ?_
  first | refine AtT.zk zz ?_ | with_reducible refine AtT.zl zz ?_ | refine AtT.zn zz ?_
  first | refine AtT.zm qo ?_ | refine AtT.zo qo ?_
  refine AtT.zf ?_
  refine AtT.qm Tryz.underlying24 qH ?_
  intro p32 e32 he32 hc32
  obtain rfl : e = e32 := by have : b.es[k]? = some e32 := (by simpa using he32); rw [he] at this; simpa using this
  first | refine AtT.zF qH ?_ | refine AtT.zJ qH ?_ | refine AtT.zD qH ?_
  refine AtT.zf ?_
  refine AtT.zf ?_
  refine AtT.zG rfl rfl ok66 (rentE_f b.rs e k (lastE b.es k) _ _ hr) ?_
  rintro _ rfl
  refine AtT.zg ?_
  refine AtT.done ?_
  refine At.nrm ?_
  refine At.nrm ?_
  refine At.zi (.q 0 (.q 1 .done)) ?_
  refine AtT.zf ?_
  refine AtT.qE ?_
  refine AtT.done ?_
  refine At.nrm ?_
  refine At.qb rfl (fun h3 => ?_) (fun h3 => ?_)
  ·rw [if_pos h3] at hen
   refine At.nrm ?_
   refine At.zi (.q 0 (.q 1 .done)) ?_
   refine AtT.zf ?_
   refine AtT.zg ?_
   refine AtT.done ?_
   refine At.nrm ?_
   exact At.qh rfl (.tmp rfl) (by unfold bkE; rw [if_neg h0, if_neg h24, if_pos (by rw [hen]; exact h3), hen])
  rw [if_neg h3] at hen
  refine At.nrm ?_
  refine At.zi (.q 0 (.q 1 (.q 2 (.q 3 (.q 4 (.q 5 (.q 6 .done))))))) ?_
  first | refine AtT.zk zz ?_ | with_reducible refine AtT.zl zz ?_ | refine AtT.zn zz ?_
  first | refine AtT.zm qo ?_ | refine AtT.zo qo ?_
  refine AtT.zf ?_
  refine AtT.qm Tryz.underlying24 qH ?_
  intro p43 e43 he43 hc43
  obtain rfl : e = e43 := by have : b.es[k]? = some e43 := (by simpa using he43); rw [he] at this; simpa using this
  first | refine AtT.zk qc ?_ | with_reducible refine AtT.zl qc ?_ | refine AtT.zn qc ?_
  first | refine AtT.zm tk3 ?_ | refine AtT.zo tk3 ?_
  refine AtT.zg ?_
  refine AtT.done ?_
  refine At.nrm ?_
  refine At.nrm ?_
  refine At.zi (.q 0 (.q 1 (.q 2 .done))) ?_
  refine AtT.zf ?_
  first | refine AtT.qG ?_ | refine AtT.qd ?_
  refine AtT.zg ?_
  refine AtT.done ?_
  refine At.nrm ?_
  refine At.round (k + 1) ?_ ?_ ?_ ?_
  ·show b.es.length - (k + 1) < b.es.length - k; omega
  ·exact ⟨rfl, by omega, by rw [lastE_at he]; push_cast; exact hen⟩
  ·rw [lastE_at he]; exact ⟨rfl, rfl, ivs (by omega), trivial⟩
  ·exact Pt.zI
 obtain rfl : k = b.es.length := by omega
 rw [List.drop_length] at hen
 have hen0 : entsE b.rs 0 0 b.es = 0 := hen
 have hcr : crE b.rs = 0 := Classical.not_not.1 h0
 have hbg := pre_bog hcr (by omega) hen0
 refine At.nrm ?_
 refine At.zi (.q 0 .done) ?_
 refine AtT.zg ?_
 refine AtT.done ?_
 refine At.nrm ?_
 refine At.lp (ι := Nat) (KS := fun j => [(1, .pointer (some ⟨b1, 0, none⟩)), (6, iv ((j : Int) + 1))]) (OS := fun _ => [.blk b1 (LC [v1, .slice a b.es.length c] 26)]) (VS := fun j V2 => Le V' V2 ∧ j ≤ b.es.length ∧ ∀ i, i < j → (runS b.rs b.es (i + 1) 999).isSome = true) (μ := fun j => b.es.length - j) 0 ?_ ?_ ?_ ?_
 ·exact ⟨rfl, rfl, trivial⟩
 ·exact Pt.zI
 ·exact ⟨Le.refl _, Nat.zero_le _, fun i hi => absurd hi (Nat.not_lt_zero i)⟩
 rintro j V2 ks' O' ⟨hV2, hjl, hall⟩ hk hO hl3
 subst hk hO
 have hv2 := hv.le hV2
 refine At.nrm ?_
 refine At.zi (.q 0 (.q 1 (.q 2 (.q 3 (.q 4 .done))))) ?_
 refine AtT.zf ?_
 first | refine AtT.zk zz ?_ | with_reducible refine AtT.zl zz ?_ | refine AtT.zn zz ?_
 first | refine AtT.zm qo ?_ | refine AtT.zo qo ?_
 first | refine AtT.zR Tryz.underlying24 ?_ | refine AtT.zQ Tryz.underlying24 ?_
 refine AtT.kleq ?_
 refine AtT.done ?_
 refine At.nrm ?_
 refine At.qb rfl (fun hp2 => ?_) (fun hp2 => ?_)
 ·have hj1 : (j : Int) + 1 = ((j + 1 : Nat) : Int) := by omega
  cases hrn : runS b.rs b.es (j + 1) 999 with
  | none =>
   refine At.nrm ?_
   refine At.zi (.q 0 (.q 1 (.n false 2 (.q 3 (.q 4 (.q 5 (.q 6 (.q 7 .done)))))))) ?_
   first | refine AtT.zF zH ?_ | refine AtT.zJ zH ?_ | refine AtT.zD zH ?_
   refine AtT.zf ?_
   rw [hj1]
   refine AtT.qg rfl rfl ok67 (rrun_f b hbg (j + 1) (by omega) (ents_bk hen0 (by omega)) 999 _ _ hv2) ?_
   rintro v56 V56 hV56 hR; obtain rfl := hR.no hrn
   refine AtT.zf ?_
   refine AtT.zt ?_
   refine AtT.zt ?_
   refine AtT.zg ?_
   refine AtT.zg ?_
   refine AtT.done ?_
   refine At.nrm ?_
   refine At.nrm ?_
   refine At.zi (.q 0 (.q 1 .done)) ?_
   refine AtT.zf ?_
   refine AtT.qC ?_
   refine AtT.done ?_
   refine At.nrm ?_
   refine At.zU rfl rfl ?_
   refine At.nrm ?_
   refine At.zi (.q 0 .done) ?_
   refine AtT.zg ?_
   refine AtT.done ?_
   refine At.nrm ?_
   refine At.qh rfl (.tmp rfl) ?_
   unfold bkE
   rw [if_neg h0, if_neg h24, if_neg (by rw [hen0]; simp), if_neg]
   intro h
   have := List.all_eq_true.1 h j (List.mem_range.2 (by omega))
   rw [hrn] at this; cases this
  | some st =>
   refine At.nrm ?_
   refine At.zi (.q 0 (.q 1 (.n false 2 (.q 3 (.q 4 (.q 5 (.q 6 (.q 7 .done)))))))) ?_
   first | refine AtT.zF zH ?_ | refine AtT.zJ zH ?_ | refine AtT.zD zH ?_
   refine AtT.zf ?_
   rw [hj1]
   refine AtT.qg rfl rfl ok67 (rrun_f b hbg (j + 1) (by omega) (ents_bk hen0 (by omega)) 999 _ _ hv2) ?_
   rintro v56 V56 hV56 hR; obtain ⟨u56, rfl, _⟩ := hR.ok hrn
   refine AtT.zf ?_
   refine AtT.zt ?_
   refine AtT.zt ?_
   refine AtT.zg ?_
   refine AtT.zg ?_
   refine AtT.done ?_
   refine At.nrm ?_
   refine At.nrm ?_
   refine At.zi (.q 0 (.q 1 .done)) ?_
   refine AtT.zf ?_
   refine AtT.qC ?_
   refine AtT.done ?_
   refine At.nrm ?_
   refine At.zX rfl rfl ?_
   refine At.nrm ?_
   refine At.zi (.q 0 (.q 1 (.q 2 .done))) ?_
   refine AtT.zf ?_
   first | refine AtT.qG ?_ | refine AtT.qd ?_
   refine AtT.zg ?_
   refine AtT.done ?_
   refine At.nrm ?_
   refine At.round (j + 1) ?_ ?_ ?_ ?_
   ·show b.es.length - (j + 1) < b.es.length - j; omega
   ·refine ⟨hV2.trans hV56, by omega, fun i hi => ?_⟩
    by_cases e : i = j
    ·subst e; rw [hrn]; rfl
    ·exact hall i (by omega)
   ·exact ⟨rfl, ivs (by omega), trivial⟩
   ·exact Pt.zI
 obtain rfl : j = b.es.length := by omega
 refine At.nrm ?_
 refine At.zi (.q 0 .done) ?_
 refine AtT.zg ?_
 refine AtT.done ?_
 refine At.nrm ?_
 refine At.qh rfl (.tmp rfl) ?_
 rw [kF.2 ⟨hcr, by omega, hen0, hall⟩]
def cntE (b : Bo) (first : Int) : Int := if bkE b ≠ 0 then bkE b else if first < 0 ∨ (b.es.length : Int) < first then 2 else 0
def cntL (b : Bo) (first : Int) : List Int := if cntE b first ≠ 0 then [] else cntI b.es first.toNat
def stkE (b : Bo) (first day : Int) : Int := if bkE b ≠ 0 then bkE b else if first < 0 ∨ (b.es.length : Int) < first then 2 else if day < 0 ∨ 999 < day then 3 else 0
def stkF (b : Bo) (first : Nat) (day : Int) : Nat → Int := (runS b.rs b.es first day).getD fun _ => 0
def stkL (b : Bo) (first day : Int) : List Int := if stkE b first day ≠ 0 then [] else stL (stkF b first.toNat day)
theorem stkF_some {b : Bo} {first : Nat} {day : Int} {st : Nat → Int} (h : runS b.rs b.es first day = some st) : stkF b first day = st := by unfold stkF; rw [h]; rfl
end Go.Proofs.YtpoignmclfdgpaaGreatDoor
set_option linter.unusedVariables false
namespace Go.Bk
open Go.Lw Go.Gl
abbrev ekT (x : Int) : Value := .agg #[iv x]
abbrev zq : RcQ := (⟨0, []⟩, none, 0)
structure WMap (M : MM Int Int) (c : Nat) (W : Nat → Int) : Prop where
 ok : MOk M c
 rng : ∀ s, jL s M = true → 0 ≤ s ∧ s ≤ 7
 get : ∀ s : Nat, qW (s : Int) 0 M = W s
theorem WMap.nil (c : Nat) : WMap [] c fun _ => 0 := ⟨MOk.nil c, fun s h => (by simp [jL] at h), fun s => rfl⟩
theorem WMap.put {M : MM Int Int} {c : Nat} {W : Nat → Int} (h : WMap M c W) {g : Int} (hg : 0 ≤ g ∧ g ≤ 7) (v : Int) : WMap (mput g v M c).1 (mput g v M c).2 (upd W g.toNat v) := by
 refine ⟨mput_ok h.ok, fun s hs => ?_, fun s => ?_⟩
 ·rcases (mput_has g s v M c).1 hs with rfl | hs
  ·exact hg
  ·exact h.rng s hs
 ·rw [mput_get, h.get]
  unfold upd
  by_cases e : s = g.toNat
  ·rw [if_pos e, if_pos (by omega)]
  ·rw [if_neg e, if_neg (by omega)]
theorem WMap.del {M : MM Int Int} {c : Nat} {W : Nat → Int} (h : WMap M c W) {g : Int} (hg : 0 ≤ g) : WMap (mdel g M) c (upd W g.toNat 0) := by
 refine ⟨mdel_ok h.ok, fun s hs => h.rng s ((mdel_has h.ok.keys).1 hs).2, fun s => ?_⟩
 rw [mdel_get h.ok.keys, h.get]
 unfold upd
 by_cases e : s = g.toNat
 ·rw [if_pos e, if_pos (by omega)]
 ·rw [if_neg e, if_neg (by omega)]
theorem WMap.at {M : MM Int Int} {c : Nat} {W : Nat → Int} (h : WMap M c W) {g : Int} (hg : 0 ≤ g) : qW g 0 M = W g.toNat := by
 have := h.get g.toNat
 rwa [Int.toNat_of_nonneg hg] at this
theorem rcs_sorted : ∀ {rs : List Rc} {last : Int}, qL last rs → rs.Pairwise fun x y => x.g < y.g
 | [], last, _ => List.Pairwise.nil
 | x :: rs, last, h => by
  cases h with
  | cons h1 h2 =>
   have key : ∀ {l : List Rc} {m : Int}, qL m l → ∀ y ∈ l, m < y.g := by
    intro l
    induction l with
    | nil => intro m _ y hy; cases hy
    | cons a l ih =>
     intro m h y hy
     cases h with
     | cons a1 a2 =>
      rcases List.mem_cons.1 hy with rfl | hy
      ·exact a1.lt
      ·have := ih a2 y hy; have := a1.lt; omega
   exact List.Pairwise.cons (fun y hy => key h2 y hy) (rcs_sorted h2)
theorem partsOf_snoc {l : List Rc} {r : Rc} (h : ∀ x ∈ l, x.g < r.g) (g : Int) : partsOf (l ++ [r]) g = if g = r.g then r.ps else partsOf l g := by
 unfold partsOf
 rw [List.find?_append]
 by_cases e : g = r.g
 ·subst e
  have hn : l.find? (fun x => decide (x.g = r.g)) = none := List.find?_eq_none.2 fun x hx => by have := h x hx; simp; omega
  rw [hn, if_pos rfl]
  simp
 ·rw [if_neg e]
  have hs : [r].find? (fun x => decide (x.g = g)) = none := List.find?_eq_none.2 fun x hx => by simp at hx; subst hx; simp; exact fun h => e h.symm
  rw [hs, Option.or_none]
def RMap (V : View) (m : Nat) (rs : List Rc) : Prop := ∃ (M : MM Int RcQ) (c : Nat), V m = some (qV ekT rcs M c) ∧ ∀ g, (qW g zq M).1.ps = partsOf rs g ∧ Sl V pte 2 (rcs (qW g zq M)) (partsOf rs g)
theorem RMap.le {V V' : View} {m : Nat} {rs : List Rc} (h : RMap V m rs) (hl : Le V V') : RMap V' m rs := by
 obtain ⟨M, c, h1, h2⟩ := h
 exact ⟨M, c, hl _ _ h1, fun g => ⟨(h2 g).1, (h2 g).2.le hl⟩⟩
def RSt (V : View) (M : MM Int RcQ) (rs : List Rc) : Prop := ∀ g, (qW g zq M).1.ps = partsOf rs g ∧ Sl V pte 2 (rcs (qW g zq M)) (partsOf rs g)
theorem RSt.nil (V : View) : RSt V [] [] := fun g => ⟨rfl, Sl.nil _ _ _⟩
theorem RSt.le {V V' : View} {M : MM Int RcQ} {rs : List Rc} (h : RSt V M rs) (hl : Le V V') : RSt V' M rs := fun g => ⟨(h g).1, (h g).2.le hl⟩
theorem RSt.put {V : View} {M : MM Int RcQ} {c : Nat} {rs : List Rc} (h : RSt V M rs) {x : RcQ} (hx : ∀ r ∈ rs, r.g < x.1.g) (hs : Sl V pte 2 (rcs x) x.1.ps) : RSt V (mput x.1.g x M c).1 (rs ++ [x.1]) := fun g => by
 rw [mput_get, partsOf_snoc hx]
 by_cases e : g = x.1.g
 ·rw [if_pos e, if_pos e]; exact ⟨rfl, hs⟩
 ·rw [if_neg e, if_neg e]; exact h g
structure StoV (V : View) (b : Nat) (u1 u2 : Value) (m1 m2 : Nat) : Prop where
 c0 : Cells V ⟨b, 0, none⟩ [u1]
 c1 : Cells V ⟨b, 1, none⟩ [u2]
 c2 : Cells V ⟨b, 2, none⟩ [.map (some m1)]
 c3 : Cells V ⟨b, 3, none⟩ [.map (some m2)]
theorem StoV.le {V V' : View} {b : Nat} {u1 u2 : Value} {m1 m2 : Nat} (h : StoV V b u1 u2 m1 m2) (hl : Le V V') : StoV V' b u1 u2 m1 m2 := ⟨h.c0.le hl, h.c1.le hl, h.c2.le hl, h.c3.le hl⟩
theorem StoV.of {V : View} {b : Nat} {u1 u2 : Value} {m1 m2 : Nat} {E : TypeId} (h : V b = some (LC [u1, u2, .map (some m1), .map (some m2)] E)) : StoV V b u1 u2 m1 m2 := by
 have hc := jy h
 refine ⟨fun j u hj => ?_, fun j u hj => ?_, fun j u hj => ?_, fun j u hj => ?_⟩
 ·match j, hj with
  | 0, hj => exact hc 0 u hj
 ·match j, hj with
  | 0, hj => exact hc 1 u hj
 ·match j, hj with
  | 0, hj => exact hc 2 u hj
 ·match j, hj with
  | 0, hj => exact hc 3 u hj
theorem want_congr {c : Int} {n : Nat} : ∀ {ps : List Pt} {W W' : Nat → Int}, (∀ s, s < n → W s = W' s) → ∀ s, s < n → qK c ps W s = qK c ps W' s
 | [], W, W', h, s, hs => h s hs
 | p :: ps, W, W', h, s, hs => by
  simp only [qK]
  refine want_congr (fun s hs => ?_) s hs
  unfold upd
  split
  ·rename_i e; subst e; rw [h _ hs]
  ·exact h s hs
theorem jB (W : Nat → Int) (a : Nat) (v : Int) (s : Nat) : upd W a v s = if s = a then v else W s := rfl
theorem want_snoc {c : Int} {p : Pt} : ∀ {ps : List Pt} {W : Nat → Int}, qK c (ps ++ [p]) W = upd (qK c ps W) p.t.toNat (qK c ps W p.t.toNat + c * p.n)
 | [], W => rfl
 | q :: ps, W => by
  simp only [List.cons_append, qK]
  exact want_snoc
theorem canW_congr {rs : List Rc} {l : Nat → Int} : ∀ {t : Nat} {W W' : Nat → Int}, (∀ s, s < t → W s = W' s) → canW rs l t W = canW rs l t W'
 | 0, W, W', _ => rfl
 | t + 1, W, W', h => by
  simp only [canW]
  rw [h t (by omega)]
  have h' : ∀ s, s < t → W s = W' s := fun s hs => h s (by omega)
  split
  ·exact canW_congr h'
  ·split
   ·rfl
   ·exact canW_congr (want_congr h')
end Go.Bk
set_option linter.unusedVariables false
namespace Go.Proofs.YtpoignmclfdgpaaGreatDoor
open Go.Lw Go.Gl Go.Bk Go.RowKit
theorem key92 : KeyL Tryz.prog 92 ekT where
 eq a b w := (eqS92 a b).2 w
 ck e a w := by
  have u3 := Tryz.underlying3
  have a3 := Tryz.isAgg3
  have z3 := Tryz.sizeOf3
  have ci : ∀ (x : Int) (w : World), (Instr.checkKey e 9999 3 (.int .i64 x)).run Tryz.prog w = .ok () w := fun x w => by
   rw [show (9999 : Nat) = 9998 + 1 from rfl, Instr.checkKey]
   simp [run_underlying u3, Sem.run_bind, Result.andThen_ok, Sem.run_pure]
  rw [show (10000 : Nat) = 9999 + 1 from rfl, Instr.checkKey]
  simp only [Sem.run_bind, run_underlying Tryz.underlying92, Result.andThen_ok]
  rw [← Array.forIn_toList]
  simp only [List.forIn_cons, List.forIn_nil, Sem.run_bind, Sem.run_pure, Result.andThen_ok]
  generalize (9999 : Nat) = q at ci ⊢
  go_simp
 sb a := by simp [Instr.sameBits]
 now := ⟨_, Tryz.underlying92, .inl fun a b => rfl⟩
theorem newStore_f {cx : Cx} {O : List Own} (rs : List Rc) (hrs : qL (-1) rs) (V : View) (v : Value) (hv : RsV V v rs) :
  FncM Tryz.prog cx 56 [v] O V fun r O' V' => ∃ b m1 m2, r = .pointer (some ⟨b, 0, none⟩) ∧ Le V V' ∧ O' = .blk b (LC [.slice none 0 0, .slice none 0 0, .map (some m1), .map (some m2)] 90) :: .blk m2 (qV ekT iv [] 0) :: O ∧ RMap V' m1 rs := by
 obtain ⟨qs, aq, cq, hqr, rfl, hsq, hq⟩ := hv
 have hlen := hsq.jA
 have hql : qs.length = rs.length := by rw [← hqr, List.length_map]
 have hsort := rcs_sorted hrs
 refine fncM_of Tryz.func56 rfl Tryz.ntmps56 (Nat.le_of_ble_eq_true rfl) ?_
 refine At.nrm ?_
 refine At.zi (.q 0 .done) ?_
 refine AtT.zg ?_
 refine AtT.done ?_
 refine At.nrm ?_
 refine At.zi (.n false 0 (.n false 1 (.q 2 (.n false 3 (.q 4 .done))))) ?_
 refine AtT.makeMap rfl trivial ekT rcs (by decide) ?_
 intro b6
 refine AtT.makeMap rfl trivial ekT iv (by decide) ?_
 intro b7
 refine AtT.qy (bd90_1_2 _ _) ?_
 refine AtT.jE ?_
 intro b9
 refine AtT.zg ?_
 refine AtT.done ?_
 refine At.nrm ?_
 refine At.zi (.q 0 (.q 1 (.q 2 .done))) ?_
 refine AtT.zf ?_
 first | refine AtT.zR Tryz.underlying22 ?_ | refine AtT.zQ Tryz.underlying22 ?_
 refine AtT.zf ?_
 refine AtT.done ?_
 refine At.nrm ?_
 refine At.lp (ι := Nat × MM Int RcQ × Nat) (KS := fun g => [(3, .pointer (some ⟨b9, 0, none⟩)), (10, .slice aq qs.length cq), (11, iv qs.length), (12, iv g.1)])
  (OS := fun g => .blk b9 (LC [.slice none 0 0, .slice none 0 0, .map (some b6), .map (some b7)] 90) :: .blk b7 (qV ekT iv [] 0) :: .blk b6 (qV ekT rcs g.2.1 g.2.2) :: O)
  (VS := fun g V' => V' = V ∧ g.1 ≤ qs.length ∧ RSt V' g.2.1 (rs.take g.1)) (μ := fun g => qs.length - g.1) (0, [], 0) ?_ ?_ ?_ ?_
 ·exact ⟨rfl, rfl, rfl, rfl, trivial⟩
 ·exact Pt.zV
 ·exact ⟨rfl, Nat.zero_le _, RSt.nil _⟩
 rintro ⟨k, M, c⟩ V' ks' O' ⟨rfl, hkl, hst⟩ hk hO hl2
 dsimp only at hkl hst hk hO
 subst hk hO
 refine At.nrm ?_
 refine At.zi (.q 0 .done) ?_
 refine AtT.qp ?_
 refine AtT.done ?_
 refine At.nrm ?_
 refine At.qb rfl (fun hp => ?_) (fun hp => ?_)
 ·obtain ⟨x, hx⟩ : ∃ x, qs[k]? = some x := ⟨_, List.getElem?_eq_getElem (by omega)⟩
  have hbx : rs[k]? = some x.1 := by rw [← hqr]; exact qs_at hx
  have htk : rs.take (k + 1) = rs.take k ++ [x.1] := by
   rw [List.take_succ_eq_append_getElem (by omega)]; congr 1; rw [List.getElem?_eq_getElem (by omega)] at hbx; simpa using hbx
  have hlt : ∀ r ∈ rs.take k, r.g < x.1.g := fun r hr => by
   obtain ⟨j, hj, rfl⟩ := List.mem_take_iff_getElem.1 hr
   have h1 := (List.getElem?_eq_some_iff.1 hbx)
   obtain ⟨h2, h3⟩ := h1
   rw [← h3]
   exact List.pairwise_iff_getElem.1 hsort j k (by omega) h2 (by omega)
  have hst' := RSt.put (c := c) hst hlt (hq x (qs_mem hx))
  rw [← htk] at hst'
  refine At.nrm ?_
  refine At.zi (.q 0 (.q 1 (.n false 2 (.n true 3 .done)))) ?_
  refine AtT.qm Tryz.underlying22 qO ?_
  intro p14 e14 he14 hc14
  obtain rfl : x = e14 := by have : qs[k]? = some e14 := (by simpa using he14); rw [hx] at this; simpa using this
  first | refine AtT.zF qO ?_ | refine AtT.zJ qO ?_ | refine AtT.zD qO ?_
  refine AtT.zT z80 ?_
  intro b5
  refine AtT.zy qO ?_
  refine AtT.done ?_
  refine At.nrm ?_
  refine At.nrm ?_
  refine At.draw (.q 0 (.q 1 (.q 2 (.q 3 (.q 4 (.q 5 (.q 6 (.q 7 (.q 8 (.n true 9 .done)))))))))) ffm (by kernel_rfl) ?_
  refine AtT.zf ?_
  refine AtT.jM ?_
  first | refine AtT.zk jd ?_ | with_reducible refine AtT.zl jd ?_ | refine AtT.zn jd ?_
  first | refine AtT.zm tk87 ?_ | refine AtT.zo tk87 ?_
  first | refine AtT.zk zY ?_ | with_reducible refine AtT.zl zY ?_ | refine AtT.zn zY ?_
  first | refine AtT.zm tk3 ?_ | refine AtT.zo tk3 ?_
  refine AtT.qy (bd92_0 _) ?_
  first | refine AtT.zk zK ?_ | with_reducible refine AtT.zl zK ?_ | refine AtT.zn zK ?_
  first | refine AtT.zm qM ?_ | refine AtT.zo qM ?_
  refine AtT.mapSet rfl trivial key92 x.1.g x Tryz.underlying87 rfl rfl rfl (by repeat first|exact Upd.here|apply Upd.there) ?_
  refine AtT.done ?_
  refine At.nrm ?_
  refine At.nrm ?_
  refine At.zi (.q 0 (.q 1 .done)) ?_
  first | refine AtT.qG ?_ | refine AtT.qd ?_
  refine AtT.zf ?_
  refine AtT.done ?_
  refine At.nrm ?_
  refine At.round (k + 1, (mput x.1.g x M c).1, (mput x.1.g x M c).2) ?_ ?_ ?_ ?_
  ·show qs.length - (k + 1) < qs.length - k; omega
  ·exact ⟨rfl, by dsimp only; omega, hst'⟩
  ·exact ⟨rfl, rfl, rfl, ivs (by dsimp only; omega), trivial⟩
  ·exact Pt.zV
 obtain rfl : k = qs.length := by omega
 rw [hql, List.take_length] at hst
 refine At.nrm ?_
 refine At.zi (.q 0 (.q 1 .done)) ?_
 refine AtT.zf ?_
 refine AtT.zg ?_
 refine AtT.done ?_
 refine At.nrm ?_
 refine At.giveB (b := b6) zP.zI (fun V4 hV4 hb4 => ?_)
 exact At.kr rfl (.tmp rfl) ⟨b9, b6, b7, rfl, hV4, rfl, M, c, hb4, hst.le hV4⟩
theorem want_f {cx : Cx} {O : List Own} (M : MM Int Int) (c : Nat) (W : Nat → Int) (hW : WMap M c W) (g n : Int) (hg : 0 ≤ g ∧ g ≤ 7) (hfit : Fit (W g.toNat + n)) (b m2 : Nat) (m1 : Nat) (u1 u2 : Value) (V : View) (hb : StoV V b u1 u2 m1 m2) :
  FncM Tryz.prog cx 57 [.pointer (some ⟨b, 0, none⟩), iv g, iv n] (.blk m2 (qV ekT iv M c) :: O) V fun r O' V' => r = .tuple #[] ∧ V' = V ∧ O' = .blk m2 (qV ekT iv (mput g (W g.toNat + n) M c).1 (mput g (W g.toNat + n) M c).2) :: O := by
 have hat := hW.at hg.1
 have hb3 := hb.c3
 refine fncM_of Tryz.func57 rfl Tryz.ntmps57 (Nat.le_of_ble_eq_true rfl) ?_
 refine At.nrm ?_
 refine At.zi (.q 0 (.q 1 (.n false 2 (.n true 3 .done)))) ?_
 refine AtT.zf ?_
 refine AtT.qy (bd92_0 _) ?_
 refine AtT.zT z92 ?_
 intro b6
 refine AtT.zy tk92 ?_
 refine AtT.done ?_
 refine At.nrm ?_
 refine At.nrm ?_
 refine At.draw (.q 0 (.q 1 (.q 2 (.q 3 (.q 4 (.q 5 (.q 6 .done))))))) ffm (by kernel_rfl) ?_
 refine AtT.zf ?_
 refine AtT.jM ?_
 first | refine AtT.zk qQ ?_ | with_reducible refine AtT.zl qQ ?_ | refine AtT.zn qQ ?_
 first | refine AtT.zm tk88 ?_ | refine AtT.zo tk88 ?_
 first | refine AtT.zF tk92 ?_ | refine AtT.zJ tk92 ?_ | refine AtT.zD tk92 ?_
 refine AtT.lookupO rfl trivial key92 g (0 : Int) Tryz.underlying88 z2 rfl rfl rfl zP.zI (by decide) ?_
 rw [hat]
 refine AtT.zg ?_
 refine AtT.done ?_
 refine At.nrm ?_
 refine At.nrm ?_
 refine At.draw (.q 0 (.q 1 (.q 2 (.q 3 (.q 4 (.q 5 (.q 6 (.q 7 (.n true 8 .done))))))))) ffm (by kernel_rfl) ?_
 refine AtT.zf ?_
 refine AtT.jM ?_
 first | refine AtT.zk qQ ?_ | with_reducible refine AtT.zl qQ ?_ | refine AtT.zn qQ ?_
 first | refine AtT.zm tk88 ?_ | refine AtT.zo tk88 ?_
 first | refine AtT.zF tk92 ?_ | refine AtT.zJ tk92 ?_ | refine AtT.zD tk92 ?_
 refine AtT.zf ?_
 refine AtT.zf ?_
 refine AtT.add rfl trivial rfl rfl (by decide) hfit ?_
 refine AtT.mapSet rfl trivial key92 g (W g.toNat + n) Tryz.underlying88 rfl rfl rfl (by repeat first|exact Upd.here|apply Upd.there) ?_
 refine AtT.done ?_
 refine At.nrm ?_
 all_goals refine At.pt (O' := .blk m2 (qV ekT iv (mput g (W g.toNat + n) M c).1 (mput g (W g.toNat + n) M c).2) :: O) Pt.zV ?_
 all_goals (exact At.retM0 (.inl rfl) rfl ⟨rfl, rfl, rfl⟩)
theorem split_f {cx : Cx} {O : List Own} (rs : List Rc) (hrs : qL (-1) rs) (M : MM Int Int) (c : Nat) (W : Nat → Int) (hW : WMap M c W) (g : Int) (hg : 0 ≤ g ∧ g ≤ 7) (B : Int) (hB : ∀ s, 0 ≤ W s ∧ W s ≤ B) (hB27 : 0 ≤ B ∧ B ≤ 90000000000000000) (b m1 m2 : Nat) (u1 u2 : Value) (V : View) (hb : StoV V b u1 u2 m1 m2) (hm1 : RMap V m1 rs) :
  FncM Tryz.prog cx 58 [.pointer (some ⟨b, 0, none⟩), iv g] (.blk m2 (qV ekT iv M c) :: O) V fun r O' V' => r = .tuple #[] ∧ V' = V ∧ ∃ M' c', O' = .blk m2 (qV ekT iv M' c') :: O ∧ WMap M' c' (jR rs g.toNat W) ∧ (∀ s : Int, g ≤ s → (jL s M' = true ↔ (jL s M = true ∧ (s = g → partsOf rs g = [])))) := by
 have hat := hW.at hg.1
 have hb3 := hb.c3
 have hb2 := hb.c2
 have hgN : (g.toNat : Int) = g := Int.toNat_of_nonneg hg.1
 obtain ⟨Mr, cr, hr1, hr2⟩ := hm1
 obtain ⟨hr3, hr4⟩ := hr2 g
 have hrcs : rcs (qW g zq Mr) = .slice (qW g zq Mr).2.1 (partsOf rs g).length (qW g zq Mr).2.2 := by
  show Value.slice _ (qW g zq Mr).1.ps.length _ = _
  rw [hr3]
 rw [hrcs] at hr4
 have hWg := hB g.toNat
 have hpl := partsOf_len hrs g
 refine fncM_of Tryz.func58 rfl Tryz.ntmps58 (Nat.le_of_ble_eq_true rfl) ?_
 refine At.nrm ?_
 refine At.zi (.q 0 (.q 1 (.n false 2 (.n true 3 .done)))) ?_
 refine AtT.zf ?_
 refine AtT.qy (bd92_0 _) ?_
 refine AtT.zT z92 ?_
 intro b4
 refine AtT.zy tk92 ?_
 refine AtT.done ?_
 refine At.nrm ?_
 refine At.nrm ?_
 refine At.draw (.q 0 (.q 1 (.q 2 (.q 3 (.q 4 (.q 5 (.q 6 .done))))))) ffm (by kernel_rfl) ?_
 refine AtT.zf ?_
 refine AtT.jM ?_
 first | refine AtT.zk qQ ?_ | with_reducible refine AtT.zl qQ ?_ | refine AtT.zn qQ ?_
 first | refine AtT.zm tk88 ?_ | refine AtT.zo tk88 ?_
 first | refine AtT.zF tk92 ?_ | refine AtT.zJ tk92 ?_ | refine AtT.zD tk92 ?_
 refine AtT.lookupO rfl trivial key92 g (0 : Int) Tryz.underlying88 z2 rfl rfl rfl zP.zI (by decide) ?_
 rw [hat]
 refine AtT.zg ?_
 refine AtT.done ?_
 refine At.nrm ?_
 refine At.nrm ?_
 refine At.draw (.q 0 (.q 1 (.q 2 (.q 3 (.q 4 (.q 5 (.q 6 .done))))))) ffm (by kernel_rfl) ?_
 refine AtT.zf ?_
 refine AtT.jM ?_
 first | refine AtT.zk jd ?_ | with_reducible refine AtT.zl jd ?_ | refine AtT.zn jd ?_
 first | refine AtT.zm tk87 ?_ | refine AtT.zo tk87 ?_
 first | refine AtT.zF tk92 ?_ | refine AtT.zJ tk92 ?_ | refine AtT.zD tk92 ?_
 refine AtT.lookupV rfl trivial key92 g zq Tryz.underlying87 z66 rfl rfl rfl hr1 (by decide) ?_
 refine AtT.zg ?_
 refine AtT.done ?_
 refine At.nrm ?_
 rw [hrcs]
 refine At.nrm ?_
 refine At.zi (.q 0 (.q 1 (.q 2 .done))) ?_
 refine AtT.zf ?_
 first | refine AtT.zR Tryz.underlying66 ?_ | refine AtT.zQ Tryz.underlying66 ?_
 refine AtT.qI ?_
 refine AtT.done ?_
 refine At.nrm ?_
 refine At.qb rfl (fun hp => ?_) (fun hp => ?_)
 rotate_left
 ·have hnil : partsOf rs g = [] := List.length_eq_zero_iff.1 (by omega)
  refine At.nrm ?_
  refine At.pt (O' := .blk m2 (qV ekT iv M c) :: O) Pt.zV ?_
  refine At.retM0 (.inl rfl) rfl ⟨rfl, rfl, M, c, rfl, ?_, fun s _ => ⟨fun h => ⟨h, fun _ => hnil⟩, fun h => h.1⟩⟩
  unfold jR
  rw [hgN, if_pos hnil]; exact hW
 have hne : partsOf rs g ≠ [] := fun h => by rw [h] at hp; simp at hp
 refine At.nrm ?_
 refine At.draw (.q 0 (.q 1 (.q 2 (.q 3 (.q 4 (.n true 5 .done)))))) ffm (by kernel_rfl) ?_
 refine AtT.zf ?_
 refine AtT.jM ?_
 first | refine AtT.zk qQ ?_ | with_reducible refine AtT.zl qQ ?_ | refine AtT.zn qQ ?_
 first | refine AtT.zm tk88 ?_ | refine AtT.zo tk88 ?_
 first | refine AtT.zF tk92 ?_ | refine AtT.zJ tk92 ?_ | refine AtT.zD tk92 ?_
 refine AtT.mapDel rfl trivial key92 g iv rfl Tryz.underlying88 rfl rfl (by repeat first|exact Upd.here|apply Upd.there) ?_
 refine AtT.done ?_
 refine At.nrm ?_
 refine At.nrm ?_
 refine At.zi (.q 0 (.q 1 (.q 2 .done))) ?_
 refine AtT.zf ?_
 first | refine AtT.zR Tryz.underlying66 ?_ | refine AtT.zQ Tryz.underlying66 ?_
 refine AtT.zf ?_
 refine AtT.done ?_
 refine At.nrm ?_
 have hW0 := hW.del (g := g) hg.1
 refine At.lp (ι := Nat × MM Int Int × Nat) (KS := fun q => [(0, .pointer (some ⟨b, 0, none⟩)), (5, iv (W g.toNat)), (31, .slice (qW g zq Mr).2.1 (partsOf rs g).length (qW g zq Mr).2.2), (32, iv (partsOf rs g).length), (33, iv q.1)])
  (OS := fun q => .blk m2 (qV ekT iv q.2.1 q.2.2) :: O)
  (VS := fun q V' => V' = V ∧ q.1 ≤ (partsOf rs g).length ∧ WMap q.2.1 q.2.2 (qK (W g.toNat) ((partsOf rs g).take q.1) (upd W g.toNat 0)) ∧ (∀ s : Int, g ≤ s → (jL s q.2.1 = true ↔ (jL s M = true ∧ s ≠ g))) ∧ (∀ s, qK (W g.toNat) ((partsOf rs g).take q.1) (upd W g.toNat 0) s ≤ B + 9 * B * (q.1 : Int))) (μ := fun q => (partsOf rs g).length - q.1) (0, mdel g M, c) ?_ ?_ ?_ ?_
 ·exact ⟨rfl, rfl, rfl, rfl, rfl, trivial⟩
 ·exact Pt.zV
 ·refine ⟨rfl, Nat.zero_le _, hW0, fun s _ => (mdel_has hW.ok.keys).trans and_comm, fun s => ?_⟩
  show upd W g.toNat 0 s ≤ B + 9 * B * ((0 : Nat) : Int)
  have := hB s
  unfold upd; split <;> simp <;> omega
 rintro ⟨j, Mj, cj⟩ V' ks' O' ⟨rfl, hjl, hWj, hkj, hbj⟩ hk hO hl2
 dsimp only at hjl hWj hkj hbj hk hO
 subst hk hO
 refine At.nrm ?_
 refine At.zi (.q 0 .done) ?_
 refine AtT.qp ?_
 refine AtT.done ?_
 refine At.nrm ?_
 refine At.qb rfl (fun hp2 => ?_) (fun hp2 => ?_)
 ·obtain ⟨p, hpj⟩ : ∃ p, (partsOf rs g)[j]? = some p := ⟨_, List.getElem?_eq_getElem (by omega)⟩
  have hpi := qD hrs (List.mem_of_getElem? hpj)
  have htk : (partsOf rs g).take (j + 1) = (partsOf rs g).take j ++ [p] := by
   rw [List.take_succ_eq_append_getElem (by omega)]; congr 1; rw [List.getElem?_eq_getElem (by omega)] at hpj; simpa using hpj
  have hm0 := Int.mul_nonneg hWg.1 (show 0 ≤ p.n by omega)
  have hm1 : W g.toNat * p.n ≤ B * 9 := Int.mul_le_mul hWg.2 (by omega) (by omega) hB27.1
  have hwj := hbj p.t.toNat
  have hw0 : 0 ≤ qK (W g.toNat) ((partsOf rs g).take j) (upd W g.toNat 0) p.t.toNat := by
   refine Int.le_trans ?_ (want_ge hWg.1 (fun q hq => by have := qD hrs (List.mem_of_mem_take hq); omega) _)
   have := hB p.t.toNat
   unfold upd; split <;> omega
  have hj3 : 9 * B * (j : Int) ≤ 9 * B * 2 := Int.mul_le_mul_of_nonneg_left (by omega) (by omega)
  have hsn := want_snoc (c := W g.toNat) (p := p) (ps := (partsOf rs g).take j) (W := upd W g.toNat 0)
  refine At.nrm ?_
  refine At.zi (.q 0 (.q 1 (.n false 2 (.n true 3 .done)))) ?_
  refine AtT.idx rfl trivial Tryz.underlying66 qZ rfl hr4 rfl (by omega) (by omega) (by decide) ?_
  intro p35 e35 he35 hc35
  obtain rfl : p = e35 := by have : (partsOf rs g)[j]? = some e35 := (by simpa using he35); rw [hpj] at this; simpa using this
  first | refine AtT.zF qZ ?_ | refine AtT.zJ qZ ?_ | refine AtT.zD qZ ?_
  refine AtT.zT z69 ?_
  intro b8
  refine AtT.zy qZ ?_
  refine AtT.done ?_
  refine At.nrm ?_
  refine At.nrm ?_
  refine At.zi (.q 0 (.q 1 (.q 2 (.q 3 (.q 4 (.q 5 (.q 6 (.n true 7 .done)))))))) ?_
  refine AtT.zf ?_
  first | refine AtT.zk zZ ?_ | with_reducible refine AtT.zl zZ ?_ | refine AtT.zn zZ ?_
  first | refine AtT.zm tk3 ?_ | refine AtT.zo tk3 ?_
  refine AtT.zf ?_
  first | refine AtT.zk qi ?_ | with_reducible refine AtT.zl qi ?_ | refine AtT.zn qi ?_
  first | refine AtT.zm tk2 ?_ | refine AtT.zo tk2 ?_
  refine AtT.mul rfl trivial rfl rfl (by decide) (Fit.of (by omega) (by omega)) ?_
  refine AtT.jb rfl trivial rfl ok57 (by decide) (zP.perm zP.zI) (want_f Mj cj _ hWj p.t (W g.toNat * p.n) (by omega) (Fit.of (by omega) (by omega)) b m2 m1 u1 u2 _ hb) ?_
  rintro _ _ _ ⟨rfl, rfl, rfl⟩
  refine AtT.done ?_
  refine At.nrm ?_
  refine At.nrm ?_
  refine At.zi (.q 0 (.q 1 .done)) ?_
  first | refine AtT.qG ?_ | refine AtT.qd ?_
  refine AtT.zf ?_
  refine AtT.done ?_
  refine At.nrm ?_
  refine At.round (j + 1, (mput p.t (qK (W g.toNat) ((partsOf rs g).take j) (upd W g.toNat 0) p.t.toNat + W g.toNat * p.n) Mj cj).1, (mput p.t (qK (W g.toNat) ((partsOf rs g).take j) (upd W g.toNat 0) p.t.toNat + W g.toNat * p.n) Mj cj).2) ?_ ?_ ?_ ?_
  ·show (partsOf rs g).length - (j + 1) < (partsOf rs g).length - j; omega
  ·refine ⟨rfl, by dsimp only; omega, ?_, fun s hs => ?_, fun s => ?_⟩
   ·dsimp only; rw [htk, hsn]; exact hWj.put (by omega) _
   ·rw [mput_has]
    constructor
    ·rintro (h | h)
     ·omega
     ·exact (hkj s hs).1 h
    ·exact fun h => .inr ((hkj s hs).2 h)
   ·dsimp only
    rw [htk, hsn]
    have := hbj s
    have e9 : 9 * B * ((j + 1 : Nat) : Int) = 9 * B * (j : Int) + 9 * B := by push_cast; rw [Int.mul_add, Int.mul_one]
    rw [e9, jB]
    split
    ·omega
    ·omega
  ·exact ⟨rfl, rfl, rfl, rfl, ivs (by dsimp only; omega), trivial⟩
  ·exact Pt.zV
 obtain rfl : j = (partsOf rs g).length := by omega
 rw [List.take_length] at hWj
 refine At.nrm ?_
 refine At.retM0 (.inl rfl) rfl ⟨rfl, rfl, Mj, cj, rfl, ?_, fun s hs => (hkj s hs).trans ⟨fun h => ⟨h.1, fun e => absurd e h.2⟩, fun h => ⟨h.1, fun e => hne (h.2 e)⟩⟩⟩
 unfold jR
 rw [hgN, if_neg hne]; exact hWj
end Go.Proofs.YtpoignmclfdgpaaGreatDoor
set_option linter.unusedVariables false
namespace Go.Bk
open Go.Lw Go.Gl
def lessS (c : Int) (ps : List Pt) : Nat → Int := fun s => (ps.map fun p => if s = p.t.toNat then c * p.n else 0).sum
theorem lessS_zero {c : Int} {s : Nat} : ∀ {ps : List Pt}, (∀ p ∈ ps, s ≠ p.t.toNat) → lessS c ps s = 0
 | [], _ => rfl
 | p :: ps, h => by
  have := lessS_zero (c := c) (s := s) (ps := ps) fun q hq => h q (List.mem_cons_of_mem _ hq)
  unfold lessS at this ⊢
  rw [List.map_cons, List.sum_cons, this, if_neg (h p List.mem_cons_self)]; rfl
theorem lessS_snoc {c : Int} {ps : List Pt} {p : Pt} (h : ∀ q ∈ ps, p.t.toNat ≠ q.t.toNat) : lessS c (ps ++ [p]) = upd (lessS c ps) p.t.toNat (c * p.n) := by
 funext s
 rw [jB]
 unfold lessS
 rw [List.map_append, List.sum_append]
 simp only [List.map_cons, List.map_nil, List.sum_cons, List.sum_nil, Int.add_zero]
 by_cases e : s = p.t.toNat
 ·subst e
  have := lessS_zero (c := c) h
  unfold lessS at this
  rw [this, if_pos rfl, Int.zero_add]
 ·rw [if_neg e, if_neg e]; omega
theorem less_made {rs : List Rc} {e : En} (hk : e.k = 3) : less rs e = lessS e.n (partsOf rs e.t) := by
 funext s; unfold less lessS; rw [if_neg (by omega), if_pos hk]
theorem less_out {rs : List Rc} {e : En} (hk : e.k = 2) : less rs e = upd (fun _ => 0) e.t.toNat e.n := by
 funext s; unfold less upd; rw [if_pos hk]
theorem less_no {rs : List Rc} {e : En} (h2 : e.k ≠ 2) (h3 : e.k ≠ 3) : less rs e = fun _ => 0 := by
 funext s; unfold less; rw [if_neg h2, if_neg h3]
theorem more_yes {e : En} (hk : e.k = 1 ∨ e.k = 3) : more e = upd (fun _ => 0) e.t.toNat e.n := by
 funext s; unfold more upd; rw [if_pos hk]
theorem more_no {e : En} (hk : ¬ (e.k = 1 ∨ e.k = 3)) : more e = fun _ => 0 := by
 funext s; unfold more; rw [if_neg hk]
theorem pts_sorted {g : Int} : ∀ {ps : List Pt} {last : Int}, PtsOk g last ps → ps.Pairwise fun x y => x.t < y.t
 | [], last, _ => List.Pairwise.nil
 | x :: ps, last, h => by
  cases h with
  | cons h1 h2 => exact List.Pairwise.cons (fun y hy => (ptsOk_in h2 y hy).2.2.2.2.2) (pts_sorted h2)
theorem partsOf_sorted {rs : List Rc} (h : qL (-1) rs) (g : Int) : (partsOf rs g).Pairwise fun x y => x.t < y.t := by
 unfold partsOf
 split
 ·rename_i r hr
  exact pts_sorted (ky h r (List.mem_of_find?_eq_some hr)).ps
 ·exact List.Pairwise.nil
theorem parts_ne {rs : List Rc} (h : qL (-1) rs) {g : Int} {j : Nat} {p : Pt} (hp : (partsOf rs g)[j]? = some p) : ∀ q ∈ (partsOf rs g).take j, p.t.toNat ≠ q.t.toNat := fun q hq => by
 obtain ⟨i, hi, rfl⟩ := List.mem_take_iff_getElem.1 hq
 obtain ⟨hj, rfl⟩ := List.getElem?_eq_some_iff.1 hp
 have h1 := List.pairwise_iff_getElem.1 (partsOf_sorted h g) i j (by omega) hj (by omega)
 have h2 := qD h (g := g) (p := (partsOf rs g)[i]) (List.getElem_mem _)
 have h3 := qD h (g := g) (p := (partsOf rs g)[j]) (List.getElem_mem _)
 omega
abbrev ysC (es : List En) (first : Nat) : List (List Value) := (cntI es first).map fun i => [iv i]
theorem cntJ_pre (es : List En) (first : Nat) : ∀ (m n : Nat), n ≤ m → ∃ t, cntJ es first m = cntJ es first n ++ t
 | 0, n, h => by
   obtain rfl : n = 0 := by omega
   exact ⟨[], by simp⟩
 | m + 1, n, h => by
  by_cases e : n = m + 1
  ·subst e; exact ⟨[], by simp⟩
  ·obtain ⟨t, ht⟩ := cntJ_pre es first m n (by omega)
   cases hg : gone es first m with
   | true => exact ⟨t, by rw [cntJ_out hg]; exact ht⟩
   | false => exact ⟨t ++ [m], by rw [cntJ_in hg, ht, List.append_assoc]⟩
theorem ysC_at {es : List En} {first j : Nat} (hj : j < first) (h : gone es first j = false) : (ysC es first)[(cntJ es first j).length]? = some [iv j] := by
 obtain ⟨t, ht⟩ := cntJ_pre es first first (j + 1) (by omega)
 rw [cntJ_in h] at ht
 have e : (cntS es first)[(cntJ es first j).length]? = some j := by
  rw [← cntJ_all, ht, List.append_assoc, List.getElem?_append_right (Nat.le_refl _), Nat.sub_self]; rfl
 unfold ysC cntI
 rw [List.map_map, List.getElem?_map, e]; rfl
end Go.Bk
set_option linter.unusedVariables false
namespace Go.Proofs.YtpoignmclfdgpaaGreatDoor
open Go.Lw Go.Gl Go.Bk Go.RowKit
theorem entE_f (rs : List Rc) (e : En) (index last : Int) (hi : 0 ≤ index ∧ index ≤ 100) (b m1 m2 : Nat) (u1 u2 : Value) (V : View) (hb : StoV V b u1 u2 m1 m2) (hm1 : RMap V m1 rs) : Fnc Tryz.prog 89 [.pointer (some ⟨b, 0, none⟩), env e, iv index, iv last] V fun r _ => r = iv (kD rs e index last) := by
 have hb2 := hb.c2
 obtain ⟨Mr, cr, hr1, hr2⟩ := hm1
 obtain ⟨hr3, hr4⟩ := hr2 e.t
 have hrcs : rcs (qW e.t zq Mr) = .slice (qW e.t zq Mr).2.1 (partsOf rs e.t).length (qW e.t zq Mr).2.2 := by
  show Value.slice _ (qW e.t zq Mr).1.ps.length _ = _
  rw [hr3]
 rw [hrcs] at hr4
 refine ql Tryz.func89 rfl Tryz.ntmps89 (Nat.le_of_ble_eq_true rfl) ?_
 intro w0 hw0
 refine At.nrm ?_
 refine At.zi (.n false 0 (.q 1 .done)) ?_
 refine AtT.jE ?_
 intro b5
 refine AtT.zg ?_
 refine AtT.done ?_
 refine At.nrm ?_
 refine At.zi (.q 0 (.q 1 (.q 2 (.q 3 .done)))) ?_
 first | refine AtT.zk zA ?_ | with_reducible refine AtT.zl zA ?_ | refine AtT.zn zA ?_
 first | refine AtT.zm tk3 ?_ | refine AtT.zo tk3 ?_
 refine AtT.qF ?_
 refine AtT.zg ?_
 refine AtT.done ?_
 refine At.nrm ?_
 refine At.nrm ?_
 by_cases d1 : 0 ≤ e.d ∧ e.d ≤ 999
 rotate_left
 ·refine At.zi (.q 0 (.q 1 (.n false 2 (.n false 3 (.q 4 (.q 5 (.q 6 (.q 7 (.n false 8 (.n false 9 (.q 10 (.q 11 (.q 12 .done))))))))))))) ?_
  first | refine AtT.zk qc ?_ | with_reducible refine AtT.zl qc ?_ | refine AtT.zn qc ?_
  first | refine AtT.zm tk3 ?_ | refine AtT.zo tk3 ?_
  refine AtT.zN (qw _) ?_
  intro q16 V16 hV16 hq16
  have g16 : Le V V16 := by first | exact hV16 | exact Le.trans (by assumption) hV16
  refine AtT.qg rfl rfl jV (qB 0 999 e.d _ _ (Sl.lit (l := [e.d]) hq16 rfl (by simp))) ?_
  rintro v17 V17 hV17 rfl
  have k17 := g16.trans hV17
  refine AtT.zS (d := 17) rfl (d1) ?_
  refine AtT.qC ?_
  refine AtT.qJ (d := 18) rfl ((show (!false) = true from rfl)) ?_
  refine AtT.zf ?_
  all_goals (first | refine AtT.kL 19 ?_ | refine AtT.zw (d := 19) rfl (fun hg19 => ?_) (fun hg19 => ?_) | refine AtT.zu (d := 19) rfl (fun hg19 => ?_) (fun hg19 => ?_))
  all_goals first|refine AtT.zh ?_|refine AtT.ze ?_|(first | refine AtT.zk zA ?_ | with_reducible refine AtT.zl zA ?_ | refine AtT.zn zA ?_)
  all_goals first|refine AtT.zh ?_|refine AtT.ze ?_|(first | refine AtT.zm tk3 ?_ | refine AtT.zo tk3 ?_)
  all_goals first|refine AtT.qf ?_|refine AtT.zW ?_|((refine AtT.zN (qw _) ?_) ; (intro q22 V22 hV22 hq22) ; (have g22 : Le V V22 := by first | exact hV22 | exact Le.trans (by assumption) hV22))
  all_goals first|refine AtT.qf ?_|refine AtT.zW ?_|((refine AtT.qg rfl rfl jV (qB 1 4 e.k _ _ (Sl.lit (l := [e.k]) hq22 rfl (by simp))) ?_) ; (rintro v23 V23 hV23 rfl))
  all_goals first|refine AtT.zh ?_|refine AtT.ze ?_|(refine AtT.qC ?_)
  all_goals (refine AtT.zx ?_)
  all_goals (refine AtT.zg ?_)
  all_goals refine AtT.done ?_
  all_goals (refine At.nrm ?_)
  all_goals refine At.zU rfl rfl ?_
  refine At.nrm ?_
  refine At.zi (.q 0 .done) ?_
  refine AtT.zg ?_
  refine AtT.done ?_
  refine At.nrm ?_
  exact At.qh rfl (.tmp rfl) (by unfold kD; rw [if_pos (by omega)])
 by_cases k1 : 1 ≤ e.k ∧ e.k ≤ 4
 rotate_left
 ·refine At.zi (.q 0 (.q 1 (.n false 2 (.n false 3 (.q 4 (.q 5 (.q 6 (.q 7 (.n false 8 (.n false 9 (.q 10 (.q 11 (.q 12 .done))))))))))))) ?_
  first | refine AtT.zk qc ?_ | with_reducible refine AtT.zl qc ?_ | refine AtT.zn qc ?_
  first | refine AtT.zm tk3 ?_ | refine AtT.zo tk3 ?_
  refine AtT.zN (qw _) ?_
  intro q16 V16 hV16 hq16
  have g16 : Le V V16 := by first | exact hV16 | exact Le.trans (by assumption) hV16
  refine AtT.qg rfl rfl jV (qB 0 999 e.d _ _ (Sl.lit (l := [e.d]) hq16 rfl (by simp))) ?_
  rintro v17 V17 hV17 rfl
  have k17 := g16.trans hV17
  refine AtT.qa (d := 17) rfl (d1) ?_
  refine AtT.qC ?_
  refine AtT.qJ (d := 18) rfl ((show (!true) = false from rfl)) ?_
  refine AtT.zf ?_
  all_goals (first | refine AtT.kL 19 ?_ | refine AtT.zw (d := 19) rfl (fun hg19 => ?_) (fun hg19 => ?_) | refine AtT.zu (d := 19) rfl (fun hg19 => ?_) (fun hg19 => ?_))
  all_goals first|refine AtT.zh ?_|refine AtT.ze ?_|(first | refine AtT.zk zA ?_ | with_reducible refine AtT.zl zA ?_ | refine AtT.zn zA ?_)
  all_goals first|refine AtT.zh ?_|refine AtT.ze ?_|(first | refine AtT.zm tk3 ?_ | refine AtT.zo tk3 ?_)
  all_goals first|refine AtT.qf ?_|refine AtT.zW ?_|((refine AtT.zN (qw _) ?_) ; (intro q22 V22 hV22 hq22) ; (have g22 : Le V V22 := by first | exact hV22 | exact Le.trans (by assumption) hV22))
  all_goals first|refine AtT.qf ?_|refine AtT.zW ?_|((refine AtT.qg rfl rfl jV (qB 1 4 e.k _ _ (Sl.lit (l := [e.k]) hq22 rfl (by simp))) ?_) ; (rintro v23 V23 hV23 rfl))
  all_goals (refine AtT.zS (d := 23) rfl (k1) ?_)
  all_goals first|refine AtT.zh ?_|refine AtT.ze ?_|(refine AtT.qC ?_)
  all_goals (refine AtT.qJ (d := 24) rfl ((show (!false) = true from rfl)) ?_)
  all_goals (refine AtT.zx ?_)
  all_goals (refine AtT.zg ?_)
  all_goals refine AtT.done ?_
  all_goals (refine At.nrm ?_)
  all_goals refine At.zU rfl rfl ?_
  refine At.nrm ?_
  refine At.zi (.q 0 .done) ?_
  refine AtT.zg ?_
  refine AtT.done ?_
  refine At.nrm ?_
  exact At.qh rfl (.tmp rfl) (by unfold kD; rw [if_pos (by omega)])
 refine At.zi (.q 0 (.q 1 (.n false 2 (.n false 3 (.q 4 (.q 5 (.q 6 (.q 7 (.n false 8 (.n false 9 (.q 10 (.q 11 (.q 12 .done))))))))))))) ?_
 first | refine AtT.zk qc ?_ | with_reducible refine AtT.zl qc ?_ | refine AtT.zn qc ?_
 first | refine AtT.zm tk3 ?_ | refine AtT.zo tk3 ?_
 refine AtT.zN (qw _) ?_
 intro q16 V16 hV16 hq16
 have g16 : Le V V16 := by first | exact hV16 | exact Le.trans (by assumption) hV16
 refine AtT.qg rfl rfl jV (qB 0 999 e.d _ _ (Sl.lit (l := [e.d]) hq16 rfl (by simp))) ?_
 rintro v17 V17 hV17 rfl
 have k17 := g16.trans hV17
 refine AtT.qa (d := 17) rfl (d1) ?_
 refine AtT.qC ?_
 refine AtT.qJ (d := 18) rfl ((show (!true) = false from rfl)) ?_
 refine AtT.zf ?_
 all_goals (first | refine AtT.kL 19 ?_ | refine AtT.zw (d := 19) rfl (fun hg19 => ?_) (fun hg19 => ?_) | refine AtT.zu (d := 19) rfl (fun hg19 => ?_) (fun hg19 => ?_))
 all_goals first|refine AtT.zh ?_|refine AtT.ze ?_|(first | refine AtT.zk zA ?_ | with_reducible refine AtT.zl zA ?_ | refine AtT.zn zA ?_)
 all_goals first|refine AtT.zh ?_|refine AtT.ze ?_|(first | refine AtT.zm tk3 ?_ | refine AtT.zo tk3 ?_)
 all_goals first|refine AtT.qf ?_|refine AtT.zW ?_|((refine AtT.zN (qw _) ?_) ; (intro q22 V22 hV22 hq22) ; (have g22 : Le V V22 := by first | exact hV22 | exact Le.trans (by assumption) hV22))
 all_goals first|refine AtT.qf ?_|refine AtT.zW ?_|((refine AtT.qg rfl rfl jV (qB 1 4 e.k _ _ (Sl.lit (l := [e.k]) hq22 rfl (by simp))) ?_) ; (rintro v23 V23 hV23 rfl))
 all_goals (refine AtT.qa (d := 23) rfl (k1) ?_)
 all_goals first|refine AtT.zh ?_|refine AtT.ze ?_|(refine AtT.qC ?_)
 all_goals (refine AtT.qJ (d := 24) rfl ((show (!true) = false from rfl)) ?_)
 all_goals (refine AtT.zx ?_)
 all_goals (refine AtT.zg ?_)
 all_goals refine AtT.done ?_
 all_goals (refine At.nrm ?_)
 all_goals refine At.zX rfl rfl ?_
 refine At.nrm ?_
 have hA : ¬ (¬ (0 ≤ e.d ∧ e.d ≤ 999) ∨ ¬ (1 ≤ e.k ∧ e.k ≤ 4)) := by omega
 have k23 := g22.trans hV23
 have htail : ¬ (e.k = 4 ∧ ¬ (0 ≤ e.t ∧ e.t ≤ index - 1)) → ¬ (e.k = 4 ∧ e.n ≠ 0) → ¬ (e.k ≠ 4 ∧ (¬ (0 ≤ e.t ∧ e.t ≤ 7) ∨ e.n < 1 ∨ 1000 < e.n)) → kD rs e index last = if e.d < last then 12 else if e.k = 3 ∧ partsOf rs e.t = [] then 16 else 0 := fun h1 h2 h3 => by
  unfold kD; rw [if_neg hA, if_neg h1, if_neg h2, if_neg h3]
 by_cases k4 : e.k = 4
 ·by_cases t1 : 0 ≤ e.t ∧ e.t ≤ index - 1
  rotate_left
  ·refine At.zi (.q 0 (.q 1 (.q 2 (.q 3 (.q 4 (.q 5 (.n false 6 (.n false 7 (.q 8 (.q 9 (.q 10 .done))))))))))) ?_
   refine AtT.zf ?_
   refine AtT.qa (d := 27) rfl (k4) ?_
   refine AtT.zf ?_
   all_goals (first | refine AtT.kL 28 ?_ | refine AtT.zw (d := 28) rfl (fun hg28 => ?_) (fun hg28 => ?_) | refine AtT.zu (d := 28) rfl (fun hg28 => ?_) (fun hg28 => ?_))
   all_goals first|refine AtT.zh ?_|refine AtT.ze ?_|(refine AtT.zf ?_)
   all_goals first|refine AtT.zh ?_|refine AtT.ze ?_|(first | refine AtT.ji ?_ | refine AtT.jh ?_)
   all_goals first|refine AtT.zh ?_|refine AtT.ze ?_|(first | refine AtT.zk zL ?_ | with_reducible refine AtT.zl zL ?_ | refine AtT.zn zL ?_)
   all_goals first|refine AtT.zh ?_|refine AtT.ze ?_|(first | refine AtT.zm tk3 ?_ | refine AtT.zo tk3 ?_)
   all_goals first|refine AtT.qf ?_|refine AtT.zW ?_|((refine AtT.zN (qw _) ?_) ; (intro q33 V33 hV33 hq33) ; (have g33 : Le V V33 := by first | exact hV33 | exact Le.trans (by assumption) hV33))
   all_goals first|refine AtT.qf ?_|refine AtT.zW ?_|((refine AtT.qg rfl rfl jV (qB 0 (index - 1) e.t _ _ (Sl.lit (l := [e.t]) hq33 rfl (by simp))) ?_) ; (rintro v34 V34 hV34 rfl))
   all_goals (refine AtT.zS (d := 34) rfl (t1) ?_)
   all_goals first|refine AtT.zh ?_|refine AtT.ze ?_|(refine AtT.qC ?_)
   all_goals (refine AtT.qJ (d := 35) rfl ((show (!false) = true from rfl)) ?_)
   all_goals (refine AtT.zx ?_)
   all_goals (refine AtT.zg ?_)
   all_goals refine AtT.done ?_
   all_goals (refine At.nrm ?_)
   all_goals refine At.zU rfl rfl ?_
   refine At.nrm ?_
   refine At.zi (.q 0 .done) ?_
   refine AtT.zg ?_
   refine AtT.done ?_
   refine At.nrm ?_
   exact At.qh rfl (.tmp rfl) (by unfold kD; rw [if_neg hA, if_pos ⟨k4, t1⟩])
  refine At.zi (.q 0 (.q 1 (.q 2 (.q 3 (.q 4 (.q 5 (.n false 6 (.n false 7 (.q 8 (.q 9 (.q 10 .done))))))))))) ?_
  refine AtT.zf ?_
  refine AtT.qa (d := 27) rfl (k4) ?_
  refine AtT.zf ?_
  all_goals (first | refine AtT.kL 28 ?_ | refine AtT.zw (d := 28) rfl (fun hg28 => ?_) (fun hg28 => ?_) | refine AtT.zu (d := 28) rfl (fun hg28 => ?_) (fun hg28 => ?_))
  all_goals first|refine AtT.zh ?_|refine AtT.ze ?_|(refine AtT.zf ?_)
  all_goals first|refine AtT.zh ?_|refine AtT.ze ?_|(first | refine AtT.ji ?_ | refine AtT.jh ?_)
  all_goals first|refine AtT.zh ?_|refine AtT.ze ?_|(first | refine AtT.zk zL ?_ | with_reducible refine AtT.zl zL ?_ | refine AtT.zn zL ?_)
  all_goals first|refine AtT.zh ?_|refine AtT.ze ?_|(first | refine AtT.zm tk3 ?_ | refine AtT.zo tk3 ?_)
  all_goals first|refine AtT.qf ?_|refine AtT.zW ?_|((refine AtT.zN (qw _) ?_) ; (intro q33 V33 hV33 hq33) ; (have g33 : Le V V33 := by first | exact hV33 | exact Le.trans (by assumption) hV33))
  all_goals first|refine AtT.qf ?_|refine AtT.zW ?_|((refine AtT.qg rfl rfl jV (qB 0 (index - 1) e.t _ _ (Sl.lit (l := [e.t]) hq33 rfl (by simp))) ?_) ; (rintro v34 V34 hV34 rfl))
  all_goals (refine AtT.qa (d := 34) rfl (t1) ?_)
  all_goals first|refine AtT.zh ?_|refine AtT.ze ?_|(refine AtT.qC ?_)
  all_goals (refine AtT.qJ (d := 35) rfl ((show (!true) = false from rfl)) ?_)
  all_goals (refine AtT.zx ?_)
  all_goals (refine AtT.zg ?_)
  all_goals refine AtT.done ?_
  all_goals (refine At.nrm ?_)
  all_goals refine At.zX rfl rfl ?_
  refine At.nrm ?_
  have k34 := g33.trans hV34
  by_cases n1 : e.n = 0
  rotate_left
  ·refine At.zi (.q 0 (.q 1 (.q 2 (.q 3 (.q 4 (.q 5 (.q 6 .done))))))) ?_
   refine AtT.zf ?_
   refine AtT.qa (d := 38) rfl (k4) ?_
   refine AtT.zf ?_
   all_goals (first | refine AtT.kL 39 ?_ | refine AtT.zw (d := 39) rfl (fun hg39 => ?_) (fun hg39 => ?_) | refine AtT.zu (d := 39) rfl (fun hg39 => ?_) (fun hg39 => ?_))
   all_goals first|refine AtT.zh ?_|refine AtT.ze ?_|(first | refine AtT.zk zO ?_ | with_reducible refine AtT.zl zO ?_ | refine AtT.zn zO ?_)
   all_goals first|refine AtT.zh ?_|refine AtT.ze ?_|(first | refine AtT.zm tk2 ?_ | refine AtT.zo tk2 ?_)
   all_goals first|refine AtT.zh ?_|refine AtT.ze ?_|(refine AtT.qE ?_)
   all_goals (refine AtT.qa (d := 42) rfl (n1) ?_)
   all_goals (refine AtT.zx ?_)
   all_goals (refine AtT.zg ?_)
   all_goals refine AtT.done ?_
   all_goals (refine At.nrm ?_)
   all_goals refine At.zU rfl rfl ?_
   refine At.nrm ?_
   refine At.zi (.q 0 .done) ?_
   refine AtT.zg ?_
   refine AtT.done ?_
   refine At.nrm ?_
   exact At.qh rfl (.tmp rfl) (by unfold kD; rw [if_neg hA, if_neg (by omega), if_pos ⟨k4, n1⟩])
  refine At.zi (.q 0 (.q 1 (.q 2 (.q 3 (.q 4 (.q 5 (.q 6 .done))))))) ?_
  refine AtT.zf ?_
  refine AtT.qa (d := 38) rfl (k4) ?_
  refine AtT.zf ?_
  all_goals (first | refine AtT.kL 39 ?_ | refine AtT.zw (d := 39) rfl (fun hg39 => ?_) (fun hg39 => ?_) | refine AtT.zu (d := 39) rfl (fun hg39 => ?_) (fun hg39 => ?_))
  all_goals first|refine AtT.zh ?_|refine AtT.ze ?_|(first | refine AtT.zk zO ?_ | with_reducible refine AtT.zl zO ?_ | refine AtT.zn zO ?_)
  all_goals first|refine AtT.zh ?_|refine AtT.ze ?_|(first | refine AtT.zm tk2 ?_ | refine AtT.zo tk2 ?_)
  all_goals first|refine AtT.zh ?_|refine AtT.ze ?_|(refine AtT.qE ?_)
  all_goals (refine AtT.zS (d := 42) rfl ((fun h => h n1)) ?_)
  all_goals (refine AtT.zx ?_)
  all_goals (refine AtT.zg ?_)
  all_goals refine AtT.done ?_
  all_goals (refine At.nrm ?_)
  all_goals refine At.zX rfl rfl ?_
  refine At.nrm ?_
  refine At.zi (.q 0 (.q 1 (.q 2 (.q 3 (.q 4 (.n false 5 (.n false 6 (.q 7 (.q 8 (.q 9 (.q 10 (.q 11 (.q 12 (.q 13 (.q 14 (.q 15 (.q 16 (.q 17 (.q 18 (.q 19 .done)))))))))))))))))))) ?_
  refine AtT.zf ?_
  refine AtT.qa (d := 45) rfl (k4) ?_
  refine AtT.qC ?_
  refine AtT.qJ (d := 46) rfl ((show (!true) = false from rfl)) ?_
  refine AtT.zf ?_
  all_goals (first | refine AtT.kL 47 ?_ | refine AtT.zw (d := 47) rfl (fun hg47 => ?_) (fun hg47 => ?_) | refine AtT.zu (d := 47) rfl (fun hg47 => ?_) (fun hg47 => ?_))
  all_goals first|refine AtT.zh ?_|refine AtT.ze ?_|(first | refine AtT.zk zL ?_ | with_reducible refine AtT.zl zL ?_ | refine AtT.zn zL ?_)
  all_goals first|refine AtT.zh ?_|refine AtT.ze ?_|(first | refine AtT.zm tk3 ?_ | refine AtT.zo tk3 ?_)
  all_goals first|refine AtT.qf ?_|refine AtT.zW ?_|((refine AtT.zN (qw _) ?_) ; (intro q50 V50 hV50 hq50) ; (have g50 : Le V V50 := by first | exact hV50 | exact Le.trans (by assumption) hV50))
  all_goals first|refine AtT.qf ?_|refine AtT.zW ?_|((fail))
  all_goals first|refine AtT.zh ?_|refine AtT.ze ?_|(refine AtT.qC ?_)
  all_goals first|refine AtT.zh ?_|refine AtT.ze ?_|(refine AtT.zf ?_)
  all_goals (first | refine AtT.kL 53 ?_ | refine AtT.zw (d := 53) rfl (fun hg53 => ?_) (fun hg53 => ?_) | refine AtT.zu (d := 53) rfl (fun hg53 => ?_) (fun hg53 => ?_))
  all_goals first|refine AtT.zh ?_|refine AtT.ze ?_|(first | refine AtT.zk zO ?_ | with_reducible refine AtT.zl zO ?_ | refine AtT.zn zO ?_)
  all_goals first|refine AtT.zh ?_|refine AtT.ze ?_|(first | refine AtT.zm tk2 ?_ | refine AtT.zo tk2 ?_)
  all_goals first|refine AtT.zh ?_|refine AtT.ze ?_|(refine AtT.qp ?_)
  all_goals first|refine AtT.zh ?_|refine AtT.ze ?_|(refine AtT.zx ?_)
  all_goals first|refine AtT.zh ?_|refine AtT.ze ?_|(refine AtT.zf ?_)
  all_goals (first | refine AtT.kL 58 ?_ | refine AtT.zw (d := 58) rfl (fun hg58 => ?_) (fun hg58 => ?_) | refine AtT.zu (d := 58) rfl (fun hg58 => ?_) (fun hg58 => ?_))
  all_goals first|refine AtT.zh ?_|refine AtT.ze ?_|(first | refine AtT.zk zO ?_ | with_reducible refine AtT.zl zO ?_ | refine AtT.zn zO ?_)
  all_goals first|refine AtT.zh ?_|refine AtT.ze ?_|(first | refine AtT.zm tk2 ?_ | refine AtT.zo tk2 ?_)
  all_goals first|refine AtT.zh ?_|refine AtT.ze ?_|(refine AtT.qI ?_)
  all_goals first|refine AtT.zh ?_|refine AtT.ze ?_|(refine AtT.zx ?_)
  all_goals (refine AtT.zx ?_)
  all_goals (refine AtT.zg ?_)
  all_goals refine AtT.done ?_
  all_goals (refine At.nrm ?_)
  all_goals refine At.zX rfl rfl ?_
  refine At.nrm ?_
  have hE := htail (by omega) (fun h => h.2 n1) (fun h => h.1 k4)
  rw [hE]
  refine At.zi (.q 0 (.q 1 (.q 2 (.q 3 (.q 4 .done))))) ?_
  first | refine AtT.zk qc ?_ | with_reducible refine AtT.zl qc ?_ | refine AtT.zn qc ?_
  first | refine AtT.zm tk3 ?_ | refine AtT.zo tk3 ?_
  refine AtT.zf ?_
  refine AtT.qp ?_
  refine AtT.zg ?_
  refine AtT.done ?_
  refine At.nrm ?_
  refine At.qb rfl (fun hd => ?_) (fun hd => ?_)
  ·refine At.nrm ?_
   refine At.zi (.q 0 .done) ?_
   refine AtT.zg ?_
   refine AtT.done ?_
   refine At.nrm ?_
   exact At.qh rfl (.tmp rfl) (by rw [if_pos hd])
  rw [if_neg hd]
  refine At.nrm ?_
  refine At.draw (.q 0 (.q 1 (.q 2 (.q 3 (.q 4 (.q 5 (.q 6 (.q 7 (.q 8 (.q 9 (.q 10 (.q 11 (.q 12 (.q 13 (.q 14 (.q 15 .done)))))))))))))))) ffm (by kernel_rfl) ?_
  first | refine AtT.zk zA ?_ | with_reducible refine AtT.zl zA ?_ | refine AtT.zn zA ?_
  first | refine AtT.zm tk3 ?_ | refine AtT.zo tk3 ?_
  refine AtT.qF ?_
  refine AtT.zS (d := 72) rfl ((by omega)) ?_
  refine AtT.zf ?_
  all_goals (first | refine AtT.kL 73 ?_ | refine AtT.zw (d := 73) rfl (fun hg73 => ?_) (fun hg73 => ?_) | refine AtT.zu (d := 73) rfl (fun hg73 => ?_) (fun hg73 => ?_))
  all_goals first|refine AtT.zh ?_|refine AtT.ze ?_|(refine AtT.zf ?_)
  all_goals first|refine AtT.zh ?_|refine AtT.ze ?_|(refine AtT.jM ?_)
  all_goals first|refine AtT.zh ?_|refine AtT.ze ?_|(first | refine AtT.zk jd ?_ | with_reducible refine AtT.zl jd ?_ | refine AtT.zn jd ?_)
  all_goals first|refine AtT.zh ?_|refine AtT.ze ?_|(first | refine AtT.zm tk87 ?_ | refine AtT.zo tk87 ?_)
  all_goals first|refine AtT.zh ?_|refine AtT.ze ?_|(first | refine AtT.zk zL ?_ | with_reducible refine AtT.zl zL ?_ | refine AtT.zn zL ?_)
  all_goals first|refine AtT.zh ?_|refine AtT.ze ?_|(first | refine AtT.zm tk3 ?_ | refine AtT.zo tk3 ?_)
  all_goals first|refine AtT.zh ?_|refine AtT.ze ?_|(refine AtT.qy (bd92_0 _) ?_)
  all_goals first|refine AtT.zh ?_|refine AtT.ze ?_|(fail)
  all_goals first|refine AtT.zh ?_|refine AtT.ze ?_|(first | refine AtT.zR Tryz.underlying66 ?_ | refine AtT.zQ Tryz.underlying66 ?_)
  all_goals first|refine AtT.zh ?_|refine AtT.ze ?_|(refine AtT.qF ?_)
  all_goals (refine AtT.zx ?_)
  all_goals (refine AtT.zg ?_)
  all_goals refine AtT.done ?_
  all_goals (refine At.nrm ?_)
  all_goals refine At.zX rfl rfl ?_
  refine At.nrm ?_
  refine At.zi (.q 0 .done) ?_
  refine AtT.zg ?_
  refine AtT.done ?_
  refine At.nrm ?_
  exact At.qh rfl (.tmp rfl) (by rw [if_neg (by omega)])
 ·refine At.zi (.q 0 (.q 1 (.q 2 (.q 3 (.q 4 (.q 5 (.n false 6 (.n false 7 (.q 8 (.q 9 (.q 10 .done))))))))))) ?_
  refine AtT.zf ?_
  refine AtT.zS (d := 27) rfl (k4) ?_
  refine AtT.zf ?_
  all_goals (first | refine AtT.kL 28 ?_ | refine AtT.zw (d := 28) rfl (fun hg28 => ?_) (fun hg28 => ?_) | refine AtT.zu (d := 28) rfl (fun hg28 => ?_) (fun hg28 => ?_))
  all_goals first|refine AtT.zh ?_|refine AtT.ze ?_|(refine AtT.zf ?_)
  all_goals first|refine AtT.zh ?_|refine AtT.ze ?_|(first | refine AtT.ji ?_ | refine AtT.jh ?_)
  all_goals first|refine AtT.zh ?_|refine AtT.ze ?_|(first | refine AtT.zk zL ?_ | with_reducible refine AtT.zl zL ?_ | refine AtT.zn zL ?_)
  all_goals first|refine AtT.zh ?_|refine AtT.ze ?_|(first | refine AtT.zm tk3 ?_ | refine AtT.zo tk3 ?_)
  all_goals first|refine AtT.qf ?_|refine AtT.zW ?_|((refine AtT.zN (qw _) ?_) ; (intro q33 V33 hV33 hq33) ; (have g33 : Le V V33 := by first | exact hV33 | exact Le.trans (by assumption) hV33))
  all_goals first|refine AtT.qf ?_|refine AtT.zW ?_|((fail))
  all_goals first|refine AtT.zh ?_|refine AtT.ze ?_|(refine AtT.qC ?_)
  all_goals (refine AtT.zx ?_)
  all_goals (refine AtT.zg ?_)
  all_goals refine AtT.done ?_
  all_goals (refine At.nrm ?_)
  all_goals refine At.zX rfl rfl ?_
  refine At.nrm ?_
  refine At.zi (.q 0 (.q 1 (.q 2 (.q 3 (.q 4 (.q 5 (.q 6 .done))))))) ?_
  refine AtT.zf ?_
  refine AtT.zS (d := 38) rfl (k4) ?_
  refine AtT.zf ?_
  all_goals (first | refine AtT.kL 39 ?_ | refine AtT.zw (d := 39) rfl (fun hg39 => ?_) (fun hg39 => ?_) | refine AtT.zu (d := 39) rfl (fun hg39 => ?_) (fun hg39 => ?_))
  all_goals first|refine AtT.zh ?_|refine AtT.ze ?_|(first | refine AtT.zk zO ?_ | with_reducible refine AtT.zl zO ?_ | refine AtT.zn zO ?_)
  all_goals first|refine AtT.zh ?_|refine AtT.ze ?_|(first | refine AtT.zm tk2 ?_ | refine AtT.zo tk2 ?_)
  all_goals first|refine AtT.zh ?_|refine AtT.ze ?_|(refine AtT.qE ?_)
  all_goals (refine AtT.zx ?_)
  all_goals (refine AtT.zg ?_)
  all_goals refine AtT.done ?_
  all_goals (refine At.nrm ?_)
  all_goals refine At.zX rfl rfl ?_
  refine At.nrm ?_
  by_cases t1 : 0 ≤ e.t ∧ e.t ≤ 7
  rotate_left
  ·refine At.zi (.q 0 (.q 1 (.q 2 (.q 3 (.q 4 (.n false 5 (.n false 6 (.q 7 (.q 8 (.q 9 (.q 10 (.q 11 (.q 12 (.q 13 (.q 14 (.q 15 (.q 16 (.q 17 (.q 18 (.q 19 .done)))))))))))))))))))) ?_
   refine AtT.zf ?_
   refine AtT.zS (d := 45) rfl (k4) ?_
   refine AtT.qC ?_
   refine AtT.qJ (d := 46) rfl ((show (!false) = true from rfl)) ?_
   refine AtT.zf ?_
   all_goals (first | refine AtT.kL 47 ?_ | refine AtT.zw (d := 47) rfl (fun hg47 => ?_) (fun hg47 => ?_) | refine AtT.zu (d := 47) rfl (fun hg47 => ?_) (fun hg47 => ?_))
   all_goals first|refine AtT.zh ?_|refine AtT.ze ?_|(first | refine AtT.zk zL ?_ | with_reducible refine AtT.zl zL ?_ | refine AtT.zn zL ?_)
   all_goals first|refine AtT.zh ?_|refine AtT.ze ?_|(first | refine AtT.zm tk3 ?_ | refine AtT.zo tk3 ?_)
   all_goals first|refine AtT.qf ?_|refine AtT.zW ?_|((refine AtT.zN (qw _) ?_) ; (intro q50 V50 hV50 hq50) ; (have g50 : Le V V50 := by first | exact hV50 | exact Le.trans (by assumption) hV50))
   all_goals first|refine AtT.qf ?_|refine AtT.zW ?_|((refine AtT.qg rfl rfl jV (qB 0 7 e.t _ _ (Sl.lit (l := [e.t]) hq50 rfl (by simp))) ?_) ; (rintro v51 V51 hV51 rfl))
   all_goals (refine AtT.zS (d := 51) rfl (t1) ?_)
   all_goals first|refine AtT.zh ?_|refine AtT.ze ?_|(refine AtT.qC ?_)
   all_goals (refine AtT.qJ (d := 52) rfl ((show (!false) = true from rfl)) ?_)
   all_goals first|refine AtT.zh ?_|refine AtT.ze ?_|(refine AtT.zf ?_)
   all_goals (first | refine AtT.kL 53 ?_ | refine AtT.zw (d := 53) rfl (fun hg53 => ?_) (fun hg53 => ?_) | refine AtT.zu (d := 53) rfl (fun hg53 => ?_) (fun hg53 => ?_))
   all_goals first|refine AtT.zh ?_|refine AtT.ze ?_|(first | refine AtT.zk zO ?_ | with_reducible refine AtT.zl zO ?_ | refine AtT.zn zO ?_)
   all_goals first|refine AtT.zh ?_|refine AtT.ze ?_|(first | refine AtT.zm tk2 ?_ | refine AtT.zo tk2 ?_)
   all_goals first|refine AtT.zh ?_|refine AtT.ze ?_|(refine AtT.qp ?_)
   all_goals first|refine AtT.zh ?_|refine AtT.ze ?_|(refine AtT.zx ?_)
   all_goals first|refine AtT.zh ?_|refine AtT.ze ?_|(refine AtT.zf ?_)
   all_goals (first | refine AtT.kL 58 ?_ | refine AtT.zw (d := 58) rfl (fun hg58 => ?_) (fun hg58 => ?_) | refine AtT.zu (d := 58) rfl (fun hg58 => ?_) (fun hg58 => ?_))
   all_goals first|refine AtT.zh ?_|refine AtT.ze ?_|(first | refine AtT.zk zO ?_ | with_reducible refine AtT.zl zO ?_ | refine AtT.zn zO ?_)
   all_goals first|refine AtT.zh ?_|refine AtT.ze ?_|(first | refine AtT.zm tk2 ?_ | refine AtT.zo tk2 ?_)
   all_goals first|refine AtT.zh ?_|refine AtT.ze ?_|(refine AtT.qI ?_)
   all_goals first|refine AtT.zh ?_|refine AtT.ze ?_|(refine AtT.zx ?_)
   all_goals (refine AtT.zx ?_)
   all_goals (refine AtT.zg ?_)
   all_goals refine AtT.done ?_
   all_goals (refine At.nrm ?_)
   all_goals refine At.zU rfl rfl ?_
   refine At.nrm ?_
   refine At.zi (.q 0 .done) ?_
   refine AtT.zg ?_
   refine AtT.done ?_
   refine At.nrm ?_
   exact At.qh rfl (.tmp rfl) (by unfold kD; rw [if_neg hA, if_neg (by omega), if_neg (by omega), if_pos ⟨k4, by omega⟩])
  by_cases n1 : e.n < 1
  ·refine At.zi (.q 0 (.q 1 (.q 2 (.q 3 (.q 4 (.n false 5 (.n false 6 (.q 7 (.q 8 (.q 9 (.q 10 (.q 11 (.q 12 (.q 13 (.q 14 (.q 15 (.q 16 (.q 17 (.q 18 (.q 19 .done)))))))))))))))))))) ?_
   refine AtT.zf ?_
   refine AtT.zS (d := 45) rfl (k4) ?_
   refine AtT.qC ?_
   refine AtT.qJ (d := 46) rfl ((show (!false) = true from rfl)) ?_
   refine AtT.zf ?_
   all_goals (first | refine AtT.kL 47 ?_ | refine AtT.zw (d := 47) rfl (fun hg47 => ?_) (fun hg47 => ?_) | refine AtT.zu (d := 47) rfl (fun hg47 => ?_) (fun hg47 => ?_))
   all_goals first|refine AtT.zh ?_|refine AtT.ze ?_|(first | refine AtT.zk zL ?_ | with_reducible refine AtT.zl zL ?_ | refine AtT.zn zL ?_)
   all_goals first|refine AtT.zh ?_|refine AtT.ze ?_|(first | refine AtT.zm tk3 ?_ | refine AtT.zo tk3 ?_)
   all_goals first|refine AtT.qf ?_|refine AtT.zW ?_|((refine AtT.zN (qw _) ?_) ; (intro q50 V50 hV50 hq50) ; (have g50 : Le V V50 := by first | exact hV50 | exact Le.trans (by assumption) hV50))
   all_goals first|refine AtT.qf ?_|refine AtT.zW ?_|((refine AtT.qg rfl rfl jV (qB 0 7 e.t _ _ (Sl.lit (l := [e.t]) hq50 rfl (by simp))) ?_) ; (rintro v51 V51 hV51 rfl))
   all_goals (refine AtT.qa (d := 51) rfl (t1) ?_)
   all_goals first|refine AtT.zh ?_|refine AtT.ze ?_|(refine AtT.qC ?_)
   all_goals (refine AtT.qJ (d := 52) rfl ((show (!true) = false from rfl)) ?_)
   all_goals first|refine AtT.zh ?_|refine AtT.ze ?_|(refine AtT.zf ?_)
   all_goals (first | refine AtT.kL 53 ?_ | refine AtT.zw (d := 53) rfl (fun hg53 => ?_) (fun hg53 => ?_) | refine AtT.zu (d := 53) rfl (fun hg53 => ?_) (fun hg53 => ?_))
   all_goals first|refine AtT.zh ?_|refine AtT.ze ?_|(first | refine AtT.zk zO ?_ | with_reducible refine AtT.zl zO ?_ | refine AtT.zn zO ?_)
   all_goals first|refine AtT.zh ?_|refine AtT.ze ?_|(first | refine AtT.zm tk2 ?_ | refine AtT.zo tk2 ?_)
   all_goals first|refine AtT.zh ?_|refine AtT.ze ?_|(refine AtT.qp ?_)
   all_goals (refine AtT.qa (d := 56) rfl (n1) ?_)
   all_goals first|refine AtT.zh ?_|refine AtT.ze ?_|(refine AtT.zx ?_)
   all_goals first|refine AtT.zh ?_|refine AtT.ze ?_|(refine AtT.zf ?_)
   all_goals (first | refine AtT.kL 58 ?_ | refine AtT.zw (d := 58) rfl (fun hg58 => ?_) (fun hg58 => ?_) | refine AtT.zu (d := 58) rfl (fun hg58 => ?_) (fun hg58 => ?_))
   all_goals first|refine AtT.zh ?_|refine AtT.ze ?_|(first | refine AtT.zk zO ?_ | with_reducible refine AtT.zl zO ?_ | refine AtT.zn zO ?_)
   all_goals first|refine AtT.zh ?_|refine AtT.ze ?_|(first | refine AtT.zm tk2 ?_ | refine AtT.zo tk2 ?_)
   all_goals first|refine AtT.zh ?_|refine AtT.ze ?_|(refine AtT.qI ?_)
   all_goals first|refine AtT.zh ?_|refine AtT.ze ?_|(refine AtT.zx ?_)
   all_goals (refine AtT.zx ?_)
   all_goals (refine AtT.zg ?_)
   all_goals refine AtT.done ?_
   all_goals (refine At.nrm ?_)
   all_goals refine At.zU rfl rfl ?_
   refine At.nrm ?_
   refine At.zi (.q 0 .done) ?_
   refine AtT.zg ?_
   refine AtT.done ?_
   refine At.nrm ?_
   exact At.qh rfl (.tmp rfl) (by unfold kD; rw [if_neg hA, if_neg (by omega), if_neg (by omega), if_pos ⟨k4, by omega⟩])
  by_cases n2 : 1000 < e.n
  ·refine At.zi (.q 0 (.q 1 (.q 2 (.q 3 (.q 4 (.n false 5 (.n false 6 (.q 7 (.q 8 (.q 9 (.q 10 (.q 11 (.q 12 (.q 13 (.q 14 (.q 15 (.q 16 (.q 17 (.q 18 (.q 19 .done)))))))))))))))))))) ?_
   refine AtT.zf ?_
   refine AtT.zS (d := 45) rfl (k4) ?_
   refine AtT.qC ?_
   refine AtT.qJ (d := 46) rfl ((show (!false) = true from rfl)) ?_
   refine AtT.zf ?_
   all_goals (first | refine AtT.kL 47 ?_ | refine AtT.zw (d := 47) rfl (fun hg47 => ?_) (fun hg47 => ?_) | refine AtT.zu (d := 47) rfl (fun hg47 => ?_) (fun hg47 => ?_))
   all_goals first|refine AtT.zh ?_|refine AtT.ze ?_|(first | refine AtT.zk zL ?_ | with_reducible refine AtT.zl zL ?_ | refine AtT.zn zL ?_)
   all_goals first|refine AtT.zh ?_|refine AtT.ze ?_|(first | refine AtT.zm tk3 ?_ | refine AtT.zo tk3 ?_)
   all_goals first|refine AtT.qf ?_|refine AtT.zW ?_|((refine AtT.zN (qw _) ?_) ; (intro q50 V50 hV50 hq50) ; (have g50 : Le V V50 := by first | exact hV50 | exact Le.trans (by assumption) hV50))
   all_goals first|refine AtT.qf ?_|refine AtT.zW ?_|((refine AtT.qg rfl rfl jV (qB 0 7 e.t _ _ (Sl.lit (l := [e.t]) hq50 rfl (by simp))) ?_) ; (rintro v51 V51 hV51 rfl))
   all_goals (refine AtT.qa (d := 51) rfl (t1) ?_)
   all_goals first|refine AtT.zh ?_|refine AtT.ze ?_|(refine AtT.qC ?_)
   all_goals (refine AtT.qJ (d := 52) rfl ((show (!true) = false from rfl)) ?_)
   all_goals first|refine AtT.zh ?_|refine AtT.ze ?_|(refine AtT.zf ?_)
   all_goals (first | refine AtT.kL 53 ?_ | refine AtT.zw (d := 53) rfl (fun hg53 => ?_) (fun hg53 => ?_) | refine AtT.zu (d := 53) rfl (fun hg53 => ?_) (fun hg53 => ?_))
   all_goals first|refine AtT.zh ?_|refine AtT.ze ?_|(first | refine AtT.zk zO ?_ | with_reducible refine AtT.zl zO ?_ | refine AtT.zn zO ?_)
   all_goals first|refine AtT.zh ?_|refine AtT.ze ?_|(first | refine AtT.zm tk2 ?_ | refine AtT.zo tk2 ?_)
   all_goals first|refine AtT.zh ?_|refine AtT.ze ?_|(refine AtT.qp ?_)
   all_goals (refine AtT.zS (d := 56) rfl (n1) ?_)
   all_goals first|refine AtT.zh ?_|refine AtT.ze ?_|(refine AtT.zx ?_)
   all_goals first|refine AtT.zh ?_|refine AtT.ze ?_|(refine AtT.zf ?_)
   all_goals (first | refine AtT.kL 58 ?_ | refine AtT.zw (d := 58) rfl (fun hg58 => ?_) (fun hg58 => ?_) | refine AtT.zu (d := 58) rfl (fun hg58 => ?_) (fun hg58 => ?_))
   all_goals first|refine AtT.zh ?_|refine AtT.ze ?_|(first | refine AtT.zk zO ?_ | with_reducible refine AtT.zl zO ?_ | refine AtT.zn zO ?_)
   all_goals first|refine AtT.zh ?_|refine AtT.ze ?_|(first | refine AtT.zm tk2 ?_ | refine AtT.zo tk2 ?_)
   all_goals first|refine AtT.zh ?_|refine AtT.ze ?_|(refine AtT.qI ?_)
   all_goals (refine AtT.qa (d := 61) rfl (n2) ?_)
   all_goals first|refine AtT.zh ?_|refine AtT.ze ?_|(refine AtT.zx ?_)
   all_goals (refine AtT.zx ?_)
   all_goals (refine AtT.zg ?_)
   all_goals refine AtT.done ?_
   all_goals (refine At.nrm ?_)
   all_goals refine At.zU rfl rfl ?_
   refine At.nrm ?_
   refine At.zi (.q 0 .done) ?_
   refine AtT.zg ?_
   refine AtT.done ?_
   refine At.nrm ?_
   exact At.qh rfl (.tmp rfl) (by unfold kD; rw [if_neg hA, if_neg (by omega), if_neg (by omega), if_pos ⟨k4, by omega⟩])
  refine At.zi (.q 0 (.q 1 (.q 2 (.q 3 (.q 4 (.n false 5 (.n false 6 (.q 7 (.q 8 (.q 9 (.q 10 (.q 11 (.q 12 (.q 13 (.q 14 (.q 15 (.q 16 (.q 17 (.q 18 (.q 19 .done)))))))))))))))))))) ?_
  refine AtT.zf ?_
  refine AtT.zS (d := 45) rfl (k4) ?_
  refine AtT.qC ?_
  refine AtT.qJ (d := 46) rfl ((show (!false) = true from rfl)) ?_
  refine AtT.zf ?_
  all_goals (first | refine AtT.kL 47 ?_ | refine AtT.zw (d := 47) rfl (fun hg47 => ?_) (fun hg47 => ?_) | refine AtT.zu (d := 47) rfl (fun hg47 => ?_) (fun hg47 => ?_))
  all_goals first|refine AtT.zh ?_|refine AtT.ze ?_|(first | refine AtT.zk zL ?_ | with_reducible refine AtT.zl zL ?_ | refine AtT.zn zL ?_)
  all_goals first|refine AtT.zh ?_|refine AtT.ze ?_|(first | refine AtT.zm tk3 ?_ | refine AtT.zo tk3 ?_)
  all_goals first|refine AtT.qf ?_|refine AtT.zW ?_|((refine AtT.zN (qw _) ?_) ; (intro q50 V50 hV50 hq50) ; (have g50 : Le V V50 := by first | exact hV50 | exact Le.trans (by assumption) hV50))
  all_goals first|refine AtT.qf ?_|refine AtT.zW ?_|((refine AtT.qg rfl rfl jV (qB 0 7 e.t _ _ (Sl.lit (l := [e.t]) hq50 rfl (by simp))) ?_) ; (rintro v51 V51 hV51 rfl))
  all_goals (refine AtT.qa (d := 51) rfl (t1) ?_)
  all_goals first|refine AtT.zh ?_|refine AtT.ze ?_|(refine AtT.qC ?_)
  all_goals (refine AtT.qJ (d := 52) rfl ((show (!true) = false from rfl)) ?_)
  all_goals first|refine AtT.zh ?_|refine AtT.ze ?_|(refine AtT.zf ?_)
  all_goals (first | refine AtT.kL 53 ?_ | refine AtT.zw (d := 53) rfl (fun hg53 => ?_) (fun hg53 => ?_) | refine AtT.zu (d := 53) rfl (fun hg53 => ?_) (fun hg53 => ?_))
  all_goals first|refine AtT.zh ?_|refine AtT.ze ?_|(first | refine AtT.zk zO ?_ | with_reducible refine AtT.zl zO ?_ | refine AtT.zn zO ?_)
  all_goals first|refine AtT.zh ?_|refine AtT.ze ?_|(first | refine AtT.zm tk2 ?_ | refine AtT.zo tk2 ?_)
  all_goals first|refine AtT.zh ?_|refine AtT.ze ?_|(refine AtT.qp ?_)
  all_goals (refine AtT.zS (d := 56) rfl (n1) ?_)
  all_goals first|refine AtT.zh ?_|refine AtT.ze ?_|(refine AtT.zx ?_)
  all_goals first|refine AtT.zh ?_|refine AtT.ze ?_|(refine AtT.zf ?_)
  all_goals (first | refine AtT.kL 58 ?_ | refine AtT.zw (d := 58) rfl (fun hg58 => ?_) (fun hg58 => ?_) | refine AtT.zu (d := 58) rfl (fun hg58 => ?_) (fun hg58 => ?_))
  all_goals first|refine AtT.zh ?_|refine AtT.ze ?_|(first | refine AtT.zk zO ?_ | with_reducible refine AtT.zl zO ?_ | refine AtT.zn zO ?_)
  all_goals first|refine AtT.zh ?_|refine AtT.ze ?_|(first | refine AtT.zm tk2 ?_ | refine AtT.zo tk2 ?_)
  all_goals first|refine AtT.zh ?_|refine AtT.ze ?_|(refine AtT.qI ?_)
  all_goals (refine AtT.zS (d := 61) rfl (n2) ?_)
  all_goals first|refine AtT.zh ?_|refine AtT.ze ?_|(refine AtT.zx ?_)
  all_goals (refine AtT.zx ?_)
  all_goals (refine AtT.zg ?_)
  all_goals refine AtT.done ?_
  all_goals (refine At.nrm ?_)
  all_goals refine At.zX rfl rfl ?_
  refine At.nrm ?_
  have k51 := g50.trans hV51
  have hE := htail (by omega) (by omega) (by omega)
  rw [hE]
  refine At.zi (.q 0 (.q 1 (.q 2 (.q 3 (.q 4 .done))))) ?_
  first | refine AtT.zk qc ?_ | with_reducible refine AtT.zl qc ?_ | refine AtT.zn qc ?_
  first | refine AtT.zm tk3 ?_ | refine AtT.zo tk3 ?_
  refine AtT.zf ?_
  refine AtT.qp ?_
  refine AtT.zg ?_
  refine AtT.done ?_
  refine At.nrm ?_
  refine At.qb rfl (fun hd => ?_) (fun hd => ?_)
  ·refine At.nrm ?_
   refine At.zi (.q 0 .done) ?_
   refine AtT.zg ?_
   refine AtT.done ?_
   refine At.nrm ?_
   exact At.qh rfl (.tmp rfl) (by rw [if_pos hd])
  rw [if_neg hd]
  refine At.nrm ?_
  by_cases k3 : e.k = 3
  rotate_left
  ·refine At.draw (.q 0 (.q 1 (.q 2 (.q 3 (.q 4 (.q 5 (.q 6 (.q 7 (.q 8 (.q 9 (.q 10 (.q 11 (.q 12 (.q 13 (.q 14 (.q 15 .done)))))))))))))))) ffm (by kernel_rfl) ?_
   first | refine AtT.zk zA ?_ | with_reducible refine AtT.zl zA ?_ | refine AtT.zn zA ?_
   first | refine AtT.zm tk3 ?_ | refine AtT.zo tk3 ?_
   refine AtT.qF ?_
   refine AtT.zS (d := 72) rfl (k3) ?_
   refine AtT.zf ?_
   all_goals (first | refine AtT.kL 73 ?_ | refine AtT.zw (d := 73) rfl (fun hg73 => ?_) (fun hg73 => ?_) | refine AtT.zu (d := 73) rfl (fun hg73 => ?_) (fun hg73 => ?_))
   all_goals first|refine AtT.zh ?_|refine AtT.ze ?_|(refine AtT.zf ?_)
   all_goals first|refine AtT.zh ?_|refine AtT.ze ?_|(refine AtT.jM ?_)
   all_goals first|refine AtT.zh ?_|refine AtT.ze ?_|(first | refine AtT.zk jd ?_ | with_reducible refine AtT.zl jd ?_ | refine AtT.zn jd ?_)
   all_goals first|refine AtT.zh ?_|refine AtT.ze ?_|(first | refine AtT.zm tk87 ?_ | refine AtT.zo tk87 ?_)
   all_goals first|refine AtT.zh ?_|refine AtT.ze ?_|(first | refine AtT.zk zL ?_ | with_reducible refine AtT.zl zL ?_ | refine AtT.zn zL ?_)
   all_goals first|refine AtT.zh ?_|refine AtT.ze ?_|(first | refine AtT.zm tk3 ?_ | refine AtT.zo tk3 ?_)
   all_goals first|refine AtT.zh ?_|refine AtT.ze ?_|(refine AtT.qy (bd92_0 _) ?_)
   all_goals first|refine AtT.zh ?_|refine AtT.ze ?_|(fail)
   all_goals first|refine AtT.zh ?_|refine AtT.ze ?_|(first | refine AtT.zR Tryz.underlying66 ?_ | refine AtT.zQ Tryz.underlying66 ?_)
   all_goals first|refine AtT.zh ?_|refine AtT.ze ?_|(refine AtT.qF ?_)
   all_goals (refine AtT.zx ?_)
   all_goals (refine AtT.zg ?_)
   all_goals refine AtT.done ?_
   all_goals (refine At.nrm ?_)
   all_goals refine At.zX rfl rfl ?_
   refine At.nrm ?_
   refine At.zi (.q 0 .done) ?_
   refine AtT.zg ?_
   refine AtT.done ?_
   refine At.nrm ?_
   exact At.qh rfl (.tmp rfl) (by rw [if_neg (fun h => k3 h.1)])
  have hlen : ((partsOf rs e.t).length : Int) = 0 ↔ partsOf rs e.t = [] := by rw [← List.length_eq_zero_iff]; omega
  have hr1' := k51 _ _ hr1
  by_cases hp : partsOf rs e.t = []
  ·refine At.draw (.q 0 (.q 1 (.q 2 (.q 3 (.q 4 (.q 5 (.q 6 (.q 7 (.q 8 (.q 9 (.q 10 (.q 11 (.q 12 (.q 13 (.q 14 (.q 15 .done)))))))))))))))) ffm (by kernel_rfl) ?_
   first | refine AtT.zk zA ?_ | with_reducible refine AtT.zl zA ?_ | refine AtT.zn zA ?_
   first | refine AtT.zm tk3 ?_ | refine AtT.zo tk3 ?_
   refine AtT.qF ?_
   refine AtT.qa (d := 72) rfl (k3) ?_
   refine AtT.zf ?_
   all_goals (first | refine AtT.kL 73 ?_ | refine AtT.zw (d := 73) rfl (fun hg73 => ?_) (fun hg73 => ?_) | refine AtT.zu (d := 73) rfl (fun hg73 => ?_) (fun hg73 => ?_))
   all_goals first|refine AtT.zh ?_|refine AtT.ze ?_|(refine AtT.zf ?_)
   all_goals first|refine AtT.zh ?_|refine AtT.ze ?_|(refine AtT.jM ?_)
   all_goals first|refine AtT.zh ?_|refine AtT.ze ?_|(first | refine AtT.zk jd ?_ | with_reducible refine AtT.zl jd ?_ | refine AtT.zn jd ?_)
   all_goals first|refine AtT.zh ?_|refine AtT.ze ?_|(first | refine AtT.zm tk87 ?_ | refine AtT.zo tk87 ?_)
   all_goals first|refine AtT.zh ?_|refine AtT.ze ?_|(first | refine AtT.zk zL ?_ | with_reducible refine AtT.zl zL ?_ | refine AtT.zn zL ?_)
   all_goals first|refine AtT.zh ?_|refine AtT.ze ?_|(first | refine AtT.zm tk3 ?_ | refine AtT.zo tk3 ?_)
   all_goals first|refine AtT.zh ?_|refine AtT.ze ?_|(refine AtT.qy (bd92_0 _) ?_)
   all_goals first|refine AtT.zh ?_|refine AtT.ze ?_|(refine AtT.lookupV rfl ⟨_, _, rfl, rfl, rfl⟩ key92 e.t zq Tryz.underlying87 z66 rfl rfl rfl hr1' (by decide) ?_)
   all_goals (rw [hrcs])
   all_goals first|refine AtT.zh ?_|refine AtT.ze ?_|(first | refine AtT.zR Tryz.underlying66 ?_ | refine AtT.zQ Tryz.underlying66 ?_)
   all_goals first|refine AtT.zh ?_|refine AtT.ze ?_|(refine AtT.qF ?_)
   all_goals (refine AtT.qa (d := 83) rfl ((hlen.2 hp)) ?_)
   all_goals (refine AtT.zx ?_)
   all_goals (refine AtT.zg ?_)
   all_goals refine AtT.done ?_
   all_goals (refine At.nrm ?_)
   all_goals refine At.zU rfl rfl ?_
   refine At.nrm ?_
   refine At.zi (.q 0 .done) ?_
   refine AtT.zg ?_
   refine AtT.done ?_
   refine At.nrm ?_
   exact At.qh rfl (.tmp rfl) (by rw [if_pos ⟨k3, hp⟩])
  ·refine At.draw (.q 0 (.q 1 (.q 2 (.q 3 (.q 4 (.q 5 (.q 6 (.q 7 (.q 8 (.q 9 (.q 10 (.q 11 (.q 12 (.q 13 (.q 14 (.q 15 .done)))))))))))))))) ffm (by kernel_rfl) ?_
   first | refine AtT.zk zA ?_ | with_reducible refine AtT.zl zA ?_ | refine AtT.zn zA ?_
   first | refine AtT.zm tk3 ?_ | refine AtT.zo tk3 ?_
   refine AtT.qF ?_
   refine AtT.qa (d := 72) rfl (k3) ?_
   refine AtT.zf ?_
   all_goals (first | refine AtT.kL 73 ?_ | refine AtT.zw (d := 73) rfl (fun hg73 => ?_) (fun hg73 => ?_) | refine AtT.zu (d := 73) rfl (fun hg73 => ?_) (fun hg73 => ?_))
   all_goals first|refine AtT.zh ?_|refine AtT.ze ?_|(refine AtT.zf ?_)
   all_goals first|refine AtT.zh ?_|refine AtT.ze ?_|(refine AtT.jM ?_)
   all_goals first|refine AtT.zh ?_|refine AtT.ze ?_|(first | refine AtT.zk jd ?_ | with_reducible refine AtT.zl jd ?_ | refine AtT.zn jd ?_)
   all_goals first|refine AtT.zh ?_|refine AtT.ze ?_|(first | refine AtT.zm tk87 ?_ | refine AtT.zo tk87 ?_)
   all_goals first|refine AtT.zh ?_|refine AtT.ze ?_|(first | refine AtT.zk zL ?_ | with_reducible refine AtT.zl zL ?_ | refine AtT.zn zL ?_)
   all_goals first|refine AtT.zh ?_|refine AtT.ze ?_|(first | refine AtT.zm tk3 ?_ | refine AtT.zo tk3 ?_)
   all_goals first|refine AtT.zh ?_|refine AtT.ze ?_|(refine AtT.qy (bd92_0 _) ?_)
   all_goals first|refine AtT.zh ?_|refine AtT.ze ?_|(refine AtT.lookupV rfl ⟨_, _, rfl, rfl, rfl⟩ key92 e.t zq Tryz.underlying87 z66 rfl rfl rfl hr1' (by decide) ?_)
   all_goals (rw [hrcs])
   all_goals first|refine AtT.zh ?_|refine AtT.ze ?_|(first | refine AtT.zR Tryz.underlying66 ?_ | refine AtT.zQ Tryz.underlying66 ?_)
   all_goals first|refine AtT.zh ?_|refine AtT.ze ?_|(refine AtT.qF ?_)
   all_goals (refine AtT.zS (d := 83) rfl ((fun h => hp (hlen.1 h))) ?_)
   all_goals (refine AtT.zx ?_)
   all_goals (refine AtT.zg ?_)
   all_goals refine AtT.done ?_
   all_goals (refine At.nrm ?_)
   all_goals refine At.zX rfl rfl ?_
   refine At.nrm ?_
   refine At.zi (.q 0 .done) ?_
   refine AtT.zg ?_
   refine AtT.done ?_
   refine At.nrm ?_
   exact At.qh rfl (.tmp rfl) (by rw [if_neg (fun h => hp h.2)])
end Go.Proofs.YtpoignmclfdgpaaGreatDoor
set_option linter.unusedVariables false
namespace Go.Proofs.YtpoignmclfdgpaaGreatDoor
open Go.Lw Go.Gl Go.Bk Go.RowKit
theorem slice105 (b : Nat) (w : World) : (Instr.sliceAt 105 (.pointer (some ⟨b, 0, none⟩)) none none none).run Tryz.prog w = .ok (.slice (some ⟨b, 0, none⟩) 8 8) w := by
 simp [Instr.sliceAt, run_underlying Tryz.underlying105]
 kernel_rfl
theorem taken_f (rs : List Rc) (hrs : qL (-1) rs) (e : En) (he : EnG e) (b m1 m2 : Nat) (u1 u2 : Value) (V : View) (hb : StoV V b u1 u2 m1 m2) (hm1 : RMap V m1 rs) : Fnc Tryz.prog 93 [.pointer (some ⟨b, 0, none⟩), env e] V fun r _ => r = .agg (stC (less rs e)).toArray := by
 have hb2 := hb.c2
 have hn0 := he.n
 have ht0 := he.t
 obtain ⟨Mr, cr, hr1, hr2⟩ := hm1
 obtain ⟨hr3, hr4⟩ := hr2 e.t
 have hrcs : rcs (qW e.t zq Mr) = .slice (qW e.t zq Mr).2.1 (partsOf rs e.t).length (qW e.t zq Mr).2.2 := by
  show Value.slice _ (qW e.t zq Mr).1.ps.length _ = _
  rw [hr3]
 rw [hrcs] at hr4
 refine ql Tryz.func93 rfl Tryz.ntmps93 (Nat.le_of_ble_eq_true rfl) ?_
 intro w0 hw0
 refine At.nrm ?_
 refine At.zi (.n false 0 (.n false 1 .done)) ?_
 refine AtT.jE ?_
 intro b3
 refine AtT.zT z105 ?_
 intro b4
 refine AtT.done ?_
 refine At.nrm ?_
 refine At.zi (.n false 0 .done) ?_
 refine AtT.zT z105 ?_
 intro b5
 refine AtT.done ?_
 refine At.nrm ?_
 refine At.zi (.q 0 (.n true 1 .done)) ?_
 refine AtT.slV rfl trivial rfl (slice105 b5) (by decide) ?_
 refine AtT.clearO rfl trivial Tryz.underlying28 z2 rfl (by kernel_rfl) rfl rfl (by repeat first|exact Upd.here|apply Upd.there) ?_ (us := stC fun _ => 0)
 refine AtT.done ?_
 refine At.nrm ?_
 refine At.zi (.q 0 (.q 1 .done)) ?_
 first | refine AtT.zk zA ?_ | with_reducible refine AtT.zl zA ?_ | refine AtT.zn zA ?_
 first | refine AtT.zm tk3 ?_ | refine AtT.zo tk3 ?_
 refine AtT.done ?_
 refine At.nrm ?_
 refine At.nrm ?_
 refine At.zi (.q 0 (.q 1 .done)) ?_
 refine AtT.qF ?_
 refine AtT.zg ?_
 refine AtT.done ?_
 refine At.nrm ?_
 refine At.qb rfl (fun k2 => ?_) (fun k2 => ?_)
 ·have ht := ht0 (by omega)
  obtain ⟨T, hT⟩ : ∃ T : Nat, e.t = (T : Int) := ⟨e.t.toNat, by omega⟩
  have hT8 : T < 8 := by omega
  have hset : (stC fun _ => 0).set (0 + (T : Int).toNat * 1) (iv e.n) = stC (less rs e) := by rw [Int.toNat_natCast, Nat.mul_one, Nat.zero_add, stC_set _ _ hT8, less_out k2, hT, Int.toNat_natCast]
  refine At.nrm ?_
  refine At.zi (.q 0 (.q 1 (.q 2 (.q 3 (.q 4 (.n true 5 .done)))))) ?_
  first | refine AtT.zk zL ?_ | with_reducible refine AtT.zl zL ?_ | refine AtT.zn zL ?_
  first | refine AtT.zm tk3 ?_ | refine AtT.zo tk3 ?_
  rw [hT]
  first | refine AtT.zk zO ?_ | with_reducible refine AtT.zl zO ?_ | refine AtT.zn zO ?_
  first | refine AtT.zm tk2 ?_ | refine AtT.zo tk2 ?_
  refine AtT.kidxA Tryz.underlying105 tk2 ?_
  refine AtT.jK rfl trivial rfl rfl tk2 rfl rfl (by repeat first|exact Upd.here|apply Upd.there) (qU (by simp; omega) hset) ?_
  refine AtT.done ?_
  refine At.nrm ?_
  refine At.nrm ?_
  refine At.zi (.q 0 (.n true 1 .done)) ?_
  first | refine AtT.zF qj ?_ | refine AtT.zJ qj ?_ | refine AtT.zD qj ?_
  refine AtT.zy qj ?_
  refine AtT.done ?_
  refine At.nrm ?_
  exact At.qh rfl (.agg rfl qj zP.zI rfl) rfl
 refine At.nrm ?_
 refine At.zi (.q 0 (.q 1 .done)) ?_
 refine AtT.qF ?_
 refine AtT.zg ?_
 refine AtT.done ?_
 refine At.nrm ?_
 refine At.qb rfl (fun k3 => ?_) (fun k3 => ?_)
 rotate_left
 ·refine At.nrm ?_
  refine At.zi (.q 0 (.n true 1 .done)) ?_
  first | refine AtT.zF qj ?_ | refine AtT.zJ qj ?_ | refine AtT.zD qj ?_
  refine AtT.zy qj ?_
  refine AtT.done ?_
  refine At.nrm ?_
  exact At.qh rfl (.agg rfl qj zP.zI rfl) (by rw [less_no k2 k3])
 have hn := hn0 (by omega)
 rw [less_made k3]
 have hpl := partsOf_len hrs e.t
 refine At.nrm ?_
 refine At.draw (.q 0 (.q 1 (.q 2 (.q 3 (.q 4 (.q 5 (.q 6 (.q 7 (.q 8 (.q 9 .done)))))))))) ffm (by kernel_rfl) ?_
 refine AtT.zf ?_
 refine AtT.jM ?_
 first | refine AtT.zk jd ?_ | with_reducible refine AtT.zl jd ?_ | refine AtT.zn jd ?_
 first | refine AtT.zm tk87 ?_ | refine AtT.zo tk87 ?_
 first | refine AtT.zk zL ?_ | with_reducible refine AtT.zl zL ?_ | refine AtT.zn zL ?_
 first | refine AtT.zm tk3 ?_ | refine AtT.zo tk3 ?_
 refine AtT.qy (bd92_0 _) ?_
 refine AtT.lookupV rfl trivial key92 e.t zq Tryz.underlying87 z66 rfl rfl rfl hr1 (by decide) ?_
 rw [hrcs]
 first | refine AtT.zR Tryz.underlying66 ?_ | refine AtT.zQ Tryz.underlying66 ?_
 refine AtT.zf ?_
 refine AtT.done ?_
 refine At.nrm ?_
 refine At.lp (ι := Nat) (KS := fun j => [(3, .pointer (some ⟨b3, 0, none⟩)), (4, .pointer (some ⟨b4, 0, none⟩)), (5, .pointer (some ⟨b5, 0, none⟩)), (27, .slice (qW e.t zq Mr).2.1 (partsOf rs e.t).length (qW e.t zq Mr).2.2), (28, iv (partsOf rs e.t).length), (29, iv j)])
  (OS := fun j => [.blk b5 (LC (stC (lessS e.n ((partsOf rs e.t).take j))) 105), .blk b4 (LC (stC fun _ => 0) 105), .blk b3 (LC (ene e) 36)]) (VS := fun j V' => V' = V ∧ j ≤ (partsOf rs e.t).length) (μ := fun j => (partsOf rs e.t).length - j) 0 ?_ ?_ ?_ ?_
 ·exact ⟨rfl, rfl, rfl, rfl, rfl, rfl, trivial⟩
 ·exact Pt.zI
 ·exact ⟨rfl, Nat.zero_le _⟩
 rintro j V' ks' O' ⟨rfl, hjl⟩ hk hO hl2
 subst hk hO
 refine At.nrm ?_
 refine At.zi (.q 0 .done) ?_
 refine AtT.qp ?_
 refine AtT.done ?_
 refine At.nrm ?_
 refine At.qb rfl (fun hp => ?_) (fun hp => ?_)
 rotate_left
 ·obtain rfl : j = (partsOf rs e.t).length := by omega
  rw [List.take_length]
  refine At.nrm ?_
  refine At.zi (.q 0 (.n true 1 .done)) ?_
  first | refine AtT.zF qj ?_ | refine AtT.zJ qj ?_ | refine AtT.zD qj ?_
  refine AtT.zy qj ?_
  refine AtT.done ?_
  refine At.nrm ?_
  exact At.qh rfl (.agg rfl qj zP.zI rfl) rfl
 have hj : j < (partsOf rs e.t).length := by omega
 obtain ⟨p, hpj⟩ : ∃ p, (partsOf rs e.t)[j]? = some p := ⟨_, List.getElem?_eq_getElem hj⟩
 have hpi := qD hrs (List.mem_of_getElem? hpj)
 obtain ⟨T, hT⟩ : ∃ T : Nat, p.t = (T : Int) := ⟨p.t.toNat, by omega⟩
 have hT8 : T < 8 := by omega
 have htk : (partsOf rs e.t).take (j + 1) = (partsOf rs e.t).take j ++ [p] := by
  rw [List.take_succ_eq_append_getElem hj]; congr 1; rw [List.getElem?_eq_getElem hj] at hpj; simpa using hpj
 have hm0 := Int.mul_nonneg (show 0 ≤ e.n by omega) (show 0 ≤ p.n by omega)
 have hm1 : e.n * p.n ≤ 1000 * 9 := Int.mul_le_mul (by omega) (by omega) (by omega) (by decide)
 have hset : (stC (lessS e.n ((partsOf rs e.t).take j))).set (0 + (T : Int).toNat * 1) (iv (e.n * p.n)) = stC (lessS e.n ((partsOf rs e.t).take (j + 1))) := by
  rw [Int.toNat_natCast, Nat.mul_one, Nat.zero_add, stC_set _ _ hT8, htk, lessS_snoc (parts_ne hrs hpj), hT, Int.toNat_natCast]
 refine At.nrm ?_
 refine At.zi (.q 0 (.q 1 (.n false 2 (.n true 3 .done)))) ?_
 refine AtT.idx rfl trivial Tryz.underlying66 qZ rfl hr4 rfl (by omega) (by omega) (by decide) ?_
 intro p31 e31 he31 hc31
 obtain rfl : p = e31 := by have : (partsOf rs e.t)[j]? = some e31 := (by simpa using he31); rw [hpj] at this; simpa using this
 first | refine AtT.zF qZ ?_ | refine AtT.zJ qZ ?_ | refine AtT.zD qZ ?_
 refine AtT.zT z69 ?_
 intro b7
 refine AtT.zy qZ ?_
 refine AtT.done ?_
 refine At.nrm ?_
 refine At.nrm ?_
 refine At.zi (.q 0 (.q 1 (.q 2 (.q 3 (.q 4 (.q 5 (.q 6 (.q 7 (.n true 8 .done))))))))) ?_
 first | refine AtT.zk zZ ?_ | with_reducible refine AtT.zl zZ ?_ | refine AtT.zn zZ ?_
 first | refine AtT.zm tk3 ?_ | refine AtT.zo tk3 ?_
 rw [hT]
 first | refine AtT.zk zO ?_ | with_reducible refine AtT.zl zO ?_ | refine AtT.zn zO ?_
 first | refine AtT.zm tk2 ?_ | refine AtT.zo tk2 ?_
 first | refine AtT.zk qi ?_ | with_reducible refine AtT.zl qi ?_ | refine AtT.zn qi ?_
 first | refine AtT.zm tk2 ?_ | refine AtT.zo tk2 ?_
 refine AtT.mul rfl trivial rfl rfl (by decide) (Fit.of (by omega) (by omega)) ?_
 refine AtT.kidxA Tryz.underlying105 tk2 ?_
 refine AtT.jK rfl trivial rfl rfl tk2 rfl rfl (by repeat first|exact Upd.here|apply Upd.there) (qU (by simp; omega) hset) ?_
 refine AtT.done ?_
 refine At.nrm ?_
 refine At.nrm ?_
 refine At.zi (.q 0 (.q 1 .done)) ?_
 first | refine AtT.qG ?_ | refine AtT.qd ?_
 refine AtT.zf ?_
 refine AtT.done ?_
 refine At.nrm ?_
 refine At.round (j + 1) ?_ ?_ ?_ ?_
 ·show (partsOf rs e.t).length - (j + 1) < (partsOf rs e.t).length - j; omega
 ·exact ⟨rfl, by omega⟩
 ·exact ⟨rfl, rfl, rfl, rfl, rfl, ivs (by omega), trivial⟩
 ·exact Pt.zI
theorem kG (e : En) (he : EnG e) (V : View) : Fnc Tryz.prog 94 [env e] V fun r _ => r = .agg (stC (more e)).toArray := by
 have ht0 := he.t
 refine ql Tryz.func94 rfl Tryz.ntmps94 (Nat.le_of_ble_eq_true rfl) ?_
 intro w0 hw0
 refine At.nrm ?_
 refine At.zi (.n false 0 (.n false 1 .done)) ?_
 refine AtT.jE ?_
 intro b1
 refine AtT.zT z105 ?_
 intro b2
 refine AtT.done ?_
 refine At.nrm ?_
 refine At.zi (.n false 0 .done) ?_
 refine AtT.zT z105 ?_
 intro b3
 refine AtT.done ?_
 refine At.nrm ?_
 refine At.nrm ?_
 by_cases ka : e.k = 1 ∨ e.k = 3
 rotate_left
 ·refine At.zi (.q 0 (.q 1 (.q 2 (.q 3 (.q 4 (.q 5 (.q 6 (.q 7 .done)))))))) ?_
  first | refine AtT.zk zA ?_ | with_reducible refine AtT.zl zA ?_ | refine AtT.zn zA ?_
  first | refine AtT.zm tk3 ?_ | refine AtT.zo tk3 ?_
  refine AtT.qF ?_
  refine AtT.zS (d := 6) rfl ((fun h => ka (.inl h))) ?_
  refine AtT.zf ?_
  all_goals (first | refine AtT.kL 7 ?_ | refine AtT.zw (d := 7) rfl (fun hg7 => ?_) (fun hg7 => ?_) | refine AtT.zu (d := 7) rfl (fun hg7 => ?_) (fun hg7 => ?_))
  all_goals first|refine AtT.zh ?_|refine AtT.ze ?_|(first | refine AtT.zk zA ?_ | with_reducible refine AtT.zl zA ?_ | refine AtT.zn zA ?_)
  all_goals first|refine AtT.zh ?_|refine AtT.ze ?_|(first | refine AtT.zm tk3 ?_ | refine AtT.zo tk3 ?_)
  all_goals first|refine AtT.zh ?_|refine AtT.ze ?_|(refine AtT.qF ?_)
  all_goals (refine AtT.zS (d := 10) rfl ((fun h => ka (.inr h))) ?_)
  all_goals (refine AtT.zx ?_)
  all_goals refine AtT.done ?_
  all_goals (refine At.nrm ?_)
  all_goals refine At.zX rfl rfl ?_
  refine At.nrm ?_
  refine At.zi (.q 0 (.n true 1 .done)) ?_
  first | refine AtT.zF qj ?_ | refine AtT.zJ qj ?_ | refine AtT.zD qj ?_
  refine AtT.zy qj ?_
  refine AtT.done ?_
  refine At.nrm ?_
  exact At.qh rfl (.agg rfl qj zP.zI rfl) (by rw [more_no ka])
 have ht := ht0 (by omega)
 obtain ⟨T, hT⟩ : ∃ T : Nat, e.t = (T : Int) := ⟨e.t.toNat, by omega⟩
 have hT8 : T < 8 := by omega
 have hset : (stC fun _ => 0).set (0 + (T : Int).toNat * 1) (iv e.n) = stC (more e) := by rw [Int.toNat_natCast, Nat.mul_one, Nat.zero_add, stC_set _ _ hT8, more_yes ka, hT, Int.toNat_natCast]
 by_cases k1 : e.k = 1
 ·refine At.zi (.q 0 (.q 1 (.q 2 (.q 3 (.q 4 (.q 5 (.q 6 (.q 7 .done)))))))) ?_
  first | refine AtT.zk zA ?_ | with_reducible refine AtT.zl zA ?_ | refine AtT.zn zA ?_
  first | refine AtT.zm tk3 ?_ | refine AtT.zo tk3 ?_
  refine AtT.qF ?_
  refine AtT.qa (d := 6) rfl (k1) ?_
  refine AtT.zf ?_
  all_goals (first | refine AtT.kL 7 ?_ | refine AtT.zw (d := 7) rfl (fun hg7 => ?_) (fun hg7 => ?_) | refine AtT.zu (d := 7) rfl (fun hg7 => ?_) (fun hg7 => ?_))
  all_goals first|refine AtT.zh ?_|refine AtT.ze ?_|(first | refine AtT.zk zA ?_ | with_reducible refine AtT.zl zA ?_ | refine AtT.zn zA ?_)
  all_goals first|refine AtT.zh ?_|refine AtT.ze ?_|(first | refine AtT.zm tk3 ?_ | refine AtT.zo tk3 ?_)
  all_goals first|refine AtT.zh ?_|refine AtT.ze ?_|(refine AtT.qF ?_)
  all_goals (refine AtT.zx ?_)
  all_goals refine AtT.done ?_
  all_goals (refine At.nrm ?_)
  all_goals refine At.zU rfl rfl ?_
  refine At.nrm ?_
  refine At.zi (.q 0 (.q 1 (.q 2 (.q 3 (.q 4 (.n true 5 .done)))))) ?_
  first | refine AtT.zk zL ?_ | with_reducible refine AtT.zl zL ?_ | refine AtT.zn zL ?_
  first | refine AtT.zm tk3 ?_ | refine AtT.zo tk3 ?_
  rw [hT]
  first | refine AtT.zk zO ?_ | with_reducible refine AtT.zl zO ?_ | refine AtT.zn zO ?_
  first | refine AtT.zm tk2 ?_ | refine AtT.zo tk2 ?_
  refine AtT.kidxA Tryz.underlying105 tk2 ?_
  refine AtT.jK rfl trivial rfl rfl tk2 rfl rfl (by repeat first|exact Upd.here|apply Upd.there) (qU (by simp; omega) hset) ?_
  refine AtT.done ?_
  refine At.nrm ?_
  refine At.nrm ?_
  refine At.zi (.q 0 (.n true 1 .done)) ?_
  first | refine AtT.zF qj ?_ | refine AtT.zJ qj ?_ | refine AtT.zD qj ?_
  refine AtT.zy qj ?_
  refine AtT.done ?_
  refine At.nrm ?_
  exact At.qh rfl (.agg rfl qj zP.zI rfl) rfl
 ·refine At.zi (.q 0 (.q 1 (.q 2 (.q 3 (.q 4 (.q 5 (.q 6 (.q 7 .done)))))))) ?_
  first | refine AtT.zk zA ?_ | with_reducible refine AtT.zl zA ?_ | refine AtT.zn zA ?_
  first | refine AtT.zm tk3 ?_ | refine AtT.zo tk3 ?_
  refine AtT.qF ?_
  refine AtT.zS (d := 6) rfl (k1) ?_
  refine AtT.zf ?_
  all_goals (first | refine AtT.kL 7 ?_ | refine AtT.zw (d := 7) rfl (fun hg7 => ?_) (fun hg7 => ?_) | refine AtT.zu (d := 7) rfl (fun hg7 => ?_) (fun hg7 => ?_))
  all_goals first|refine AtT.zh ?_|refine AtT.ze ?_|(first | refine AtT.zk zA ?_ | with_reducible refine AtT.zl zA ?_ | refine AtT.zn zA ?_)
  all_goals first|refine AtT.zh ?_|refine AtT.ze ?_|(first | refine AtT.zm tk3 ?_ | refine AtT.zo tk3 ?_)
  all_goals first|refine AtT.zh ?_|refine AtT.ze ?_|(refine AtT.qF ?_)
  all_goals (refine AtT.qa (d := 10) rfl ((by omega)) ?_)
  all_goals (refine AtT.zx ?_)
  all_goals refine AtT.done ?_
  all_goals (refine At.nrm ?_)
  all_goals refine At.zU rfl rfl ?_
  refine At.nrm ?_
  refine At.zi (.q 0 (.q 1 (.q 2 (.q 3 (.q 4 (.n true 5 .done)))))) ?_
  first | refine AtT.zk zL ?_ | with_reducible refine AtT.zl zL ?_ | refine AtT.zn zL ?_
  first | refine AtT.zm tk3 ?_ | refine AtT.zo tk3 ?_
  rw [hT]
  first | refine AtT.zk zO ?_ | with_reducible refine AtT.zl zO ?_ | refine AtT.zn zO ?_
  first | refine AtT.zm tk2 ?_ | refine AtT.zo tk2 ?_
  refine AtT.kidxA Tryz.underlying105 tk2 ?_
  refine AtT.jK rfl trivial rfl rfl tk2 rfl rfl (by repeat first|exact Upd.here|apply Upd.there) (qU (by simp; omega) hset) ?_
  refine AtT.done ?_
  refine At.nrm ?_
  refine At.nrm ?_
  refine At.zi (.q 0 (.n true 1 .done)) ?_
  first | refine AtT.zF qj ?_ | refine AtT.zJ qj ?_ | refine AtT.zD qj ?_
  refine AtT.zy qj ?_
  refine AtT.done ?_
  refine At.nrm ?_
  exact At.qh rfl (.agg rfl qj zP.zI rfl) rfl
theorem iterC_f (es : List En) (first : Nat) (h100 : first ≤ 100) (V : View) (q : Addr) (a : Option Addr) (c : Nat) (hq : Cells V q [.slice a first c]) (hs : Sl V eb 1 (.slice a first c) (gKb es first first)) : It Tryz.prog 91 [.pointer (some q)] V (ysC es first) := by
 refine it_of Tryz.func91 rfl Tryz.ntmps91 (Nat.le_of_ble_eq_true rfl) rfl ?_
 intro l J E w0 H hJ
 have hgl := gKb_len es first first
 refine At.nrm ?_
 refine At.zi (.q 0 (.q 1 (.q 2 .done))) ?_
 first | refine AtT.zm tk136 ?_ | refine AtT.zo tk136 ?_
 refine AtT.zQ Tryz.underlying136 ?_
 refine AtT.zf ?_
 refine AtT.done ?_
 refine At.nrm ?_
 refine At.lpY H (ι := Nat) (fun k => k ≤ first) (fun k => [(0, .func (.yield l) #[] #[]), (1, .pointer (some q)), (5, .slice a first c), (6, iv first), (7, iv k)]) (fun k => (cntJ es first k).length) (fun k => first - k) 0 (Nat.zero_le _) ⟨rfl, rfl, rfl, rfl, rfl, trivial⟩ hJ ?_
 rintro k w ks' hkl hJ rfl
 refine At.nrm ?_
 refine At.zi (.q 0 .done) ?_
 refine AtT.qp ?_
 refine AtT.done ?_
 refine At.nrm ?_
 refine At.qb rfl (fun hp => ?_) (fun hp => ?_)
 rotate_left
 ·obtain rfl : k = first := by omega
  refine At.nrm ?_
  exact At.itEnd H (.inl rfl) rfl (.inl (by unfold ysC cntI; rw [List.length_map, List.length_map, ← cntJ_all]; exact hJ))
 have hk : k < first := by omega
 have hgk := gKb_at (es := es) (first := first) (k := first) hk
 refine At.nrm ?_
 cases hg : gone es first k with
 | true =>
  have hg' : jg es first first k = true := hg
  rw [hg'] at hgk
  refine At.zi (.q 0 (.q 1 (.q 2 (.q 3 (.q 4 .done))))) ?_
  refine AtT.zf ?_
  refine AtT.idx rfl trivial Tryz.underlying136 tk4 rfl hs rfl (by omega) (by omega) (by decide) ?_
  intro p10 e10 he10 hc10
  obtain rfl : true = e10 := by have : (gKb es first first)[k]? = some e10 := (by simpa using he10); rw [hgk] at this; simpa using this
  first | refine AtT.zm tk4 ?_ | refine AtT.zo tk4 ?_
  refine AtT.zg ?_
  refine AtT.zg ?_
  refine AtT.done ?_
  refine At.nrm ?_
  refine At.nrm ?_
  refine At.zi (.q 0 (.q 1 (.q 2 (.q 3 (.q 4 (.n false 5 (.q 6 (.q 7 .done)))))))) ?_
  refine AtT.zf ?_
  refine AtT.qC ?_
  refine AtT.qJ (d := 13) rfl ((show (!true) = false from rfl)) ?_
  refine AtT.zf ?_
  all_goals (first | refine AtT.kL 14 ?_ | refine AtT.zw (d := 14) rfl (fun hg14 => ?_) (fun hg14 => ?_) | refine AtT.zu (d := 14) rfl (fun hg14 => ?_) (fun hg14 => ?_))
  all_goals first|refine AtT.zh ?_|refine AtT.ze ?_|(refine AtT.zf ?_)
  all_goals first|refine AtT.zh ?_|refine AtT.ze ?_|(refine AtT.zf ?_)
  all_goals first|refine AtT.qf ?_|refine AtT.zW ?_|((fail))
  all_goals first|refine AtT.zh ?_|refine AtT.ze ?_|(refine AtT.qC ?_)
  all_goals (refine AtT.zx ?_)
  all_goals refine AtT.done ?_
  all_goals (refine At.nrm ?_)
  all_goals refine At.zX rfl rfl ?_
  refine At.nrm ?_
  refine At.zi (.q 0 (.q 1 .done)) ?_
  first | refine AtT.qG ?_ | refine AtT.qd ?_
  refine AtT.zf ?_
  refine AtT.done ?_
  refine At.nrm ?_
  refine At.roundY H (k + 1) ?_ (by omega) ?_ (by dsimp only; rw [cntJ_out hg]; exact hJ)
  ·show first - (k + 1) < first - k; omega
  ·exact ⟨rfl, rfl, rfl, rfl, ivs (by push_cast; omega), trivial⟩
 | false =>
  have hg' : jg es first first k = false := hg
  rw [hg'] at hgk
  have hys := ysC_at hk hg
  have hlen : (cntJ es first (k + 1)).length = (cntJ es first k).length + 1 := by rw [cntJ_in hg, List.length_append]; rfl
  refine At.zi (.q 0 (.q 1 (.q 2 (.q 3 (.q 4 .done))))) ?_
  refine AtT.zf ?_
  refine AtT.idx rfl trivial Tryz.underlying136 tk4 rfl hs rfl (by omega) (by omega) (by decide) ?_
  intro p10 e10 he10 hc10
  obtain rfl : false = e10 := by have : (gKb es first first)[k]? = some e10 := (by simpa using he10); rw [hgk] at this; simpa using this
  first | refine AtT.zm tk4 ?_ | refine AtT.zo tk4 ?_
  refine AtT.zg ?_
  refine AtT.zg ?_
  refine AtT.done ?_
  refine At.nrm ?_
  refine At.nrm ?_
  refine At.zi (.q 0 (.q 1 (.q 2 (.q 3 (.q 4 (.n true 5 (.q 6 (.q 7 .done)))))))) ?_
  refine AtT.zf ?_
  refine AtT.qC ?_
  refine AtT.qJ (d := 13) rfl ((show (!false) = true from rfl)) ?_
  refine AtT.zf ?_
  all_goals (first | refine AtT.kL 14 ?_ | refine AtT.zw (d := 14) rfl (fun hg14 => ?_) (fun hg14 => ?_) | refine AtT.zu (d := 14) rfl (fun hg14 => ?_) (fun hg14 => ?_))
  all_goals first|refine AtT.zh ?_|refine AtT.ze ?_|(refine AtT.zf ?_)
  all_goals first|refine AtT.zh ?_|refine AtT.ze ?_|(refine AtT.zf ?_)
  all_goals (first | refine AtT.qf ?_ | refine AtT.zW ?_ | ((refine AtT.yield rfl ⟨_, _, rfl, rfl, rfl⟩ rfl rfl H (hys) (hJ) (by decide) ?_ ?_)) <;> (intro w17 hJ17))
  all_goals first|refine AtT.zh ?_|refine AtT.ze ?_|(refine AtT.qC ?_)
  all_goals (refine AtT.zx ?_)
  all_goals refine AtT.done ?_
  all_goals (refine At.nrm ?_)
  rotate_left
  ·refine At.zU rfl rfl ?_
   refine At.nrm ?_
   exact At.itEnd H (.inr rfl) rfl (.inr hJ17)
  refine At.zX rfl rfl ?_
  refine At.nrm ?_
  refine At.zi (.q 0 (.q 1 .done)) ?_
  first | refine AtT.qG ?_ | refine AtT.qd ?_
  refine AtT.zf ?_
  refine AtT.done ?_
  refine At.nrm ?_
  refine At.roundY H (k + 1) ?_ (by omega) ?_ (by dsimp only; rw [hlen]; exact hJ17)
  ·show first - (k + 1) < first - k; omega
  ·exact ⟨rfl, rfl, rfl, rfl, ivs (by push_cast; omega), trivial⟩
theorem counting_f (es : List En) (first : Nat) (hf : first ≤ es.length) (h30 : es.length ≤ 100) (hbk : BkOk es first) (b m1 m2 : Nat) (u1 : Value) (a : Option Addr) (c : Nat) (V : View) (hb : StoV V b u1 (.slice a es.length c) m1 m2) (hs : Sl V ene 4 (.slice a es.length c) es) :
  Fnc Tryz.prog 64 [.pointer (some ⟨b, 0, none⟩), iv first] V fun r V' => ∃ q : Addr, r = .func (.func 91) #[] #[.pointer (some q)] ∧ It Tryz.prog 91 [.pointer (some q)] V' (ysC es first) := by
 have hb1 := hb.c1
 refine ql Tryz.func64 rfl Tryz.ntmps64 (Nat.le_of_ble_eq_true rfl) ?_
 intro w0 hw0
 refine At.nrm ?_
 refine At.zi (.q 0 .done) ?_
 refine AtT.zg ?_
 refine AtT.done ?_
 refine At.nrm ?_
 refine At.nrm ?_
 refine At.zi (.q 0 (.n false 1 (.n false 2 (.n true 3 .done)))) ?_
 refine AtT.zf ?_
 refine AtT.makeSl rfl trivial eb rfl Tryz.underlying136 rw4 rfl rfl (by decide) rfl rfl (by omega) (by omega) (by decide) (za := false) ?_
 intro b10
 refine AtT.zT z136 ?_
 intro b5
 first | refine AtT.jc tk136 ?_ | refine AtT.zy tk136 ?_
 refine AtT.done ?_
 refine At.nrm ?_
 refine At.zi (.q 0 (.q 1 .done)) ?_
 refine AtT.zf ?_
 refine AtT.zf ?_
 refine AtT.done ?_
 refine At.nrm ?_
 rw [← gKb_zero es first]
 refine At.lp (ι := Nat) (KS := fun k => [(0, .pointer (some ⟨b, 0, none⟩)), (1, iv first), (5, .pointer (some ⟨b5, 0, none⟩)), (11, iv first), (12, iv k)]) (OS := fun k => [.blk b5 (LC [.slice (some ⟨b10, 0, none⟩) first first] 136), .blk b10 (LC (flat eb (gKb es first k)) 4)]) (VS := fun k V' => V' = V ∧ k ≤ first) (μ := fun k => first - k) 0 ?_ ?_ ?_ ?_
 ·exact ⟨rfl, rfl, rfl, rfl, rfl, trivial⟩
 ·exact Pt.zI
 ·exact ⟨rfl, Nat.zero_le _⟩
 rintro k V' ks' O' ⟨rfl, hkl⟩ hk hO hl2
 subst hk hO
 refine At.nrm ?_
 refine At.zi (.q 0 .done) ?_
 refine AtT.qp ?_
 refine AtT.done ?_
 refine At.nrm ?_
 refine At.qb rfl (fun hp => ?_) (fun hp => ?_)
 ·have hik : (first : Int) - 1 - k = ((first - 1 - k : Nat) : Int) := by omega
  obtain ⟨x, hx⟩ : ∃ x, es[first - 1 - k]? = some x := ⟨_, List.getElem?_eq_getElem (by omega)⟩
  have hxe := enA_at hx
  have hcell := gKb_cell (es := es) (first := first) (k := k) (s := first - 1 - k) (by omega)
  refine At.nrm ?_
  refine At.zi (.q 0 (.q 1 .done)) ?_
  refine AtT.zf ?_
  refine AtT.zg ?_
  refine AtT.done ?_
  refine At.nrm ?_
  refine At.zi (.q 0 (.q 1 (.q 2 (.q 3 (.q 4 .done))))) ?_
  refine AtT.zf ?_
  first | refine AtT.ji ?_ | refine AtT.jh ?_
  refine AtT.zf ?_
  first | refine AtT.ji ?_ | refine AtT.jh ?_
  rw [hik]
  refine AtT.zg ?_
  refine AtT.done ?_
  refine At.nrm ?_
  refine At.zi (.q 0 (.q 1 (.q 2 (.q 3 (.q 4 (.q 5 (.q 6 (.q 7 (.n false 8 (.n true 9 .done)))))))))) ?_
  refine AtT.zf ?_
  refine AtT.jM ?_
  first | refine AtT.zk kg ?_ | with_reducible refine AtT.zl kg ?_ | refine AtT.zn kg ?_
  first | refine AtT.zk zz ?_ | with_reducible refine AtT.zl zz ?_ | refine AtT.zn zz ?_
  first | refine AtT.zm qo ?_ | refine AtT.zo qo ?_
  refine AtT.zf ?_
  refine AtT.qm Tryz.underlying24 qH ?_
  intro p25 e25 he25 hc25
  obtain rfl : x = e25 := by have : es[first - 1 - k]? = some e25 := (by simpa using he25); rw [hx] at this; simpa using this
  first | refine AtT.zF qH ?_ | refine AtT.zJ qH ?_ | refine AtT.zD qH ?_
  refine AtT.zT z36 ?_
  intro b8
  refine AtT.zy qH ?_
  refine AtT.done ?_
  refine At.nrm ?_
  refine At.nrm ?_
  refine At.zi (.q 0 (.q 1 (.q 2 .done))) ?_
  first | refine AtT.zk zA ?_ | with_reducible refine AtT.zl zA ?_ | refine AtT.zn zA ?_
  first | refine AtT.zm tk3 ?_ | refine AtT.zo tk3 ?_
  refine AtT.qF ?_
  refine AtT.done ?_
  refine At.nrm ?_
  refine At.qb rfl (fun h4 => ?_) (fun h4 => ?_)
  ·cases hg : jg es first k (first - 1 - k) with
   | true =>
    rw [hg] at hcell
    refine At.nrm ?_
    refine At.zi (.q 0 (.q 1 (.q 2 (.q 3 .done)))) ?_
    first | refine AtT.zm tk136 ?_ | refine AtT.zo tk136 ?_
    refine AtT.zf ?_
    refine AtT.idxZ rfl trivial Tryz.underlying136 tk4 rfl rfl (by omega) (by decide) ?_
    refine AtT.jQ rfl trivial rfl tk4 zP.zI hcell (by decide) ?_
    refine AtT.done ?_
    refine At.nrm ?_
    refine At.zU rfl rfl ?_
    refine At.nrm ?_
    refine At.zi (.q 0 (.q 1 .done)) ?_
    first | refine AtT.qG ?_ | refine AtT.qd ?_
    refine AtT.zf ?_
    refine AtT.done ?_
    refine At.nrm ?_
    refine At.round (k + 1) ?_ ?_ ?_ ?_
    ·show first - (k + 1) < first - k; omega
    ·exact ⟨rfl, by omega⟩
    ·exact ⟨rfl, rfl, rfl, rfl, ivs (by omega), trivial⟩
    rw [gKb_same (by rw [hg]; simp)]
    ·exact Pt.zI
   | false =>
    rw [hg] at hcell
    have hbb := hbk (first - 1 - k) (by omega) (by rw [hxe]; exact h4)
    rw [hxe] at hbb
    obtain ⟨T, hT⟩ : ∃ T : Nat, x.t = (T : Int) := ⟨x.t.toNat, by omega⟩
    have hput := gKb_put (es := es) (first := first) (k := k) (T := T) (by rw [hxe]; exact hT) (by rw [hxe]; exact h4) hg
    have hlt : T * 1 < (flat eb (gKb es first k)).length := by rw [gKb_flen]; omega
    refine At.nrm ?_
    refine At.zi (.q 0 (.q 1 (.q 2 (.q 3 .done)))) ?_
    first | refine AtT.zm tk136 ?_ | refine AtT.zo tk136 ?_
    refine AtT.zf ?_
    refine AtT.idxZ rfl trivial Tryz.underlying136 tk4 rfl rfl (by omega) (by decide) ?_
    refine AtT.jQ rfl trivial rfl tk4 zP.zI hcell (by decide) ?_
    refine AtT.done ?_
    refine At.nrm ?_
    refine At.zX rfl rfl ?_
    refine At.nrm ?_
    refine At.zi (.q 0 (.q 1 (.q 2 (.q 3 (.n true 4 .done))))) ?_
    first | refine AtT.zm tk136 ?_ | refine AtT.zo tk136 ?_
    first | refine AtT.zk zL ?_ | with_reducible refine AtT.zl zL ?_ | refine AtT.zn zL ?_
    first | refine AtT.zm tk3 ?_ | refine AtT.zo tk3 ?_
    rw [hT]
    refine AtT.idxZ rfl trivial Tryz.underlying136 tk4 rfl rfl (by omega) (by decide) ?_
    refine AtT.jK rfl trivial rfl rfl tk4 rfl rfl (by repeat first|exact Upd.here|apply Upd.there) (qU hlt hput) ?_
    refine AtT.done ?_
    refine At.nrm ?_
    refine At.nrm ?_
    refine At.zi (.q 0 (.q 1 .done)) ?_
    first | refine AtT.qG ?_ | refine AtT.qd ?_
    refine AtT.zf ?_
    refine AtT.done ?_
    refine At.nrm ?_
    refine At.round (k + 1) ?_ ?_ ?_ ?_
    ·show first - (k + 1) < first - k; omega
    ·exact ⟨rfl, by omega⟩
    ·exact ⟨rfl, rfl, rfl, rfl, ivs (by omega), trivial⟩
    ·exact Pt.zI
  ·refine At.nrm ?_
   refine At.zi (.q 0 (.q 1 .done)) ?_
   first | refine AtT.qG ?_ | refine AtT.qd ?_
   refine AtT.zf ?_
   refine AtT.done ?_
   refine At.nrm ?_
   refine At.round (k + 1) ?_ ?_ ?_ ?_
   ·show first - (k + 1) < first - k; omega
   ·exact ⟨rfl, by omega⟩
   ·exact ⟨rfl, rfl, rfl, rfl, ivs (by omega), trivial⟩
   rw [gKb_same (by rw [hxe]; exact fun h => h4 h.1)]
   ·exact Pt.zI
 obtain rfl : k = first := by omega
 refine At.giveB (b := b10) zP.zI (fun V4 hV4 hb10 => ?_)
 refine At.giveB (b := b5) zP.zI (fun V5 hV5 hb5 => ?_)
 have hs5 : Sl V5 eb 1 (.slice (some ⟨b10, 0, none⟩) k k) (gKb es k k) := by
  have := Sl.of_cells (l := gKb es k k) (cap := k) eb_len ((jy hb10).le hV5) (by rw [gKb_len]; exact Nat.le_refl _) (by unfold maxLen; omega)
  rwa [gKb_len] at this
 refine At.nrm ?_
 refine At.zi (.q 0 (.q 1 .done)) ?_
 refine AtT.kfn ?_
 refine AtT.zg ?_
 refine AtT.done ?_
 refine At.nrm ?_
 exact At.qh rfl (.tmp rfl) ⟨_, rfl, iterC_f es k (by omega) _ _ _ _ (jy hb5) hs5⟩
theorem take_snoc2 {α : Type} {l : List α} {k : Nat} {x : α} (h : l[k]? = some x) : l.take (k + 1) = l.take k ++ [x] := by
 obtain ⟨hk, rfl⟩ := List.getElem?_eq_some_iff.1 h
 exact List.take_succ_eq_append_getElem hk
theorem appendSeq_f (L : List Int) (hL : L.length ≤ 2000) (f : FuncId) (caps : List Value) (hok : zM Tryz.prog f) (V : View) (hit : It Tryz.prog f caps V (L.map fun p => [iv p])) : Fnc Tryz.prog 90 [.slice none 0 0, .func (.func f) #[] caps.toArray] V fun r V' => Sl V' ei 1 r L := by
 refine fn_ofM Tryz.func90 rfl Tryz.ntmps90 (Nat.le_of_ble_eq_true rfl) ?_
 intro w0 hw0
 refine At.nrm ?_
 refine At.zi (.n false 0 (.q 1 .done)) ?_
 refine AtT.jE ?_
 intro b2
 refine AtT.zg ?_
 refine AtT.done ?_
 refine At.nrm ?_
 refine At.zi (.q 0 .done) ?_
 refine AtT.zf ?_
 refine AtT.done ?_
 refine At.nrm ?_
 refine At.newRow 3 1 ?_
 refine At.rangeFunc (Vi := V) (ys := L.map fun p => [iv p]) (ι := Nat × Option Addr × Nat) (fun g => g.1)
  (fun g => [.blk b2 (LC [.slice g.2.1 (L.take g.1).length g.2.2] 37), .row (.slice g.2.1 (L.take g.1).length g.2.2) 3 1 (L.take g.1).length (flat ei (L.take g.1))])
  (fun g V' => Le V V') (fun _ _ _ => False) rfl hok (0, none, 0) rfl ?_ (Le.refl _) hit (fun _ _ h => h) (by decide) (fun y hy => by obtain ⟨k, _, rfl⟩ := List.mem_map.1 hy; rfl) rfl ?_ ?_ (fun _ _ _ _ h => h.elim)
 ·exact Pt.zI
 ·rintro ⟨k, ao, co⟩ y l D r V' ks' O' hy hVV hl rfl rfl
  dsimp only at hy ⊢
  have hk : k < L.length := by
   have := (List.getElem?_eq_some_iff.1 hy).1
   rwa [List.length_map] at this
  obtain ⟨p, hpk⟩ : ∃ p, L[k]? = some p := ⟨_, List.getElem?_eq_getElem hk⟩
  rw [List.getElem?_map, hpk] at hy
  obtain rfl := (Option.some.inj hy).symm
  have htk := take_snoc2 hpk
  have htl : (L.take k).length = k := by rw [List.length_take]; omega
  show At _ _ ((7, iv p) :: _) _ _ _
  refine At.nrm ?_
  refine At.zi (.q 0 .done) ?_
  refine AtT.zg ?_
  refine AtT.done ?_
  refine At.nrm ?_
  refine At.begin zP.zI ?_
  refine At.nrm ?_
  refine At.zi (.q 0 (.q 1 (.n false 2 (.n true 3 (.n true 4 .done))))) ?_
  first | refine AtT.zm tk37 ?_ | refine AtT.zo tk37 ?_
  refine AtT.zf ?_
  refine AtT.zN (qw _) ?_
  intro q10 V10 hV10 hq10
  have g10 : Le V V10 := by first | exact hV10 | exact Le.trans (by assumption) hV10
  first | refine AtT.qX Tryz.underlying37 rw3 ?_
  intro a11 c11
  first | refine AtT.jc tk37 ?_ | refine AtT.zy tk37 ?_
  refine AtT.done ?_
  refine At.nrm ?_
  refine At.roundN (k + 1, a11, c11) rfl (by first | assumption | exact Le.trans (by assumption) (by assumption)) zP.zI ?_
  dsimp only
  rw [htk, qY, show (L.take k ++ [p]).length = (L.take k).length + 1 from by rw [List.length_append]; rfl]
  ·exact Pt.zI
 rintro ⟨k, ao, co⟩ D V3 O' hk hVV hl rfl
 dsimp only at hk ⊢
 rw [List.length_map] at hk
 subst hk
 rw [List.take_length]
 refine At.sub (ks' := [(2, .pointer (some ⟨b2, 0, none⟩))]) ⟨rfl, trivial⟩ ?_
 refine At.nrm ?_
 refine At.zi (.q 0 (.q 1 .done)) ?_
 first | refine AtT.zm tk37 ?_ | refine AtT.zo tk37 ?_
 refine AtT.zg ?_
 refine AtT.done ?_
 refine At.nrm ?_
 refine At.unmark (.inl rfl) rfl zP.zI ?_
 refine At.jF (l := L) Lw.jU rfl rfl zP.zI (fun V4 hV4 hs4 => ?_)
 exact At.qh rfl (.tmp rfl) hs4
theorem collect_f (L : List Int) (hL : L.length ≤ 2000) (f : FuncId) (caps : List Value) (hok : zM Tryz.prog f) (V : View) (hit : It Tryz.prog f caps V (L.map fun p => [iv p])) : Fnc Tryz.prog 63 [.func (.func f) #[] caps.toArray] V fun r V' => Sl V' ei 1 r L := by
 refine ql Tryz.func63 rfl Tryz.ntmps63 (Nat.le_of_ble_eq_true rfl) ?_
 intro w0 hw0
 refine At.nrm ?_
 refine At.zi (.q 0 .done) ?_
 refine AtT.zg ?_
 refine AtT.done ?_
 refine At.nrm ?_
 refine At.zi (.q 0 (.n false 1 (.q 2 .done))) ?_
 refine AtT.zf ?_
 refine AtT.qg rfl rfl ok90 (appendSeq_f L hL f caps hok _ hit) ?_
 rintro v4 V4 hV4 hs4
 refine AtT.zg ?_
 refine AtT.done ?_
 refine At.nrm ?_
 exact At.qh rfl (.tmp rfl) hs4
end Go.Proofs.YtpoignmclfdgpaaGreatDoor
