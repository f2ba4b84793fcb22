/- When a cause is to blame, by how many explanations a panel fails, and which one tells most, are what the definitions say, or the error: for all trials, every cause, and every panel. No condition. -/
import Derived.Test.YtfcpmblmklibjaaGreatB6
set_option linter.unusedVariables false
set_option linter.unusedSimpArgs false
set_option linter.unusedSectionVars false
set_option linter.unusedVariables false
namespace Go.Proofs.YtfcpmblmklibjaaGreat
open Go.Lw Go.Gl Go.Bl Go.RowKit

/-- By how many explanations a panel fails, as the definitions say. -/
theorem by_f (L : List Nat) (hlt : ∀ x ∈ L, x < 32768) (hlen : L.length ≤ 32768) (p : Pq) (hp : sndB p = true) (V : View) (v : Value) (hs : SlI V v (ic L)) : Fnc Tryz.prog 46 [v, pqv p] V fun r _ => r = iv (flN L p) := by
  have hil := ic_len L
  have hcb := cbN_lt hp
  obtain ⟨a, c, rfl, k1, k2, _⟩ := id hs
  clear k1 k2
  refine fn_of Tryz.func46 rfl Tryz.ntmps46 (Nat.le_of_ble_eq_true rfl) ?_
  intro w0 hw0
  refine At.nrm ?_
  refine At.ktext (.n false 0 (.q 1 .done)) ?_
  refine AtT.kbox ?_
  intro b3
  refine AtT.kassign ?_
  refine AtT.done ?_
  refine At.nrm ?_
  refine At.ktext (.q 0 .done) ?_
  refine AtT.kassign ?_
  refine AtT.done ?_
  refine At.nrm ?_
  refine At.ktext (.q 0 .done) ?_
  refine AtT.kassign ?_
  refine AtT.done ?_
  refine At.nrm ?_
  refine At.lp (ι := Nat) (KS := fun k => [(0, .slice a (ic L).length c), (3, .pointer (some ⟨b3, 0, none⟩)), (5, iv (flN (L.take k) p)), (6, iv k)]) (OS := fun _ => [.blk b3 (LC (pqe p) 24)])
    (VS := fun k V' => Le V V' ∧ k ≤ L.length) (μ := fun k => L.length - k) 0 ?_ ?_ ?_ ?_
  · exact ⟨rfl, rfl, rfl, rfl, trivial⟩
  · exact Pt.auto
  · exact ⟨Le.refl _, Nat.zero_le _⟩
  rintro k V' ks' O' ⟨hVV, hkl⟩ hk hO hl2
  subst hk hO
  have hs' := hs.le hVV
  refine At.nrm ?_
  refine At.ktext (.q 0 (.q 1 (.q 2 (.q 3 .done)))) ?_
  refine AtT.kmove ?_
  refine AtT.kmove ?_
  first | refine AtT.klenS Tryz.underlying38 ?_ | refine AtT.klenR Tryz.underlying38 ?_
  refine AtT.klss ?_
  refine AtT.done ?_
  refine At.nrm ?_
  refine At.condP rfl (fun hp' => ?_) (fun hp' => ?_)
  · have hk1 : k < L.length := by omega
    obtain ⟨z, hz⟩ : ∃ l, L[k]? = some l := ⟨_, List.getElem?_eq_getElem (by omega)⟩
    have hzl := hlt z (List.mem_of_getElem? hz)
    have ht2 := flN_le (L.take k) p
    have htk : (L.take k).length ≤ 32768 := by rw [List.length_take]; omega
    refine At.nrm ?_
    by_cases hm : mtB (cbN p) z = true
    · refine At.draw (.q 0 (.q 1 (.q 2 (.q 3 (.q 4 (.n false 5 (.n false 6 (.q 7 (.q 8 .done))))))))) ffm (by kernel_rfl) ?_
      refine AtT.kmove ?_
      refine AtT.kmove ?_
      refine AtT.kidx Tryz.underlying38 tk3 ?_
      intro p15 e15 he15 hc15
      obtain rfl : e15 = (z : Int) := by have : (ic L)[k]? = some e15 := (by simpa using he15); rw [ic_at hz] at this; simpa using this.symm
      first | refine AtT.kloadO tk3 ?_ | refine AtT.kload tk3 ?_
      first | refine AtT.kloadOA tk24 ?_ | refine AtT.kloadA tk24 ?_ | refine AtT.kloadOP tk24 ?_
      refine AtT.kcall rfl rfl ok55 (causesOf_f p hp _) ?_
      rintro v18 V18 hV18 hs18
      refine AtT.kcallP rfl rfl ok18 (bitsOf_f _ (caL_in hp) _ _ hs18) ?_
      rintro _ rfl
      refine AtT.andN rfl trivial rfl rfl rfl rfl (by omega) (by show btL (caL p) < _; have : btL (caL p) < 32768 := hcb; omega) (by decide) (A := z) (B := cbN p) ?_
      refine AtT.kneI ?_
      refine AtT.setT (d := 21) rfl (((mt_val z p).2 hm)) ?_
      refine AtT.done ?_
      refine At.nrm ?_
      refine At.condT rfl rfl ?_
      refine At.nrm ?_
      refine At.ktext (.q 0 (.q 1 (.q 2 .done))) ?_
      refine AtT.kmove ?_
      first | refine AtT.kadd ?_ | refine AtT.kaddW ?_
      refine AtT.kassign ?_
      refine AtT.done ?_
      refine At.nrm ?_
      refine At.ktext (.q 0 (.q 1 (.q 2 .done))) ?_
      refine AtT.kmove ?_
      first | refine AtT.kadd ?_ | refine AtT.kaddW ?_
      refine AtT.kassign ?_
      refine AtT.done ?_
      refine At.nrm ?_
      refine At.round (k + 1) ?_ ?_ ?_ ?_
      · show L.length - (k + 1) < L.length - k; omega
      · exact ⟨hVV.trans hV18, by omega⟩
      · exact ⟨rfl, rfl, ivs (by rw [flN_take hz, if_pos hm]; simp), ivs (by omega), trivial⟩
      · exact Pt.auto
    · refine At.draw (.q 0 (.q 1 (.q 2 (.q 3 (.q 4 (.n false 5 (.n false 6 (.q 7 (.q 8 .done))))))))) ffm (by kernel_rfl) ?_
      refine AtT.kmove ?_
      refine AtT.kmove ?_
      refine AtT.kidx Tryz.underlying38 tk3 ?_
      intro p15 e15 he15 hc15
      obtain rfl : e15 = (z : Int) := by have : (ic L)[k]? = some e15 := (by simpa using he15); rw [ic_at hz] at this; simpa using this.symm
      first | refine AtT.kloadO tk3 ?_ | refine AtT.kload tk3 ?_
      first | refine AtT.kloadOA tk24 ?_ | refine AtT.kloadA tk24 ?_ | refine AtT.kloadOP tk24 ?_
      refine AtT.kcall rfl rfl ok55 (causesOf_f p hp _) ?_
      rintro v18 V18 hV18 hs18
      refine AtT.kcallP rfl rfl ok18 (bitsOf_f _ (caL_in hp) _ _ hs18) ?_
      rintro _ rfl
      refine AtT.andN rfl trivial rfl rfl rfl rfl (by omega) (by show btL (caL p) < _; have : btL (caL p) < 32768 := hcb; omega) (by decide) (A := z) (B := cbN p) ?_
      refine AtT.kneI ?_
      refine AtT.setF (d := 21) rfl ((fun h => hm ((mt_val z p).1 h))) ?_
      refine AtT.done ?_
      refine At.nrm ?_
      refine At.condF rfl rfl ?_
      refine At.nrm ?_
      refine At.ktext (.q 0 (.q 1 (.q 2 .done))) ?_
      refine AtT.kmove ?_
      first | refine AtT.kadd ?_ | refine AtT.kaddW ?_
      refine AtT.kassign ?_
      refine AtT.done ?_
      refine At.nrm ?_
      refine At.round (k + 1) ?_ ?_ ?_ ?_
      · show L.length - (k + 1) < L.length - k; omega
      · exact ⟨hVV.trans hV18, by omega⟩
      · exact ⟨rfl, rfl, ivs (by rw [flN_take hz, if_neg hm]; simp), ivs (by omega), trivial⟩
      · exact Pt.auto
  · obtain rfl : k = L.length := by omega
    rw [List.take_length]
    refine At.nrm ?_
    refine At.ktext (.q 0 (.q 1 .done)) ?_
    refine AtT.kmove ?_
    refine AtT.kassign ?_
    refine AtT.done ?_
    refine At.nrm ?_
    exact At.ret1 rfl (.tmp rfl) rfl

theorem rblame_tr (ts : List Tq) (h : trE ts ≠ 0) (c : Int) (V : View) (v : Value) (hs : Sl V tqe 4 v ts) : Fnc Tryz.prog 8 [v, iv c] V fun r _ => r = .tuple #[iv 0, iv (trE ts)] := by
  refine fn_of Tryz.func8 rfl Tryz.ntmps8 (Nat.le_of_ble_eq_true rfl) ?_
  intro w0 hw0
  refine At.nrm ?_
  refine At.ktext (.q 0 (.q 1 .done)) ?_
  refine AtT.kassign ?_
  refine AtT.kassign ?_
  refine AtT.done ?_
  refine At.nrm ?_
  refine At.ktext (.q 0 (.n false 1 (.q 2 .done))) ?_
  refine AtT.kmove ?_
  refine AtT.kcallP rfl rfl ok40 (rtrials_f ts _ _ hs) ?_
  rintro _ rfl
  refine AtT.kneI ?_
  refine AtT.setT (d := 11) rfl (h) ?_
  refine AtT.done ?_
  refine At.nrm ?_
  refine At.condT rfl rfl ?_
  refine At.nrm ?_
  refine At.ktext (.q 0 (.n false 1 (.q 2 (.q 3 .done)))) ?_
  refine AtT.kmove ?_
  refine AtT.kcallP rfl rfl ok40 (rtrials_f ts _ _ hs) ?_
  rintro _ rfl
  refine AtT.kassign ?_
  refine AtT.kassign ?_
  refine AtT.done ?_
  refine At.nrm ?_
  exact At.ret2 rfl (.tmp rfl) (.tmp rfl) rfl
theorem rblame_bad (ts : List Tq) (h : trE ts = 0) (c : Int) (hc : ¬ (0 ≤ c ∧ c ≤ 14)) (V : View) (v : Value) (hs : Sl V tqe 4 v ts) : Fnc Tryz.prog 8 [v, iv c] V fun r _ => r = .tuple #[iv 0, iv 2] := by
  refine fn_of Tryz.func8 rfl Tryz.ntmps8 (Nat.le_of_ble_eq_true rfl) ?_
  intro w0 hw0
  refine At.nrm ?_
  refine At.ktext (.q 0 (.q 1 .done)) ?_
  refine AtT.kassign ?_
  refine AtT.kassign ?_
  refine AtT.done ?_
  refine At.nrm ?_
  refine At.ktext (.q 0 (.n false 1 (.q 2 .done))) ?_
  refine AtT.kmove ?_
  refine AtT.kcallP rfl rfl ok40 (rtrials_f ts _ _ hs) ?_
  rintro _ rfl; rw [h]
  refine AtT.kneI ?_
  refine AtT.setF (d := 11) rfl ((by simp)) ?_
  refine AtT.done ?_
  refine At.nrm ?_
  refine At.condF rfl rfl ?_
  refine At.nrm ?_
  by_cases h0 : c < 0
  · refine At.ktext (.q 0 (.q 1 (.q 2 (.q 3 (.q 4 (.q 5 .done)))))) ?_
    refine AtT.kmove ?_
    refine AtT.klss ?_
    refine AtT.setT (d := 15) rfl (h0) ?_
    refine AtT.kmove ?_
    all_goals (first | refine AtT.kL 16 ?_ | refine AtT.pcase (d := 16) rfl (fun hg16 => ?_) (fun hg16 => ?_) | refine AtT.bcase (d := 16) rfl (fun hg16 => ?_) (fun hg16 => ?_))
    all_goals (first | refine AtT.kpass ?_ | refine AtT.kpassU ?_ | ((refine AtT.kmove ?_)))
    all_goals (first | refine AtT.kpass ?_ | refine AtT.kpassU ?_ | ((refine AtT.kgtr ?_)))
    all_goals (refine AtT.kpick ?_)
    all_goals refine AtT.done ?_
    all_goals (refine At.nrm ?_)
    refine At.condT rfl rfl ?_
    refine At.nrm ?_
    refine At.ktext (.q 0 (.q 1 .done)) ?_
    refine AtT.kassign ?_
    refine AtT.kassign ?_
    refine AtT.done ?_
    refine At.nrm ?_
    exact At.ret2 rfl (.tmp rfl) (.tmp rfl) rfl
  · refine At.ktext (.q 0 (.q 1 (.q 2 (.q 3 (.q 4 (.q 5 .done)))))) ?_
    refine AtT.kmove ?_
    refine AtT.klss ?_
    refine AtT.setF (d := 15) rfl (h0) ?_
    refine AtT.kmove ?_
    all_goals (first | refine AtT.kL 16 ?_ | refine AtT.pcase (d := 16) rfl (fun hg16 => ?_) (fun hg16 => ?_) | refine AtT.bcase (d := 16) rfl (fun hg16 => ?_) (fun hg16 => ?_))
    all_goals (first | refine AtT.kpass ?_ | refine AtT.kpassU ?_ | ((refine AtT.kmove ?_)))
    all_goals (first | refine AtT.kpass ?_ | refine AtT.kpassU ?_ | ((refine AtT.kgtr ?_)))
    all_goals (refine AtT.setT (d := 18) rfl ((by omega)) ?_)
    all_goals (refine AtT.kpick ?_)
    all_goals refine AtT.done ?_
    all_goals (refine At.nrm ?_)
    refine At.condT rfl rfl ?_
    refine At.nrm ?_
    refine At.ktext (.q 0 (.q 1 .done)) ?_
    refine AtT.kassign ?_
    refine AtT.kassign ?_
    refine AtT.done ?_
    refine At.nrm ?_
    exact At.ret2 rfl (.tmp rfl) (.tmp rfl) rfl
theorem rblame_no (ts : List Tq) (h : trE ts = 0) (h2 : alE ts ≠ 0) (c : Int) (hc : 0 ≤ c ∧ c ≤ 14) (V : View) (v : Value) (hs : Sl V tqe 4 v ts) : Fnc Tryz.prog 8 [v, iv c] V fun r _ => r = .tuple #[iv 0, iv (alE ts)] := by
  refine fn_of Tryz.func8 rfl Tryz.ntmps8 (Nat.le_of_ble_eq_true rfl) ?_
  intro w0 hw0
  refine At.nrm ?_
  refine At.ktext (.q 0 (.q 1 .done)) ?_
  refine AtT.kassign ?_
  refine AtT.kassign ?_
  refine AtT.done ?_
  refine At.nrm ?_
  refine At.ktext (.q 0 (.n false 1 (.q 2 .done))) ?_
  refine AtT.kmove ?_
  refine AtT.kcallP rfl rfl ok40 (rtrials_f ts _ _ hs) ?_
  rintro _ rfl; rw [h]
  refine AtT.kneI ?_
  refine AtT.setF (d := 11) rfl ((by simp)) ?_
  refine AtT.done ?_
  refine At.nrm ?_
  refine At.condF rfl rfl ?_
  refine At.nrm ?_
  refine At.ktext (.q 0 (.q 1 (.q 2 (.q 3 (.q 4 (.q 5 .done)))))) ?_
  refine AtT.kmove ?_
  refine AtT.klss ?_
  refine AtT.setF (d := 15) rfl ((by omega)) ?_
  refine AtT.kmove ?_
  all_goals (first | refine AtT.kL 16 ?_ | refine AtT.pcase (d := 16) rfl (fun hg16 => ?_) (fun hg16 => ?_) | refine AtT.bcase (d := 16) rfl (fun hg16 => ?_) (fun hg16 => ?_))
  all_goals (first | refine AtT.kpass ?_ | refine AtT.kpassU ?_ | ((refine AtT.kmove ?_)))
  all_goals (first | refine AtT.kpass ?_ | refine AtT.kpassU ?_ | ((refine AtT.kgtr ?_)))
  all_goals (refine AtT.setF (d := 18) rfl ((by omega)) ?_)
  all_goals (refine AtT.kpick ?_)
  all_goals refine AtT.done ?_
  all_goals (refine At.nrm ?_)
  refine At.condF rfl rfl ?_
  refine At.nrm ?_
  refine At.ktext (.q 0 (.n false 1 (.q 2 .done))) ?_
  refine AtT.kmove ?_
  refine AtT.kcallP rfl rfl ok41 (allErr_f ts _ _ hs) ?_
  rintro _ rfl
  refine AtT.kneI ?_
  refine AtT.setT (d := 22) rfl (h2) ?_
  refine AtT.done ?_
  refine At.nrm ?_
  refine At.condT rfl rfl ?_
  refine At.nrm ?_
  refine At.ktext (.q 0 (.n false 1 (.q 2 (.q 3 .done)))) ?_
  refine AtT.kmove ?_
  refine AtT.kcallP rfl rfl ok41 (allErr_f ts _ _ hs) ?_
  rintro _ rfl
  refine AtT.kassign ?_
  refine AtT.kassign ?_
  refine AtT.done ?_
  refine At.nrm ?_
  exact At.ret2 rfl (.tmp rfl) (.tmp rfl) rfl
theorem rblame_ok (ts : List Tq) (h2 : alE ts = 0) (cN : Nat) (hc : cN < 15) (V : View) (v : Value) (hs : Sl V tqe 4 v ts) : Fnc Tryz.prog 8 [v, iv cN] V fun r _ => ∃ L, AlS ts L ∧ r = .tuple #[iv (bmN L cN), iv 0] := by
  obtain ⟨h, _⟩ := alE_zero h2
  refine fn_of Tryz.func8 rfl Tryz.ntmps8 (Nat.le_of_ble_eq_true rfl) ?_
  intro w0 hw0
  refine At.nrm ?_
  refine At.ktext (.q 0 (.q 1 .done)) ?_
  refine AtT.kassign ?_
  refine AtT.kassign ?_
  refine AtT.done ?_
  refine At.nrm ?_
  refine At.ktext (.q 0 (.n false 1 (.q 2 .done))) ?_
  refine AtT.kmove ?_
  refine AtT.kcallP rfl rfl ok40 (rtrials_f ts _ _ hs) ?_
  rintro _ rfl; rw [h]
  refine AtT.kneI ?_
  refine AtT.setF (d := 11) rfl ((by simp)) ?_
  refine AtT.done ?_
  refine At.nrm ?_
  refine At.condF rfl rfl ?_
  refine At.nrm ?_
  refine At.ktext (.q 0 (.q 1 (.q 2 (.q 3 (.q 4 (.q 5 .done)))))) ?_
  refine AtT.kmove ?_
  refine AtT.klss ?_
  refine AtT.setF (d := 15) rfl ((by omega)) ?_
  refine AtT.kmove ?_
  all_goals (first | refine AtT.kL 16 ?_ | refine AtT.pcase (d := 16) rfl (fun hg16 => ?_) (fun hg16 => ?_) | refine AtT.bcase (d := 16) rfl (fun hg16 => ?_) (fun hg16 => ?_))
  all_goals (first | refine AtT.kpass ?_ | refine AtT.kpassU ?_ | ((refine AtT.kmove ?_)))
  all_goals (first | refine AtT.kpass ?_ | refine AtT.kpassU ?_ | ((refine AtT.kgtr ?_)))
  all_goals (refine AtT.setF (d := 18) rfl ((by omega)) ?_)
  all_goals (refine AtT.kpick ?_)
  all_goals refine AtT.done ?_
  all_goals (refine At.nrm ?_)
  refine At.condF rfl rfl ?_
  refine At.nrm ?_
  refine At.ktext (.q 0 (.n false 1 (.q 2 .done))) ?_
  refine AtT.kmove ?_
  refine AtT.kcallP rfl rfl ok41 (allErr_f ts _ _ hs) ?_
  rintro _ rfl; rw [h2]
  refine AtT.kneI ?_
  refine AtT.setF (d := 22) rfl ((by simp)) ?_
  refine AtT.done ?_
  refine At.nrm ?_
  refine At.condF rfl rfl ?_
  refine At.nrm ?_
  refine At.ktext (.q 0 (.n false 1 (.q 2 .done))) ?_
  refine AtT.kmove ?_
  refine AtT.kcall rfl rfl ok42 (allOfA ts h2 _ _ hs) ?_
  rintro v26 V26 hV26 ⟨L, hL, hal⟩; obtain ⟨a, c, rfl, _⟩ := id hL
  refine AtT.kassign ?_
  refine AtT.done ?_
  refine At.nrm ?_
  have hlt := als_lt hal
  have hlen := als_len hal
  have hne := als_ne h2 hal
  have hpos : 0 < L.length := List.length_pos_iff.2 hne
  have hil := ic_len L
  refine At.ktext (.q 0 .done) ?_
  refine AtT.kassign ?_
  refine AtT.done ?_
  refine At.nrm ?_
  refine At.ktext (.q 0 .done) ?_
  refine AtT.kassign ?_
  refine AtT.done ?_
  refine At.nrm ?_
  refine At.lp (ι := Nat) (KS := fun k => [(1, iv cN), (6, .slice a (ic L).length c), (7, iv (tN (L.take k) cN)), (8, iv k)]) (OS := fun _ => [])
    (VS := fun k V' => V' = V26 ∧ k ≤ L.length) (μ := fun k => L.length - k) 0 ?_ ?_ ?_ ?_
  · exact ⟨rfl, rfl, rfl, rfl, trivial⟩
  · exact Pt.auto
  · exact ⟨rfl, Nat.zero_le _⟩
  rintro k V' ks' O' ⟨rfl, hkl⟩ hk hO hl2
  subst hk hO
  refine At.nrm ?_
  refine At.ktext (.q 0 (.q 1 (.q 2 (.q 3 .done)))) ?_
  refine AtT.kmove ?_
  refine AtT.kmove ?_
  first | refine AtT.klenS Tryz.underlying38 ?_ | refine AtT.klenR Tryz.underlying38 ?_
  refine AtT.klss ?_
  refine AtT.done ?_
  refine At.nrm ?_
  refine At.condP rfl (fun hp' => ?_) (fun hp' => ?_)
  · have hk1 : k < L.length := by omega
    obtain ⟨z, hz⟩ : ∃ l, L[k]? = some l := ⟨_, List.getElem?_eq_getElem (by omega)⟩
    have hzl := hlt z (List.mem_of_getElem? hz)
    have ht1 := tN_le (L.take k) cN
    have htk : (L.take k).length ≤ 32768 := by rw [List.length_take]; omega
    have hbv := bit_val z cN
    have hbt : z >>> cN &&& 1 ≤ 1 := Nat.and_le_right
    have hn1 : ((tN (L.take k) cN : Nat) : Int) + ((z >>> cN &&& 1 : Nat) : Int) = ((tN (L.take (k + 1)) cN : Nat) : Int) := by
      rw [hbv, tN_take hz]; split <;> simp
    have hshr : z >>> cN < 32768 := Nat.lt_of_le_of_lt (Nat.shiftRight_le _ _) hzl
    refine At.nrm ?_
    refine At.ktext (.q 0 (.q 1 (.q 2 (.q 3 (.q 4 (.q 5 (.q 6 (.q 7 (.q 8 (.q 9 .done)))))))))) ?_
    refine AtT.kmove ?_
    refine AtT.kmove ?_
    refine AtT.kmove ?_
    refine AtT.kidx Tryz.underlying38 tk3 ?_
    intro p36 e36 he36 hc36
    obtain rfl : e36 = (z : Int) := by have : (ic L)[k]? = some e36 := (by simpa using he36); rw [ic_at hz] at this; simpa using this.symm
    first | refine AtT.kloadO tk3 ?_ | refine AtT.kload tk3 ?_
    refine AtT.kmove ?_
    refine AtT.shrN rfl trivial rfl rfl rfl rfl (by omega) (by decide) (A := z) (N := cN) ?_
    refine AtT.andN rfl trivial rfl rfl rfl rfl (by omega) (by decide) (by decide) (A := z >>> cN) (B := 1) ?_
    first | refine AtT.kadd ?_ | refine AtT.kaddW ?_
    rw [hn1]
    refine AtT.kassign ?_
    refine AtT.done ?_
    refine At.nrm ?_
    refine At.ktext (.q 0 (.q 1 (.q 2 .done))) ?_
    refine AtT.kmove ?_
    first | refine AtT.kadd ?_ | refine AtT.kaddW ?_
    refine AtT.kassign ?_
    refine AtT.done ?_
    refine At.nrm ?_
    refine At.round (k + 1) ?_ ?_ ?_ ?_
    · show L.length - (k + 1) < L.length - k; omega
    · exact ⟨rfl, by omega⟩
    · exact ⟨rfl, rfl, rfl, ivs (by omega), trivial⟩
    · exact Pt.auto
  · obtain rfl : k = L.length := by omega
    rw [List.take_length]
    refine At.nrm ?_
    by_cases c1 : tN L cN = L.length
    · refine At.ktext (.q 0 (.q 1 (.q 2 (.q 3 .done)))) ?_
      refine AtT.kmove ?_
      refine AtT.kmove ?_
      first | refine AtT.klenS Tryz.underlying38 ?_ | refine AtT.klenR Tryz.underlying38 ?_
      refine AtT.keqI ?_
      refine AtT.setT (d := 45) rfl ((by omega)) ?_
      refine AtT.done ?_
      refine At.nrm ?_
      refine At.condT rfl rfl ?_
      refine At.nrm ?_
      refine At.ktext (.q 0 (.q 1 .done)) ?_
      refine AtT.kassign ?_
      refine AtT.kassign ?_
      refine AtT.done ?_
      refine At.nrm ?_
      exact At.ret2 rfl (.tmp rfl) (.tmp rfl) ⟨L, hal, by unfold bmN; rw [if_neg (by omega), if_pos c1]⟩
    · refine At.ktext (.q 0 (.q 1 (.q 2 (.q 3 .done)))) ?_
      refine AtT.kmove ?_
      refine AtT.kmove ?_
      first | refine AtT.klenS Tryz.underlying38 ?_ | refine AtT.klenR Tryz.underlying38 ?_
      refine AtT.keqI ?_
      refine AtT.setF (d := 45) rfl ((by omega)) ?_
      refine AtT.done ?_
      refine At.nrm ?_
      refine At.condF rfl rfl ?_
      refine At.nrm ?_
      by_cases c0 : tN L cN = 0
      · refine At.ktext (.q 0 (.q 1 .done)) ?_
        refine AtT.kmove ?_
        refine AtT.keqI ?_
        refine AtT.setT (d := 47) rfl ((by omega)) ?_
        refine AtT.done ?_
        refine At.nrm ?_
        refine At.condT rfl rfl ?_
        refine At.nrm ?_
        refine At.ktext (.q 0 (.q 1 .done)) ?_
        refine AtT.kassign ?_
        refine AtT.kassign ?_
        refine AtT.done ?_
        refine At.nrm ?_
        exact At.ret2 rfl (.tmp rfl) (.tmp rfl) ⟨L, hal, by unfold bmN; rw [if_pos c0]⟩
      · refine At.ktext (.q 0 (.q 1 .done)) ?_
        refine AtT.kmove ?_
        refine AtT.keqI ?_
        refine AtT.setF (d := 47) rfl ((by omega)) ?_
        refine AtT.done ?_
        refine At.nrm ?_
        refine At.condF rfl rfl ?_
        refine At.nrm ?_
        refine At.ktext (.q 0 (.q 1 .done)) ?_
        refine AtT.kassign ?_
        refine AtT.kassign ?_
        refine AtT.done ?_
        refine At.nrm ?_
        exact At.ret2 rfl (.tmp rfl) (.tmp rfl) ⟨L, hal, by unfold bmN; rw [if_neg c0, if_neg c1]⟩

theorem rfails_tr (ts : List Tq) (h : trE ts ≠ 0) (p : Pq) (V : View) (v : Value) (hs : Sl V tqe 4 v ts) : Fnc Tryz.prog 10 [v, pqv p] V fun r _ => r = .tuple #[iv 0, iv (trE ts)] := by
  refine fn_of Tryz.func10 rfl Tryz.ntmps10 (Nat.le_of_ble_eq_true rfl) ?_
  intro w0 hw0
  refine At.nrm ?_
  refine At.ktext (.n false 0 (.q 1 (.q 2 .done))) ?_
  refine AtT.kbox ?_
  intro b3
  refine AtT.kassign ?_
  refine AtT.kassign ?_
  refine AtT.done ?_
  refine At.nrm ?_
  refine At.ktext (.q 0 (.n false 1 (.q 2 .done))) ?_
  refine AtT.kmove ?_
  refine AtT.kcallP rfl rfl ok40 (rtrials_f ts _ _ hs) ?_
  rintro _ rfl
  refine AtT.kneI ?_
  refine AtT.setT (d := 8) rfl (h) ?_
  refine AtT.done ?_
  refine At.nrm ?_
  refine At.condT rfl rfl ?_
  refine At.nrm ?_
  refine At.ktext (.q 0 (.n false 1 (.q 2 (.q 3 .done)))) ?_
  refine AtT.kmove ?_
  refine AtT.kcallP rfl rfl ok40 (rtrials_f ts _ _ hs) ?_
  rintro _ rfl
  refine AtT.kassign ?_
  refine AtT.kassign ?_
  refine AtT.done ?_
  refine At.nrm ?_
  exact At.ret2 rfl (.tmp rfl) (.tmp rfl) rfl
theorem rfails_bad (ts : List Tq) (h : trE ts = 0) (p : Pq) (hp : sndB p = false) (V : View) (v : Value) (hs : Sl V tqe 4 v ts) : Fnc Tryz.prog 10 [v, pqv p] V fun r _ => r = .tuple #[iv 0, iv 3] := by
  refine fn_of Tryz.func10 rfl Tryz.ntmps10 (Nat.le_of_ble_eq_true rfl) ?_
  intro w0 hw0
  refine At.nrm ?_
  refine At.ktext (.n false 0 (.q 1 (.q 2 .done))) ?_
  refine AtT.kbox ?_
  intro b3
  refine AtT.kassign ?_
  refine AtT.kassign ?_
  refine AtT.done ?_
  refine At.nrm ?_
  refine At.ktext (.q 0 (.n false 1 (.q 2 .done))) ?_
  refine AtT.kmove ?_
  refine AtT.kcallP rfl rfl ok40 (rtrials_f ts _ _ hs) ?_
  rintro _ rfl; rw [h]
  refine AtT.kneI ?_
  refine AtT.setF (d := 8) rfl ((by simp)) ?_
  refine AtT.done ?_
  refine At.nrm ?_
  refine At.condF rfl rfl ?_
  refine At.nrm ?_
  refine At.ktext (.q 0 (.n false 1 (.q 2 .done))) ?_
  first | refine AtT.kloadOA tk24 ?_ | refine AtT.kloadA tk24 ?_ | refine AtT.kloadOP tk24 ?_
  refine AtT.kcallP rfl rfl ok45 (isPanel_f p _) ?_
  rintro _ rfl; rw [hp]
  refine AtT.knot ?_
  refine AtT.setB (d := 13) rfl ((show (!false) = true from rfl)) ?_
  refine AtT.done ?_
  refine At.nrm ?_
  refine At.condT rfl rfl ?_
  refine At.nrm ?_
  refine At.ktext (.q 0 (.q 1 .done)) ?_
  refine AtT.kassign ?_
  refine AtT.kassign ?_
  refine AtT.done ?_
  refine At.nrm ?_
  exact At.ret2 rfl (.tmp rfl) (.tmp rfl) rfl
theorem rfails_no (ts : List Tq) (h : trE ts = 0) (h2 : alE ts ≠ 0) (p : Pq) (hp : sndB p = true) (V : View) (v : Value) (hs : Sl V tqe 4 v ts) : Fnc Tryz.prog 10 [v, pqv p] V fun r _ => r = .tuple #[iv 0, iv (alE ts)] := by
  refine fn_of Tryz.func10 rfl Tryz.ntmps10 (Nat.le_of_ble_eq_true rfl) ?_
  intro w0 hw0
  refine At.nrm ?_
  refine At.ktext (.n false 0 (.q 1 (.q 2 .done))) ?_
  refine AtT.kbox ?_
  intro b3
  refine AtT.kassign ?_
  refine AtT.kassign ?_
  refine AtT.done ?_
  refine At.nrm ?_
  refine At.ktext (.q 0 (.n false 1 (.q 2 .done))) ?_
  refine AtT.kmove ?_
  refine AtT.kcallP rfl rfl ok40 (rtrials_f ts _ _ hs) ?_
  rintro _ rfl; rw [h]
  refine AtT.kneI ?_
  refine AtT.setF (d := 8) rfl ((by simp)) ?_
  refine AtT.done ?_
  refine At.nrm ?_
  refine At.condF rfl rfl ?_
  refine At.nrm ?_
  refine At.ktext (.q 0 (.n false 1 (.q 2 .done))) ?_
  first | refine AtT.kloadOA tk24 ?_ | refine AtT.kloadA tk24 ?_ | refine AtT.kloadOP tk24 ?_
  refine AtT.kcallP rfl rfl ok45 (isPanel_f p _) ?_
  rintro _ rfl; rw [hp]
  refine AtT.knot ?_
  refine AtT.setB (d := 13) rfl ((show (!true) = false from rfl)) ?_
  refine AtT.done ?_
  refine At.nrm ?_
  refine At.condF rfl rfl ?_
  refine At.nrm ?_
  refine At.ktext (.q 0 (.n false 1 (.q 2 .done))) ?_
  refine AtT.kmove ?_
  refine AtT.kcallP rfl rfl ok41 (allErr_f ts _ _ hs) ?_
  rintro _ rfl
  refine AtT.kneI ?_
  refine AtT.setT (d := 16) rfl (h2) ?_
  refine AtT.done ?_
  refine At.nrm ?_
  refine At.condT rfl rfl ?_
  refine At.nrm ?_
  refine At.ktext (.q 0 (.n false 1 (.q 2 (.q 3 .done)))) ?_
  refine AtT.kmove ?_
  refine AtT.kcallP rfl rfl ok41 (allErr_f ts _ _ hs) ?_
  rintro _ rfl
  refine AtT.kassign ?_
  refine AtT.kassign ?_
  refine AtT.done ?_
  refine At.nrm ?_
  exact At.ret2 rfl (.tmp rfl) (.tmp rfl) rfl
theorem rfails_ok (ts : List Tq) (h2 : alE ts = 0) (p : Pq) (hp : sndB p = true) (V : View) (v : Value) (hs : Sl V tqe 4 v ts) : Fnc Tryz.prog 10 [v, pqv p] V fun r _ => ∃ L, AlS ts L ∧ r = .tuple #[iv (flN L p), iv 0] := by
  obtain ⟨h, _⟩ := alE_zero h2
  refine fn_of Tryz.func10 rfl Tryz.ntmps10 (Nat.le_of_ble_eq_true rfl) ?_
  intro w0 hw0
  refine At.nrm ?_
  refine At.ktext (.n false 0 (.q 1 (.q 2 .done))) ?_
  refine AtT.kbox ?_
  intro b3
  refine AtT.kassign ?_
  refine AtT.kassign ?_
  refine AtT.done ?_
  refine At.nrm ?_
  refine At.ktext (.q 0 (.n false 1 (.q 2 .done))) ?_
  refine AtT.kmove ?_
  refine AtT.kcallP rfl rfl ok40 (rtrials_f ts _ _ hs) ?_
  rintro _ rfl; rw [h]
  refine AtT.kneI ?_
  refine AtT.setF (d := 8) rfl ((by simp)) ?_
  refine AtT.done ?_
  refine At.nrm ?_
  refine At.condF rfl rfl ?_
  refine At.nrm ?_
  refine At.ktext (.q 0 (.n false 1 (.q 2 .done))) ?_
  first | refine AtT.kloadOA tk24 ?_ | refine AtT.kloadA tk24 ?_ | refine AtT.kloadOP tk24 ?_
  refine AtT.kcallP rfl rfl ok45 (isPanel_f p _) ?_
  rintro _ rfl; rw [hp]
  refine AtT.knot ?_
  refine AtT.setB (d := 13) rfl ((show (!true) = false from rfl)) ?_
  refine AtT.done ?_
  refine At.nrm ?_
  refine At.condF rfl rfl ?_
  refine At.nrm ?_
  refine At.ktext (.q 0 (.n false 1 (.q 2 .done))) ?_
  refine AtT.kmove ?_
  refine AtT.kcallP rfl rfl ok41 (allErr_f ts _ _ hs) ?_
  rintro _ rfl; rw [h2]
  refine AtT.kneI ?_
  refine AtT.setF (d := 16) rfl ((by simp)) ?_
  refine AtT.done ?_
  refine At.nrm ?_
  refine At.condF rfl rfl ?_
  refine At.nrm ?_
  refine At.draw (.q 0 (.q 2 (.n false 1 (.n false 3 (.q 4 (.q 5 .done)))))) ffm (by kernel_rfl) ?_
  refine AtT.kmove ?_
  first | refine AtT.kloadOA tk24 ?_ | refine AtT.kloadA tk24 ?_ | refine AtT.kloadOP tk24 ?_
  refine AtT.kcall rfl rfl ok42 (allOfA ts h2 _ _ hs) ?_
  rintro v20 V20 hV20 ⟨L, hL, hal⟩
  refine AtT.kcallP rfl rfl ok46 (by_f L (als_lt hal) (als_len hal) p hp _ _ hL) ?_
  rintro _ rfl
  refine AtT.kassign ?_
  refine AtT.kassign ?_
  refine AtT.done ?_
  refine At.nrm ?_
  all_goals (exact At.ret2 rfl (.tmp rfl) (.tmp rfl) ⟨L, hal, rfl⟩)
end Go.Proofs.YtfcpmblmklibjaaGreat
set_option linter.unusedVariables false
namespace Go.Bl
open Go.Gl Go.Lw
/-- The best panel of the first ones, and how much it tells, as the definitions say. -/
def rbP (L : List Nat) : Nat → Pq × Int
  | 0 => (⟨0, 0, 0⟩, 0)
  | k + 1 => if (rbP L k).2 < tel L (pnK k) then (pnK k, tel L (pnK k)) else rbP L k
theorem rbP_inv (L : List Nat) : ∀ k, k ≤ 125 → ((rbP L k).2 = 0 ∧ (rbP L k).1 = ⟨0, 0, 0⟩ ∧ ∀ j, j < k → tel L (pnK j) ≤ 0) ∨
    ∃ i, i < k ∧ rbP L k = (pnK i, tel L (pnK i)) ∧ 0 < tel L (pnK i) ∧ (∀ j, j < k → tel L (pnK j) ≤ tel L (pnK i)) ∧ ∀ j, j < i → tel L (pnK j) < tel L (pnK i)
  | 0, _ => .inl ⟨rfl, rfl, fun j hj => absurd hj (Nat.not_lt_zero j)⟩
  | k + 1, hk => by
    simp only [rbP]
    rcases rbP_inv L k (by omega) with ⟨h1, h2, h3⟩ | ⟨i, h1, h2, h3, h4, h5⟩
    · split
      · rename_i c
        rw [h1] at c
        refine .inr ⟨k, by omega, rfl, c, fun j hj => ?_, fun j hj => by have := h3 j hj; omega⟩
        by_cases e : j = k
        · subst e; exact Int.le_refl _
        · have := h3 j (by omega); omega
      · rename_i c
        rw [h1] at c
        refine .inl ⟨h1, h2, fun j hj => ?_⟩
        by_cases e : j = k
        · subst e; omega
        · exact h3 j (by omega)
    · rw [h2]
      dsimp only
      split
      · rename_i c
        refine .inr ⟨k, by omega, rfl, by omega, fun j hj => ?_, fun j hj => by have := h4 j hj; omega⟩
        by_cases e : j = k
        · subst e; exact Int.le_refl _
        · have := h4 j (by omega); omega
      · rename_i c
        refine .inr ⟨i, by omega, rfl, h3, fun j hj => ?_, h5⟩
        by_cases e : j = k
        · subst e; omega
        · exact h4 j (by omega)
theorem rbP_nn (L : List Nat) (k : Nat) (hk : k ≤ 125) : 0 ≤ (rbP L k).2 := by
  rcases rbP_inv L k hk with ⟨h1, _⟩ | ⟨i, _, h2, h3, _⟩
  · omega
  · rw [h2]; dsimp only; omega
theorem pnK_code (k : Nat) : 25 * (pnK k).m + 5 * (pnK k).o + (pnK k).h = (k : Int) := by unfold pnK; dsimp only; omega
theorem pnK_inj {i j : Nat} (h : 25 * (pnK i).m + 5 * (pnK i).o + (pnK i).h ≤ 25 * (pnK j).m + 5 * (pnK j).o + (pnK j).h) : i ≤ j := by rw [pnK_code, pnK_code] at h; omega
theorem tel_nn (L : List Nat) (p : Pq) : 0 ≤ tel L p := by
  have := flN_le L p
  unfold tel; omega
/-- It is the one that tells most. -/
theorem rbP_most (L : List Nat) : (tel L (mostP L) = 0 ∧ rbP L 125 = (⟨0, 0, 0⟩, 0)) ∨ (tel L (mostP L) ≠ 0 ∧ rbP L 125 = (mostP L, tel L (mostP L))) := by
  obtain ⟨m, hm, hme⟩ : ∃ m, m < 125 ∧ mostP L = pnK m := by
    obtain ⟨m, h1, h2, _⟩ := pnK_of (panL_snd _ (mostP_mem L))
    exact ⟨m, h1, h2⟩
  have hb : ∀ j, j < 125 → tel L (pnK j) ≤ tel L (mostP L) := fun j hj => (most_best L (pnK_snd hj)).1
  have hn := tel_nn L (mostP L)
  rcases rbP_inv L 125 (Nat.le_refl _) with ⟨h1, h2, h3⟩ | ⟨i, h1, h2, h3, h4, h5⟩
  · have := h3 m hm
    rw [← hme] at this
    exact .inl ⟨by omega, Prod.ext h2 h1⟩
  · have h6 := hb i h1
    have h7 := h4 m hm
    rw [← hme] at h7
    have he : tel L (pnK i) = tel L (mostP L) := by omega
    have hle := (most_best L (pnK_snd h1)).2 he
    rw [hme] at hle
    have hmi := pnK_inj hle
    have him : ¬ m < i := fun hc => by have := h5 m hc; rw [← hme] at this; omega
    obtain rfl : m = i := by omega
    exact .inr ⟨by omega, by rw [h2, hme]⟩
end Go.Bl
namespace Go.Proofs.YtfcpmblmklibjaaGreat
open Go.Lw Go.Gl Go.Bl Go.RowKit

theorem rnext_bad (ts : List Tq) (h : alE ts ≠ 0) (V : View) (v : Value) (hs : Sl V tqe 4 v ts) : Fnc Tryz.prog 12 [v] V fun r _ => r = .tuple #[pqv ⟨0, 0, 0⟩, iv 0, iv (alE ts)] := by
  refine fn_of Tryz.func12 rfl Tryz.ntmps12 (Nat.le_of_ble_eq_true rfl) ?_
  intro w0 hw0
  refine At.nrm ?_
  refine At.ktext (.n false 0 (.q 1 (.q 2 .done))) ?_
  refine AtT.kalloc z24 ?_
  intro b2
  refine AtT.kassign ?_
  refine AtT.kassign ?_
  refine AtT.done ?_
  refine At.nrm ?_
  refine At.ktext (.q 0 (.n false 1 (.q 2 .done))) ?_
  refine AtT.kmove ?_
  refine AtT.kcallP rfl rfl ok41 (allErr_f ts _ _ hs) ?_
  rintro _ rfl
  refine AtT.kneI ?_
  refine AtT.setT (d := 13) rfl (h) ?_
  refine AtT.done ?_
  refine At.nrm ?_
  refine At.condT rfl rfl ?_
  refine At.nrm ?_
  refine At.ktext (.q 0 (.q 1 (.n false 2 (.n true 3 (.q 4 (.q 5 .done)))))) ?_
  refine AtT.kbuild (bd24) ?_
  refine AtT.kmove ?_
  refine AtT.kcallP rfl rfl ok41 (allErr_f ts _ _ hs) ?_
  rintro _ rfl
  refine AtT.kstoreA tk24 ?_
  refine AtT.kassign ?_
  refine AtT.kassign ?_
  refine AtT.done ?_
  refine At.nrm ?_
  exact At.ret3 rfl (.agg rfl tk24 Pick.auto rfl) (.tmp rfl) (.tmp rfl) rfl
theorem rnext_ok (ts : List Tq) (h : alE ts = 0) (V : View) (v : Value) (hs : Sl V tqe 4 v ts) : Fnc Tryz.prog 12 [v] V fun r _ => ∃ L, AlS ts L ∧ r = .tuple #[pqv (nxR L).1, iv (nxR L).2.1, iv (nxR L).2.2] := by
  refine fn_of Tryz.func12 rfl Tryz.ntmps12 (Nat.le_of_ble_eq_true rfl) ?_
  intro w0 hw0
  refine At.nrm ?_
  refine At.ktext (.n false 0 (.q 1 (.q 2 .done))) ?_
  refine AtT.kalloc z24 ?_
  intro b2
  refine AtT.kassign ?_
  refine AtT.kassign ?_
  refine AtT.done ?_
  refine At.nrm ?_
  refine At.ktext (.q 0 (.n false 1 (.q 2 .done))) ?_
  refine AtT.kmove ?_
  refine AtT.kcallP rfl rfl ok41 (allErr_f ts _ _ hs) ?_
  rintro _ rfl; rw [h]
  refine AtT.kneI ?_
  refine AtT.setF (d := 13) rfl ((by simp)) ?_
  refine AtT.done ?_
  refine At.nrm ?_
  refine At.condF rfl rfl ?_
  refine At.nrm ?_
  refine At.ktext (.q 0 (.n false 1 (.q 2 .done))) ?_
  refine AtT.kmove ?_
  refine AtT.kcall rfl rfl ok42 (allOfA ts h _ _ hs) ?_
  rintro v18 V18 hV18 ⟨L, hL, hal⟩; obtain ⟨a, c, rfl, _⟩ := id hL
  refine AtT.kassign ?_
  refine AtT.done ?_
  refine At.nrm ?_
  have hlt := als_lt hal
  have hlen := als_len hal
  have hil := ic_len L
  refine At.ktext (.q 0 (.n false 1 (.n true 2 (.q 3 .done)))) ?_
  refine AtT.kbuild (bd24) ?_
  refine AtT.kalloc z24 ?_
  intro b6
  refine AtT.kstoreA tk24 ?_
  refine AtT.kassign ?_
  refine AtT.done ?_
  refine At.nrm ?_
  refine At.ktext (.q 0 .done) ?_
  refine AtT.kassign ?_
  refine AtT.done ?_
  refine At.nrm ?_
  refine At.lp (ι := Nat) (KS := fun k => [(2, .pointer (some ⟨b2, 0, none⟩)), (5, .slice a (ic L).length c), (6, .pointer (some ⟨b6, 0, none⟩)), (7, iv (rbP L k).2), (8, iv k)])
    (OS := fun k => [.blk b2 (LC (pqe ⟨0, 0, 0⟩) 24), .blk b6 (LC (pqe (rbP L k).1) 24)]) (VS := fun k V' => V' = V18 ∧ k ≤ 125) (μ := fun k => 125 - k) 0 ?_ ?_ ?_ ?_
  · exact ⟨rfl, rfl, rfl, rfl, rfl, trivial⟩
  · exact Pt.auto
  · exact ⟨rfl, Nat.zero_le _⟩
  rintro k V' ks' O' ⟨rfl, hkl⟩ hk hO hl2
  subst hk hO
  have hnn := rbP_nn L k hkl
  refine At.nrm ?_
  refine At.ktext (.q 0 (.q 1 .done)) ?_
  refine AtT.kmove ?_
  refine AtT.klss ?_
  refine AtT.done ?_
  refine At.nrm ?_
  refine At.condP rfl (fun hp => ?_) (fun hp => ?_)
  · have hk : k < 125 := by omega
    have q0 : (k : Int).tdiv 25 = ((k / 25 : Nat) : Int) := rfl
    have q1 : (k : Int).tdiv 5 = ((k / 5 : Nat) : Int) := rfl
    have q3 : ((k / 5 : Nat) : Int).tmod 5 = ((k / 5 % 5 : Nat) : Int) := rfl
    have q4 : (k : Int).tmod 5 = ((k % 5 : Nat) : Int) := rfl
    have hps := pnK_snd hk
    have hfl := flN_le L (pnK k)
    have htel : min (flN L (pnK k) : Int) (((ic L).length : Int) - (flN L (pnK k) : Int)) = tel L (pnK k) := by unfold tel; rw [hil]
    have hsuc : rbP L (k + 1) = if (rbP L k).2 < tel L (pnK k) then (pnK k, tel L (pnK k)) else rbP L k := rfl
    refine At.nrm ?_
    refine At.ktext (.q 0 (.q 1 (.q 2 (.q 3 (.q 4 (.q 5 (.q 6 (.q 7 (.n false 8 (.n true 9 .done)))))))))) ?_
    refine AtT.kmove ?_
    refine AtT.kquo ?_
    rw [q0]
    refine AtT.kmove ?_
    refine AtT.kquo ?_
    rw [q1]
    refine AtT.krem ?_
    rw [q3]
    refine AtT.kmove ?_
    refine AtT.krem ?_
    rw [q4]
    refine AtT.kbuild (bd24_0_1_2 _ _ _) ?_
    refine AtT.kalloc z24 ?_
    intro b9
    refine AtT.kstoreA tk24 ?_
    refine AtT.done ?_
    refine At.nrm ?_
    refine At.ktext (.q 0 (.q 1 (.n false 2 (.q 3 .done)))) ?_
    refine AtT.kmove ?_
    first | refine AtT.kloadOA tk24 ?_ | refine AtT.kloadA tk24 ?_ | refine AtT.kloadOP tk24 ?_
    refine AtT.kcallP rfl rfl ok46 (by_f L hlt hlen (pnK k) hps _ _ hL) ?_
    rintro _ rfl
    refine AtT.kassign ?_
    refine AtT.done ?_
    refine At.nrm ?_
    by_cases hc : (rbP L k).2 < tel L (pnK k)
    · rw [if_pos hc] at hsuc
      refine At.ktext (.q 0 (.q 1 (.q 2 (.q 3 (.q 4 (.q 5 (.q 6 (.q 7 .done)))))))) ?_
      refine AtT.kmove ?_
      refine AtT.kmove ?_
      first | refine AtT.klenS Tryz.underlying38 ?_ | refine AtT.klenR Tryz.underlying38 ?_
      refine AtT.kmove ?_
      first | refine AtT.ksubt ?_ | refine AtT.ksubW ?_
      refine AtT.kmin2 ?_
      rw [htel]
      refine AtT.kmove ?_
      refine AtT.kgtr ?_
      refine AtT.setT (d := 42) rfl (hc) ?_
      refine AtT.done ?_
      refine At.nrm ?_
      refine At.condT rfl rfl ?_
      refine At.nrm ?_
      refine At.ktext (.q 0 (.q 1 (.q 2 (.q 3 (.q 4 (.q 5 (.q 6 (.n true 7 (.q 8 .done))))))))) ?_
      first | refine AtT.kloadOA tk24 ?_ | refine AtT.kloadA tk24 ?_ | refine AtT.kloadOP tk24 ?_
      refine AtT.kmove ?_
      refine AtT.kmove ?_
      first | refine AtT.klenS Tryz.underlying38 ?_ | refine AtT.klenR Tryz.underlying38 ?_
      refine AtT.kmove ?_
      first | refine AtT.ksubt ?_ | refine AtT.ksubW ?_
      refine AtT.kmin2 ?_
      rw [htel]
      refine AtT.kstoreA tk24 ?_
      refine AtT.kassign ?_
      refine AtT.done ?_
      refine At.nrm ?_
      all_goals
        refine At.ktext (.q 0 (.q 1 (.q 2 .done))) ?_
        refine AtT.kmove ?_
        first | refine AtT.kadd ?_ | refine AtT.kaddW ?_
        refine AtT.kassign ?_
        refine AtT.done ?_
        refine At.nrm ?_
        refine At.round (k + 1) ?_ ?_ ?_ ?_
        · show 125 - (k + 1) < 125 - k; omega
        · exact ⟨rfl, by omega⟩
        · rw [hsuc]; exact ⟨rfl, rfl, rfl, rfl, ivs (by omega), trivial⟩
        · rw [hsuc]; exact Pt.auto
    · rw [if_neg hc] at hsuc
      refine At.ktext (.q 0 (.q 1 (.q 2 (.q 3 (.q 4 (.q 5 (.q 6 (.q 7 .done)))))))) ?_
      refine AtT.kmove ?_
      refine AtT.kmove ?_
      first | refine AtT.klenS Tryz.underlying38 ?_ | refine AtT.klenR Tryz.underlying38 ?_
      refine AtT.kmove ?_
      first | refine AtT.ksubt ?_ | refine AtT.ksubW ?_
      refine AtT.kmin2 ?_
      rw [htel]
      refine AtT.kmove ?_
      refine AtT.kgtr ?_
      refine AtT.setF (d := 42) rfl (hc) ?_
      refine AtT.done ?_
      refine At.nrm ?_
      refine At.condF rfl rfl ?_
      refine At.nrm ?_
      refine At.ktext (.q 0 (.q 1 (.q 2 .done))) ?_
      refine AtT.kmove ?_
      first | refine AtT.kadd ?_ | refine AtT.kaddW ?_
      refine AtT.kassign ?_
      refine AtT.done ?_
      refine At.nrm ?_
      refine At.round (k + 1) ?_ ?_ ?_ ?_
      · show 125 - (k + 1) < 125 - k; omega
      · exact ⟨rfl, by omega⟩
      · rw [hsuc]; exact ⟨rfl, rfl, rfl, rfl, ivs (by omega), trivial⟩
      · rw [hsuc]; exact Pt.auto
  · obtain rfl : k = 125 := by omega
    refine At.nrm ?_
    rcases rbP_most L with ⟨hz, hr⟩ | ⟨hz, hr⟩
    · have hn : nxR L = (⟨0, 0, 0⟩, 0, 5) := by unfold nxR; rw [if_pos hz]
      refine At.ktext (.q 0 (.q 1 .done)) ?_
      refine AtT.kmove ?_
      refine AtT.keqI ?_
      refine AtT.setT (d := 51) rfl ((by rw [hr])) ?_
      refine AtT.done ?_
      refine At.nrm ?_
      refine At.condT rfl rfl ?_
      refine At.nrm ?_
      refine At.ktext (.q 0 (.n true 1 (.q 2 (.q 3 .done)))) ?_
      refine AtT.kbuild (bd24) ?_
      refine AtT.kstoreA tk24 ?_
      refine AtT.kassign ?_
      refine AtT.kassign ?_
      refine AtT.done ?_
      refine At.nrm ?_
      exact At.ret3 rfl (.agg rfl tk24 Pick.auto rfl) (.tmp rfl) (.tmp rfl) ⟨L, hal, by rw [hn]⟩
    · have hn : nxR L = (mostP L, tel L (mostP L), 0) := by unfold nxR; rw [if_neg hz]
      refine At.ktext (.q 0 (.q 1 .done)) ?_
      refine AtT.kmove ?_
      refine AtT.keqI ?_
      refine AtT.setF (d := 51) rfl ((by rw [hr]; exact hz)) ?_
      refine AtT.done ?_
      refine At.nrm ?_
      refine At.condF rfl rfl ?_
      refine At.nrm ?_
      refine At.ktext (.q 0 (.q 1 (.n true 2 (.q 3 (.q 4 .done))))) ?_
      first | refine AtT.kloadOA tk24 ?_ | refine AtT.kloadA tk24 ?_ | refine AtT.kloadOP tk24 ?_
      refine AtT.kmove ?_
      refine AtT.kstoreA tk24 ?_
      refine AtT.kassign ?_
      refine AtT.kassign ?_
      refine AtT.done ?_
      refine At.nrm ?_
      exact At.ret3 rfl (.agg rfl tk24 Pick.auto rfl) (.tmp rfl) (.tmp rfl) ⟨L, hal, by rw [hn, hr]⟩
end Go.Proofs.YtfcpmblmklibjaaGreat
set_option linter.unusedVariables false
namespace Go.Bl
open Go.Gl Go.Lw
/-- A set is put into its place. -/
theorem lex_put {a : Nat} : ∀ {L : List Nat}, L.Pairwise LexB → a ∉ L → ∃ M : List Nat, M.Pairwise LexB ∧ M.Perm (a :: L)
  | [], _, _ => ⟨[a], List.pairwise_singleton _ _, List.Perm.refl _⟩
  | b :: L, h, hn => by
    have h' := List.pairwise_cons.1 h
    have hab : a ≠ b := fun e => hn (by rw [e]; exact List.mem_cons_self)
    rcases lex_tot hab with hl | hl
    · exact ⟨a :: b :: L, List.pairwise_cons.2 ⟨fun x hx => by
        rcases List.mem_cons.1 hx with rfl | hx
        · exact hl
        · exact lex_trans hl (h'.1 x hx), h⟩, List.Perm.refl _⟩
    · obtain ⟨M, m1, m2⟩ := lex_put h'.2 (fun hc => hn (List.mem_cons_of_mem _ hc))
      refine ⟨b :: M, List.pairwise_cons.2 ⟨fun x hx => ?_, m1⟩, (m2.cons b).trans (List.Perm.swap a b L)⟩
      rcases List.mem_cons.1 (m2.mem_iff.1 hx) with rfl | hx
      · exact hl
      · exact h'.1 x hx
end Go.Bl
namespace Go.Proofs.YtfcpmblmklibjaaGreat
open Go.Lw Go.Gl Go.Bl Go.RowKit

/-- There always is a list of the smallest explanations. -/
theorem als_ex (ts : List Tq) (h : alE ts = 0) : ∃ L, AlS ts L := by
  have hE : ∀ x, Ex (clA ts) (lsL ts) x → x < 32768 := fun x hx => hx.1
  let P : Nat → Prop := fun x => Ex (clA ts) (lsL ts) x ∧ ∀ y, Ex (clA ts) (lsL ts) y → cnt x ≤ cnt y
  have key : ∀ n, ∃ L : List Nat, L.Nodup ∧ L.Pairwise LexB ∧ ∀ x, x ∈ L ↔ x < n ∧ P x := by
    intro n
    induction n with
    | zero => exact ⟨[], List.nodup_nil, List.Pairwise.nil, fun x => by simp⟩
    | succ n ih =>
      obtain ⟨L, h1, h2, h3⟩ := ih
      by_cases hP : P n
      rotate_left
      · refine ⟨L, h1, h2, fun x => ?_⟩
        rw [h3]
        constructor
        · rintro ⟨a, b⟩; exact ⟨by omega, b⟩
        · rintro ⟨a, b⟩
          refine ⟨?_, b⟩
          apply Classical.byContradiction
          intro hc
          obtain rfl : x = n := by omega
          exact hP b
      have hn : n ∉ L := fun hc => by have := ((h3 n).1 hc).1; omega
      obtain ⟨M, m1, m2⟩ := lex_put h2 hn
      refine ⟨M, ?_, m1, fun x => ?_⟩
      · exact (m2.nodup_iff).2 (List.nodup_cons.2 ⟨hn, h1⟩)
      · rw [m2.mem_iff, List.mem_cons, h3]
        constructor
        · rintro (rfl | ⟨a, b⟩)
          · exact ⟨by omega, hP⟩
          · exact ⟨by omega, b⟩
        · rintro ⟨a, b⟩
          by_cases c : x = n
          · exact .inl c
          · exact .inr ⟨by omega, b⟩
  obtain ⟨L, h1, h2, h3⟩ := key 32768
  exact ⟨L, h1, h2, fun x => by
    rw [h3]
    exact ⟨fun hx => hx.2, fun hx => ⟨hx.1.1, hx⟩⟩⟩
/-- What both answer of a cause, and of a panel. -/
theorem blames (ts : List Tq) (c : Int) (V : View) (v : Value) (hs : Sl V tqe 4 v ts) : ∃ a e : Int, Fnc Tryz.prog 7 [v, iv c] V (fun r _ => r = .tuple #[iv a, iv e]) ∧ Fnc Tryz.prog 8 [v, iv c] V (fun r _ => r = .tuple #[iv a, iv e]) := by
  by_cases h : trE ts = 0
  rotate_left
  · exact ⟨0, trE ts, blame_tr ts h c V v hs, rblame_tr ts h c V v hs⟩
  by_cases hc : 0 ≤ c ∧ c ≤ 14
  rotate_left
  · exact ⟨0, 2, blame_bad ts h c hc V v hs, rblame_bad ts h c hc V v hs⟩
  by_cases h2 : alE ts = 0
  rotate_left
  · exact ⟨0, alE ts, blame_no ts h h2 c hc V v hs, rblame_no ts h h2 c hc V v hs⟩
  obtain ⟨n, rfl⟩ : ∃ n : Nat, c = (n : Int) := ⟨c.toNat, by omega⟩
  obtain ⟨L, hal⟩ := als_ex ts h2
  refine ⟨bmN L n, 0, (blame_ok ts h2 n (by omega) V v hs).mono fun r V' _ ⟨L', h3, h4⟩ => ?_, (rblame_ok ts h2 n (by omega) V v hs).mono fun r V' _ ⟨L', h3, h4⟩ => ?_⟩
  · obtain rfl := alS_uniq h3 hal; exact h4
  · obtain rfl := alS_uniq h3 hal; exact h4
theorem failss (ts : List Tq) (p : Pq) (V : View) (v : Value) (hs : Sl V tqe 4 v ts) : ∃ a e : Int, Fnc Tryz.prog 9 [v, pqv p] V (fun r _ => r = .tuple #[iv a, iv e]) ∧ Fnc Tryz.prog 10 [v, pqv p] V (fun r _ => r = .tuple #[iv a, iv e]) := by
  by_cases h : trE ts = 0
  rotate_left
  · exact ⟨0, trE ts, failsF_tr ts h p V v hs, rfails_tr ts h p V v hs⟩
  cases hp : sndB p with
  | false => exact ⟨0, 3, failsF_bad ts h p hp V v hs, rfails_bad ts h p hp V v hs⟩
  | true =>
    by_cases h2 : alE ts = 0
    rotate_left
    · exact ⟨0, alE ts, failsF_no ts h h2 p hp V v hs, rfails_no ts h h2 p hp V v hs⟩
    obtain ⟨L, hal⟩ := als_ex ts h2
    refine ⟨flN L p, 0, (failsF_ok ts h2 p hp V v hs).mono fun r V' _ ⟨L', h3, h4⟩ => ?_, (rfails_ok ts h2 p hp V v hs).mono fun r V' _ ⟨L', h3, h4⟩ => ?_⟩
    · obtain rfl := alS_uniq h3 hal; exact h4
    · obtain rfl := alS_uniq h3 hal; exact h4
theorem nexts (ts : List Tq) (V : View) (v : Value) (hs : Sl V tqe 4 v ts) : ∃ (q : Pq) (a e : Int), Fnc Tryz.prog 11 [v] V (fun r _ => r = .tuple #[pqv q, iv a, iv e]) ∧ Fnc Tryz.prog 12 [v] V (fun r _ => r = .tuple #[pqv q, iv a, iv e]) := by
  by_cases h2 : alE ts = 0
  rotate_left
  · exact ⟨⟨0, 0, 0⟩, 0, alE ts, next_bad ts h2 V v hs, rnext_bad ts h2 V v hs⟩
  obtain ⟨L, hal⟩ := als_ex ts h2
  refine ⟨(nxR L).1, (nxR L).2.1, (nxR L).2.2, (next_ok ts h2 V v hs).mono fun r V' _ ⟨L', h3, h4⟩ => ?_, (rnext_ok ts h2 V v hs).mono fun r V' _ ⟨L', h3, h4⟩ => ?_⟩
  · obtain rfl := alS_uniq h3 hal; exact h4
  · obtain rfl := alS_uniq h3 hal; exact h4

theorem boilNexts_f (ts : List Tq) (c : Int) (p : Pq) (V : View) (v : Value) (hs : Sl V tqe 4 v ts) : Fnc Tryz.prog 3 [v, iv c, pqv p] V fun r _ => r = .bool true := by
  refine fn_of Tryz.func3 rfl Tryz.ntmps3 (Nat.le_of_ble_eq_true rfl) ?_
  intro w0 hw0
  refine At.nrm ?_
  refine At.ktext (.n false 0 (.q 1 .done)) ?_
  refine AtT.kbox ?_
  intro b5
  refine AtT.kassign ?_
  refine AtT.done ?_
  refine At.nrm ?_
  by_cases g1 : 24 < (ts.length : Int)
  · refine At.ktext (.q 0 (.n false 1 .done)) ?_
    refine AtT.kmove ?_
    refine AtT.kcallP rfl rfl ok5 (great_f ts _ _ hs) ?_
    rintro _ rfl
    refine AtT.setT (d := 22) rfl (g1) ?_
    refine AtT.done ?_
    refine At.nrm ?_
    refine At.condT rfl rfl ?_
    refine At.nrm ?_
    refine At.ktext (.n false 0 (.q 1 .done)) ?_
    refine AtT.kcallP rfl rfl ok6 (works_f _) ?_
    rintro _ rfl
    refine AtT.kassign ?_
    refine AtT.done ?_
    refine At.nrm ?_
    exact At.ret1 rfl (.tmp rfl) rfl
  refine At.ktext (.q 0 (.n false 1 .done)) ?_
  refine AtT.kmove ?_
  refine AtT.kcallP rfl rfl ok5 (great_f ts _ _ hs) ?_
  rintro _ rfl
  refine AtT.setF (d := 22) rfl (g1) ?_
  refine AtT.done ?_
  refine At.nrm ?_
  refine At.condF rfl rfl ?_
  obtain ⟨x1, x2, hb1, hb2⟩ := blames ts c _ _ hs
  obtain ⟨y1, y2, hf1, hf2⟩ := failss ts p _ _ hs
  obtain ⟨q, z1, z2, hn1, hn2⟩ := nexts ts _ _ hs
  refine At.nrm ?_
  refine At.ktext (.q 0 (.q 1 (.n false 2 (.q 3 (.q 4 (.q 5 (.q 6 (.q 7 .done)))))))) ?_
  refine AtT.kmove ?_
  refine AtT.kmove ?_
  refine AtT.kcallP rfl rfl ok7 (hb1) ?_
  rintro _ rfl
  refine AtT.kmove ?_
  refine AtT.kextract ?_
  refine AtT.kextract ?_
  refine AtT.kassign ?_
  refine AtT.kassign ?_
  refine AtT.done ?_
  refine At.nrm ?_
  refine At.ktext (.q 0 (.q 1 (.n false 2 (.q 3 (.q 4 (.q 5 (.q 6 (.q 7 .done)))))))) ?_
  refine AtT.kmove ?_
  refine AtT.kmove ?_
  refine AtT.kcallP rfl rfl ok8 (hb2) ?_
  rintro _ rfl
  refine AtT.kmove ?_
  refine AtT.kextract ?_
  refine AtT.kextract ?_
  refine AtT.kassign ?_
  refine AtT.kassign ?_
  refine AtT.done ?_
  refine At.nrm ?_
  refine At.ktext (.q 0 (.q 1 (.n false 2 (.q 3 (.q 4 (.q 5 (.q 6 (.q 7 .done)))))))) ?_
  refine AtT.kmove ?_
  first | refine AtT.kloadOA tk24 ?_ | refine AtT.kloadA tk24 ?_ | refine AtT.kloadOP tk24 ?_
  refine AtT.kcallP rfl rfl ok9 (hf1) ?_
  rintro _ rfl
  refine AtT.kmove ?_
  refine AtT.kextract ?_
  refine AtT.kextract ?_
  refine AtT.kassign ?_
  refine AtT.kassign ?_
  refine AtT.done ?_
  refine At.nrm ?_
  refine At.ktext (.q 0 (.q 1 (.n false 2 (.q 3 (.q 4 (.q 5 (.q 6 (.q 7 .done)))))))) ?_
  refine AtT.kmove ?_
  first | refine AtT.kloadOA tk24 ?_ | refine AtT.kloadA tk24 ?_ | refine AtT.kloadOP tk24 ?_
  refine AtT.kcallP rfl rfl ok10 (hf2) ?_
  rintro _ rfl
  refine AtT.kmove ?_
  refine AtT.kextract ?_
  refine AtT.kextract ?_
  refine AtT.kassign ?_
  refine AtT.kassign ?_
  refine AtT.done ?_
  refine At.nrm ?_
  refine At.ktext (.q 0 (.n false 1 (.q 2 (.q 3 (.q 4 (.q 5 (.n false 6 (.n true 7 (.q 8 (.q 9 .done)))))))))) ?_
  refine AtT.kmove ?_
  refine AtT.kcallP rfl rfl ok11 (hn1) ?_
  rintro _ rfl
  refine AtT.kmove ?_
  refine AtT.kextract ?_
  refine AtT.kextract ?_
  refine AtT.kextract ?_
  refine AtT.kalloc z24 ?_
  intro b15
  refine AtT.kstoreA tk24 ?_
  refine AtT.kassign ?_
  refine AtT.kassign ?_
  refine AtT.done ?_
  refine At.nrm ?_
  refine At.ktext (.q 0 (.n false 1 (.q 2 (.q 3 (.q 4 (.q 5 (.n false 6 (.n true 7 (.q 8 (.q 9 .done)))))))))) ?_
  refine AtT.kmove ?_
  refine AtT.kcallP rfl rfl ok12 (hn2) ?_
  rintro _ rfl
  refine AtT.kmove ?_
  refine AtT.kextract ?_
  refine AtT.kextract ?_
  refine AtT.kextract ?_
  refine AtT.kalloc z24 ?_
  intro b18
  refine AtT.kstoreA tk24 ?_
  refine AtT.kassign ?_
  refine AtT.kassign ?_
  refine AtT.done ?_
  refine At.nrm ?_
  refine At.ktext (.q 0 (.q 1 (.q 2 (.q 3 (.q 4 (.q 5 (.q 6 (.q 7 (.q 8 (.q 9 (.q 10 (.q 11 (.q 12 (.q 13 (.q 14 (.q 15 (.q 16 (.q 17 (.q 18 (.q 19 (.q 20 (.q 21 (.q 22 (.q 23 (.q 24 (.q 25 (.q 26 (.q 27 (.q 28 (.q 29 (.q 30 (.q 31 (.q 32 (.q 33 (.n false 34 (.q 35 (.q 36 .done))))))))))))))))))))))))))))))))))))) ?_
  refine AtT.kmove ?_
  refine AtT.kmove ?_
  refine AtT.keqI ?_
  refine AtT.setT (d := 62) rfl (rfl) ?_
  refine AtT.kmove ?_
  all_goals (first | refine AtT.kL 63 ?_ | refine AtT.pcase (d := 63) rfl (fun hg63 => ?_) (fun hg63 => ?_) | refine AtT.bcase (d := 63) rfl (fun hg63 => ?_) (fun hg63 => ?_))
  all_goals (first | refine AtT.kpass ?_ | refine AtT.kpassU ?_ | ((refine AtT.kmove ?_)))
  all_goals (first | refine AtT.kpass ?_ | refine AtT.kpassU ?_ | ((refine AtT.kmove ?_)))
  all_goals (first | refine AtT.kpass ?_ | refine AtT.kpassU ?_ | ((refine AtT.keqI ?_)))
  all_goals (refine AtT.setT (d := 66) rfl (rfl) ?_)
  all_goals (refine AtT.kpick ?_)
  all_goals (refine AtT.kmove ?_)
  all_goals (first | refine AtT.kL 68 ?_ | refine AtT.pcase (d := 68) rfl (fun hg68 => ?_) (fun hg68 => ?_) | refine AtT.bcase (d := 68) rfl (fun hg68 => ?_) (fun hg68 => ?_))
  all_goals (first | refine AtT.kpass ?_ | refine AtT.kpassU ?_ | ((refine AtT.kmove ?_)))
  all_goals (first | refine AtT.kpass ?_ | refine AtT.kpassU ?_ | ((refine AtT.kmove ?_)))
  all_goals (first | refine AtT.kpass ?_ | refine AtT.kpassU ?_ | ((refine AtT.keqI ?_)))
  all_goals (refine AtT.setT (d := 71) rfl (rfl) ?_)
  all_goals (refine AtT.kpick ?_)
  all_goals (refine AtT.kmove ?_)
  all_goals (first | refine AtT.kL 73 ?_ | refine AtT.pcase (d := 73) rfl (fun hg73 => ?_) (fun hg73 => ?_) | refine AtT.bcase (d := 73) rfl (fun hg73 => ?_) (fun hg73 => ?_))
  all_goals (first | refine AtT.kpass ?_ | refine AtT.kpassU ?_ | ((refine AtT.kmove ?_)))
  all_goals (first | refine AtT.kpass ?_ | refine AtT.kpassU ?_ | ((refine AtT.kmove ?_)))
  all_goals (first | refine AtT.kpass ?_ | refine AtT.kpassU ?_ | ((refine AtT.keqI ?_)))
  all_goals (refine AtT.setT (d := 76) rfl (rfl) ?_)
  all_goals (refine AtT.kpick ?_)
  all_goals (refine AtT.kmove ?_)
  all_goals (first | refine AtT.kL 78 ?_ | refine AtT.pcase (d := 78) rfl (fun hg78 => ?_) (fun hg78 => ?_) | refine AtT.bcase (d := 78) rfl (fun hg78 => ?_) (fun hg78 => ?_))
  all_goals (first | refine AtT.kpass ?_ | refine AtT.kpassU ?_ | ((first | refine AtT.kloadOA tk24 ?_ | refine AtT.kloadA tk24 ?_ | refine AtT.kloadOP tk24 ?_)))
  all_goals (first | refine AtT.kpass ?_ | refine AtT.kpassU ?_ | ((first | refine AtT.kloadOA tk24 ?_ | refine AtT.kloadA tk24 ?_ | refine AtT.kloadOP tk24 ?_)))
  all_goals (first | refine AtT.kpass ?_ | refine AtT.kpassU ?_ | ((refine AtT.keqS (eqS24 _ _ _ _ _ _) ?_)))
  all_goals (refine AtT.setT (d := 81) rfl (⟨rfl, rfl, rfl⟩) ?_)
  all_goals (refine AtT.kpick ?_)
  all_goals (refine AtT.kmove ?_)
  all_goals (first | refine AtT.kL 83 ?_ | refine AtT.pcase (d := 83) rfl (fun hg83 => ?_) (fun hg83 => ?_) | refine AtT.bcase (d := 83) rfl (fun hg83 => ?_) (fun hg83 => ?_))
  all_goals (first | refine AtT.kpass ?_ | refine AtT.kpassU ?_ | ((refine AtT.kmove ?_)))
  all_goals (first | refine AtT.kpass ?_ | refine AtT.kpassU ?_ | ((refine AtT.kmove ?_)))
  all_goals (first | refine AtT.kpass ?_ | refine AtT.kpassU ?_ | ((refine AtT.keqI ?_)))
  all_goals (refine AtT.setT (d := 86) rfl (rfl) ?_)
  all_goals (refine AtT.kpick ?_)
  all_goals (refine AtT.kmove ?_)
  all_goals (first | refine AtT.kL 88 ?_ | refine AtT.pcase (d := 88) rfl (fun hg88 => ?_) (fun hg88 => ?_) | refine AtT.bcase (d := 88) rfl (fun hg88 => ?_) (fun hg88 => ?_))
  all_goals (first | refine AtT.kpass ?_ | refine AtT.kpassU ?_ | ((refine AtT.kmove ?_)))
  all_goals (first | refine AtT.kpass ?_ | refine AtT.kpassU ?_ | ((refine AtT.kmove ?_)))
  all_goals (first | refine AtT.kpass ?_ | refine AtT.kpassU ?_ | ((refine AtT.keqI ?_)))
  all_goals (refine AtT.setT (d := 91) rfl (rfl) ?_)
  all_goals (refine AtT.kpick ?_)
  all_goals (refine AtT.kmove ?_)
  all_goals (first | refine AtT.kL 93 ?_ | refine AtT.pcase (d := 93) rfl (fun hg93 => ?_) (fun hg93 => ?_) | refine AtT.bcase (d := 93) rfl (fun hg93 => ?_) (fun hg93 => ?_))
  all_goals (first | refine AtT.kpassN ?_ | refine AtT.kpassNU ?_ | ((refine AtT.kcallP rfl rfl ok6 (works_f _) ?_) ; (rintro _ rfl)))
  all_goals (refine AtT.kpick ?_)
  all_goals (refine AtT.kassign ?_)
  all_goals refine AtT.done ?_
  all_goals (refine At.nrm ?_)
  exact At.ret1 rfl (.tmp rfl) rfl
end Go.Proofs.YtfcpmblmklibjaaGreat
set_option linter.unusedVariables false
namespace Go.Proofs.YtfcpmblmklibjaaGreat.c1
open Go.Lw Go.Gl Go.Bl Go.RowKit Go.ChangeShapes Go.WideShapes Go.ChangeAt

set_option maxRecDepth 100000 in
theorem lifted (os : Os) (started : os.Started) (H : Type) (enc : TypeId × Value → H) :
    ReturnsInHanded {} Tryz.checked os 3 .any (Rows.boilNextsSpec.pre6 enc Tryz.prog Tryz.f3 Rows.boilNextsRow.domain false) (Rows.boilNextsSpec.post enc Tryz.prog Tryz.f3 false true false false) := by
  refine law_lift (tb := 4) (fun ds hd => by match ds, hd with | [d0, d1, d2], _ => rfl) rfl (by kernel_rfl) Tryz.underlying4 laidOut (by kernel_rfl) own started (by kernel_rfl) Tryz.func3
    (ChangeSpec.witness6 (enc := enc) (C := Tryz.checked) false ⟨#[], #[.slice none 0 0, .int .i64 0, .agg #[.int .i64 0, .int .i64 0, .int .i64 0]], []⟩ 8 (by kernel_rfl) (by kernel_rfl) (by kernel_rfl) (by kernel_rfl)) ?_
  intro W base args ds ps hval hA
  rw [Tryz.params3] at hA hval
  obtain ⟨v0, vs0, d0, ds0, p0, q0, hargs, rfl, rfl, h0, r0⟩ := trodAll_cons hA
  obtain ⟨v1, vs1, d1, ds1, p1, q1, rfl, rfl, rfl, h1, r1⟩ := trodAll_cons r0
  obtain ⟨v2, vs2, d2, ds2, p2, q2, rfl, rfl, rfl, h2, r2⟩ := trodAll_cons r1
  obtain ⟨rfl, rfl, rfl⟩ := trodAll_nil r2
  obtain rfl : args = #[v0, v1, v2] := by cases args; simp_all
  obtain ⟨l0, a0, c0, rfl, s0⟩ := rd_trials (hval 0 22 v0 rfl rfl) h0
  obtain ⟨x1, rfl, _, _, w1⟩ := open_int Tryz.underlying3 (hval 1 3 v1 rfl rfl) h1
  obtain ⟨x2, rfl⟩ := open_panel (hval 2 24 v2 rfl rfl) h2
  exact ⟨[.slice a0 l0.length c0, .int .i64 x1, pqv x2], rfl, boilNexts_f l0 x1 x2 _ _ s0⟩

theorem over : Rows.boilNextsRow.holds Tryz.pinned (OpenSpec.ofChange Rows.boilNextsSpec) :=
  OpenClaim.holds_of_wide 3 Tryz.f3 rfl rfl rfl rfl rfl rfl rfl ⟨rfl, rfl, rfl, rfl, rfl⟩ rfl rfl rfl rfl rfl (by kernel_rfl) Tryz.func3 (by kernel_rfl)
    (of_decide_eq_true (by kernel_rfl)) (by unfold Func.isWrapper; first | (rw [if_pos (by decide +kernel)]; kernel_rfl) | (rw [if_neg (by decide +kernel)]; exact ⟨rfl, rfl⟩))
    (fun os started H enc _ => lifted os started H enc)

theorem proved : Rows.BoilNextsSaid := over
#print axioms proved
end Go.Proofs.YtfcpmblmklibjaaGreat.c1
