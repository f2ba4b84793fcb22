/- Of a panel that fails by some of the smallest explanations just these stay, if it is boiled, and fails; of one by which it does not fail just those, if it holds: for all valid trials, a panel by a number, whether it fails. No condition. -/
import Derived.Test.YtfcpmblmklibjaaB6
set_option linter.unusedVariables false
set_option linter.unusedSimpArgs false
set_option linter.unusedSectionVars false
set_option linter.unusedVariables false
namespace Go.Proofs.Ytfcpmblmklibjaa
open Go.Lw Go.Gl Go.Bl Go.RowKit

theorem bit_val (A k : Nat) : ((A >>> k &&& 1 : Nat) : Int) = if A.testBit k = true then 1 else 0 := by
  have h := bit_iff A k
  have hl : A >>> k &&& 1 ≤ 1 := Nat.and_le_right
  split
  · rename_i c; exact h.2 c
  · rename_i c
    have : ((A >>> k &&& 1 : Nat) : Int) ≠ 1 := fun e => c (h.1 e)
    omega
theorem panelP_f (p : Pq) (V : View) : Fnc Try.prog 44 [iv p.m, iv p.o, iv p.h] V fun r _ => r = pqv p := panel_f p.m p.o p.h V
/-- The numbers of a panel, by one number. -/
theorem digs {y : Int} (hy : 0 ≤ y ∧ y ≤ 255) : (0 ≤ y.tmod 5 ∧ y.tmod 5 ≤ 4) ∧ (0 ≤ (y.tdiv 5).tmod 5 ∧ (y.tdiv 5).tmod 5 ≤ 4) ∧ (0 ≤ (y.tdiv 25).tmod 5 ∧ (y.tdiv 25).tmod 5 ≤ 4) ∧ Fit (y.tdiv 5) ∧ Fit (y.tdiv 25) := by
  have a := Int.tmod_nonneg 5 hy.1
  have b := Int.tmod_lt_of_pos y (b := 5) (by decide)
  have e1 : y.tdiv 5 = y / 5 := Int.tdiv_eq_ediv_of_nonneg hy.1
  have e2 : y.tdiv 25 = y / 25 := Int.tdiv_eq_ediv_of_nonneg hy.1
  have c := Int.tmod_nonneg (a := y.tdiv 5) 5 (by omega)
  have d := Int.tmod_lt_of_pos (y.tdiv 5) (b := 5) (by decide)
  have e := Int.tmod_nonneg (a := y.tdiv 25) 5 (by omega)
  have f := Int.tmod_lt_of_pos (y.tdiv 25) (b := 5) (by decide)
  exact ⟨⟨a, by omega⟩, ⟨c, by omega⟩, ⟨e, by omega⟩, Fit.of (by omega) (by omega), Fit.of (by omega) (by omega)⟩
theorem mt_val (x : Nat) (p : Pq) : ((x &&& cbN p : Nat) : Int) ≠ 0 ↔ mtB (cbN p) x = true := by
  rw [mtB_symm]
  unfold mtB
  rw [decide_eq_true_eq]
  omega
theorem bt_bit {x : Nat} (h : x < 32768) : btL (bitL x 15) = x := btL_bitL (n := 15) h

theorem boilBlamed_f (ts : List Tq) (x y : Int) (hx : 0 ≤ x ∧ x ≤ 255) (hy : 0 ≤ y ∧ y ≤ 255) (V : View) (v : Value) (hs : Sl V tqe 4 v ts) : Fnc Try.prog 8 [v, .int .u8 x, .int .u8 y] V fun r _ => r = .bool true := by
  obtain ⟨d1, d2, d3, hf5, hf25⟩ := digs hy
  obtain ⟨a, c, rfl, k1, k2, _⟩ := id hs
  clear k1 k2
  have hxm := Int.tmod_nonneg 15 hx.1
  have hxl := Int.tmod_lt_of_pos x (b := 15) (by decide)
  obtain ⟨cN, hcN⟩ : ∃ n : Nat, x.tmod 15 = (n : Int) := ⟨(x.tmod 15).toNat, by omega⟩
  have hc15 : cN < 15 := by omega
  obtain ⟨p, e1, e2, e3⟩ : ∃ p : Pq, y.tmod 5 = p.m ∧ (y.tdiv 5).tmod 5 = p.o ∧ (y.tdiv 25).tmod 5 = p.h := ⟨⟨_, _, _⟩, rfl, rfl, rfl⟩
  have hp : sndB p = true := decide_eq_true (by omega)
  have hcb := cbN_lt hp
  refine fn_of Try.func8 rfl Try.ntmps8 (Nat.le_of_ble_eq_true rfl) ?_
  intro w0 hw0
  refine At.nrm ?_
  refine At.ktext (.q 0 .done) ?_
  refine AtT.kassign ?_
  refine AtT.done ?_
  refine At.nrm ?_
  by_cases g0 : trE ts = 0
  rotate_left
  · refine At.ktext (.q 0 (.n false 1 (.q 2 .done))) ?_
    refine AtT.kmove ?_
    refine AtT.kcallP rfl rfl ok37 (fine_f ts _ _ hs) ?_
    rintro _ rfl
    refine AtT.setF (d := 23) rfl (g0) ?_
    refine AtT.knot ?_
    refine AtT.setB (d := 24) rfl ((show (!false) = true from rfl)) ?_
    refine AtT.done ?_
    refine At.nrm ?_
    refine At.condT rfl rfl ?_
    refine At.nrm ?_
    refine At.ktext (.n false 0 (.q 1 .done)) ?_
    refine AtT.kcallP rfl rfl ok16 (works_f _) ?_
    rintro _ rfl
    refine AtT.kassign ?_
    refine AtT.done ?_
    refine At.nrm ?_
    exact At.ret1 rfl (.tmp rfl) rfl
  refine At.ktext (.q 0 (.n false 1 (.q 2 .done))) ?_
  refine AtT.kmove ?_
  refine AtT.kcallP rfl rfl ok37 (fine_f ts _ _ hs) ?_
  rintro _ rfl
  refine AtT.setT (d := 23) rfl (g0) ?_
  refine AtT.knot ?_
  refine AtT.setB (d := 24) rfl ((show (!true) = false from rfl)) ?_
  refine AtT.done ?_
  refine At.nrm ?_
  refine At.condF rfl rfl ?_
  obtain ⟨h16, ht⟩ := trE_ok g0
  have hcl : clA ts < 32768 := clN_lt ht _
  by_cases he : alE ts = 0
  rotate_left
  · have h26 := (alE_26 g0 he).1
    refine At.nrm ?_
    refine At.ktext (.q 0 (.n false 1 (.q 2 (.q 3 (.q 4 (.q 5 (.q 6 (.q 7 (.q 8 .done))))))))) ?_
    refine AtT.kmove ?_
    refine AtT.kcallP rfl rfl ok38 (sets_no ts g0 he _ _ hs) ?_
    rintro _ rfl
    refine AtT.kmove ?_
    refine AtT.kextract ?_
    refine AtT.kextract ?_
    refine AtT.kextract ?_
    refine AtT.kassign ?_
    refine AtT.kassign ?_
    refine AtT.kassign ?_
    refine AtT.done ?_
    refine At.nrm ?_
    refine At.ktext (.q 0 (.q 1 (.q 2 (.q 3 .done)))) ?_
    refine AtT.kmove ?_
    refine AtT.kconv un5 Try.underlying3 ?_
    rw [wrap_fit (Fit.of (by omega) (by omega))]
    refine AtT.krem ?_
    rw [hcN]
    refine AtT.kassign ?_
    refine AtT.done ?_
    refine At.nrm ?_
    refine At.ktext (.q 0 (.q 1 (.q 2 (.q 3 (.q 4 (.q 5 (.q 6 (.q 7 (.q 8 (.q 9 (.q 10 (.n false 11 (.n false 12 (.n true 13 .done)))))))))))))) ?_
    refine AtT.kmove ?_
    refine AtT.kconv un5 Try.underlying3 ?_
    rw [wrap_fit (Fit.of (by omega) (by omega))]
    refine AtT.krem ?_
    rw [e1]
    refine AtT.kmove ?_
    refine AtT.kconv un5 Try.underlying3 ?_
    rw [wrap_fit (Fit.of (by omega) (by omega))]
    refine AtT.kquo ?_
    refine AtT.krem ?_
    rw [e2]
    refine AtT.kmove ?_
    refine AtT.kconv un5 Try.underlying3 ?_
    rw [wrap_fit (Fit.of (by omega) (by omega))]
    refine AtT.kquo ?_
    refine AtT.krem ?_
    rw [e3]
    refine AtT.kcallP rfl rfl ok44 (panelP_f p _) ?_
    rintro _ rfl
    refine AtT.kalloc z24 ?_
    intro b11
    refine AtT.kstoreA tk24 ?_
    refine AtT.done ?_
    refine At.nrm ?_
    refine At.ktext (.q 0 (.q 1 (.n false 2 (.q 3 (.q 4 (.q 5 (.q 6 (.q 7 .done)))))))) ?_
    refine AtT.kmove ?_
    refine AtT.kmove ?_
    refine AtT.kcallP rfl rfl ok45 (blame_no ts g0 he cN (by omega) _ _ hs) ?_
    rintro _ rfl; rw [h26]
    refine AtT.kmove ?_
    refine AtT.kextract ?_
    refine AtT.kextract ?_
    refine AtT.kassign ?_
    refine AtT.kassign ?_
    refine AtT.done ?_
    refine At.nrm ?_
    refine At.ktext (.q 0 (.q 1 (.n false 2 (.q 3 (.q 4 (.q 5 (.q 6 (.q 7 .done)))))))) ?_
    refine AtT.kmove ?_
    first | refine AtT.kloadOA tk24 ?_ | refine AtT.kloadA tk24 ?_ | refine AtT.kloadOP tk24 ?_
    refine AtT.kcallP rfl rfl ok46 (failsF_no ts g0 he p hp _ _ hs) ?_
    rintro _ rfl; rw [h26]
    refine AtT.kmove ?_
    refine AtT.kextract ?_
    refine AtT.kextract ?_
    refine AtT.kassign ?_
    refine AtT.kassign ?_
    refine AtT.done ?_
    refine At.nrm ?_
    refine At.ktext (.q 0 (.n false 1 (.q 2 (.q 3 (.q 4 (.q 5 (.q 6 .done))))))) ?_
    refine AtT.kmove ?_
    refine AtT.kcall rfl rfl ok20 (rclear_f ts _ _ hs) ?_
    rintro _ V61 hV61 ⟨u61, rfl, hu61⟩; rw [g0]
    refine AtT.kmove ?_
    refine AtT.kextract ?_
    refine AtT.kextract ?_
    refine AtT.kassign ?_
    refine AtT.kassign ?_
    refine AtT.done ?_
    refine At.nrm ?_
    refine At.ktext (.q 0 (.q 1 (.q 2 (.q 3 (.q 4 (.q 5 .done)))))) ?_
    refine AtT.kmove ?_
    refine AtT.knot ?_
    refine AtT.setB (d := 65) rfl ((show (!true) = false from rfl)) ?_
    refine AtT.kmove ?_
    all_goals (first | refine AtT.kL 66 ?_ | refine AtT.pcase (d := 66) rfl (fun hg66 => ?_) (fun hg66 => ?_) | refine AtT.bcase (d := 66) rfl (fun hg66 => ?_) (fun hg66 => ?_))
    all_goals (first | refine AtT.kpass ?_ | refine AtT.kpassU ?_ | ((refine AtT.kmove ?_)))
    all_goals (first | refine AtT.kpass ?_ | refine AtT.kpassU ?_ | ((refine AtT.kneI ?_)))
    all_goals (refine AtT.setF (d := 68) rfl ((by simp)) ?_)
    all_goals (refine AtT.kpick ?_)
    all_goals refine AtT.done ?_
    all_goals (refine At.nrm ?_)
    refine At.condF rfl rfl ?_
    refine At.nrm ?_
    refine At.ktext (.q 0 (.q 1 .done)) ?_
    refine AtT.kmove ?_
    refine AtT.knot ?_
    refine AtT.setB (d := 71) rfl ((show (!false) = true from rfl)) ?_
    refine AtT.done ?_
    refine At.nrm ?_
    refine At.condT rfl rfl ?_
    refine At.nrm ?_
    refine At.ktext (.q 0 (.q 1 (.q 2 (.q 3 (.q 4 (.q 5 (.q 6 (.n false 7 (.q 8 (.q 9 .done)))))))))) ?_
    refine AtT.kmove ?_
    refine AtT.keqI ?_
    refine AtT.setT (d := 73) rfl (rfl) ?_
    refine AtT.kmove ?_
    all_goals (first | refine AtT.kL 74 ?_ | refine AtT.pcase (d := 74) rfl (fun hg74 => ?_) (fun hg74 => ?_) | refine AtT.bcase (d := 74) rfl (fun hg74 => ?_) (fun hg74 => ?_))
    all_goals (first | refine AtT.kpass ?_ | refine AtT.kpassU ?_ | ((refine AtT.kmove ?_)))
    all_goals (first | refine AtT.kpass ?_ | refine AtT.kpassU ?_ | ((refine AtT.keqI ?_)))
    all_goals (refine AtT.setT (d := 76) rfl (rfl) ?_)
    all_goals (refine AtT.kpick ?_)
    all_goals (refine AtT.kmove ?_)
    all_goals (first | refine AtT.kL 78 ?_ | refine AtT.pcase (d := 78) rfl (fun hg78 => ?_) (fun hg78 => ?_) | refine AtT.bcase (d := 78) rfl (fun hg78 => ?_) (fun hg78 => ?_))
    all_goals (first | refine AtT.kpassN ?_ | refine AtT.kpassNU ?_ | ((refine AtT.kcallP rfl rfl ok16 (works_f _) ?_) ; (rintro _ rfl)))
    all_goals (refine AtT.kpick ?_)
    all_goals (refine AtT.kassign ?_)
    all_goals refine AtT.done ?_
    all_goals (refine At.nrm ?_)
    exact At.ret1 rfl (.tmp rfl) rfl
  refine At.nrm ?_
  refine At.ktext (.q 0 (.n false 1 (.q 2 (.q 3 (.q 4 (.q 5 (.q 6 (.q 7 (.q 8 .done))))))))) ?_
  refine AtT.kmove ?_
  refine AtT.kcall rfl rfl ok38 (sets_ok ts he _ _ hs) ?_
  rintro _ V28 hV28 ⟨u, L, rfl, hal, hu⟩
  refine AtT.kmove ?_
  refine AtT.kextract ?_
  refine AtT.kextract ?_
  refine AtT.kextract ?_
  refine AtT.kassign ?_
  refine AtT.kassign ?_
  refine AtT.kassign ?_
  refine AtT.done ?_
  refine At.nrm ?_
  replace hs := hs.le hV28
  obtain ⟨qs, aq, cq, rfl, hq, hql, hqs⟩ := hu.at
  have hne := als_ne he hal
  have hlen := als_len hal
  have hlt := als_lt hal
  have hpos : 0 < L.length := List.length_pos_iff.2 hne
  refine At.ktext (.q 0 (.q 1 (.q 2 (.q 3 .done)))) ?_
  refine AtT.kmove ?_
  refine AtT.kconv un5 Try.underlying3 ?_
  rw [wrap_fit (Fit.of (by omega) (by omega))]
  refine AtT.krem ?_
  rw [hcN]
  refine AtT.kassign ?_
  refine AtT.done ?_
  refine At.nrm ?_
  refine At.ktext (.q 0 (.q 1 (.q 2 (.q 3 (.q 4 (.q 5 (.q 6 (.q 7 (.q 8 (.q 9 (.q 10 (.n false 11 (.n false 12 (.n true 13 .done)))))))))))))) ?_
  refine AtT.kmove ?_
  refine AtT.kconv un5 Try.underlying3 ?_
  rw [wrap_fit (Fit.of (by omega) (by omega))]
  refine AtT.krem ?_
  rw [e1]
  refine AtT.kmove ?_
  refine AtT.kconv un5 Try.underlying3 ?_
  rw [wrap_fit (Fit.of (by omega) (by omega))]
  refine AtT.kquo ?_
  refine AtT.krem ?_
  rw [e2]
  refine AtT.kmove ?_
  refine AtT.kconv un5 Try.underlying3 ?_
  rw [wrap_fit (Fit.of (by omega) (by omega))]
  refine AtT.kquo ?_
  refine AtT.krem ?_
  rw [e3]
  refine AtT.kcallP rfl rfl ok44 (panelP_f p _) ?_
  rintro _ rfl
  refine AtT.kalloc z24 ?_
  intro b11
  refine AtT.kstoreA tk24 ?_
  refine AtT.done ?_
  refine At.nrm ?_
  refine At.ktext (.q 0 (.q 1 (.n false 2 (.q 3 (.q 4 (.q 5 (.q 6 (.q 7 .done)))))))) ?_
  refine AtT.kmove ?_
  refine AtT.kmove ?_
  refine AtT.kcallP rfl rfl ok45 (blame_ok ts he cN hc15 _ _ hs) ?_
  rintro _ ⟨L50, hal50, rfl⟩; obtain rfl := alS_uniq hal50 hal
  refine AtT.kmove ?_
  refine AtT.kextract ?_
  refine AtT.kextract ?_
  refine AtT.kassign ?_
  refine AtT.kassign ?_
  refine AtT.done ?_
  refine At.nrm ?_
  refine At.ktext (.q 0 (.q 1 (.n false 2 (.q 3 (.q 4 (.q 5 (.q 6 (.q 7 .done)))))))) ?_
  refine AtT.kmove ?_
  first | refine AtT.kloadOA tk24 ?_ | refine AtT.kloadA tk24 ?_ | refine AtT.kloadOP tk24 ?_
  refine AtT.kcallP rfl rfl ok46 (failsF_ok ts he p hp _ _ hs) ?_
  rintro _ ⟨L56, hal56, rfl⟩; obtain rfl := alS_uniq hal56 hal50
  refine AtT.kmove ?_
  refine AtT.kextract ?_
  refine AtT.kextract ?_
  refine AtT.kassign ?_
  refine AtT.kassign ?_
  refine AtT.done ?_
  refine At.nrm ?_
  refine At.ktext (.q 0 (.n false 1 (.q 2 (.q 3 (.q 4 (.q 5 (.q 6 .done))))))) ?_
  refine AtT.kmove ?_
  refine AtT.kcall rfl rfl ok20 (rclear_f ts _ _ hs) ?_
  rintro _ V61 hV61 ⟨u61, rfl, hu61⟩; rw [g0]
  refine AtT.kmove ?_
  refine AtT.kextract ?_
  refine AtT.kextract ?_
  refine AtT.kassign ?_
  refine AtT.kassign ?_
  refine AtT.done ?_
  refine At.nrm ?_
  replace hq := hq.le hV61
  replace hqs := fun i q x h1 h2 => (hqs i q x h1 h2).le hV61
  refine At.ktext (.q 0 (.q 1 (.q 2 (.q 3 (.q 4 (.q 5 .done)))))) ?_
  refine AtT.kmove ?_
  refine AtT.knot ?_
  refine AtT.setB (d := 65) rfl ((show (!true) = false from rfl)) ?_
  refine AtT.kmove ?_
  all_goals (first | refine AtT.kL 66 ?_ | refine AtT.pcase (d := 66) rfl (fun hg66 => ?_) (fun hg66 => ?_) | refine AtT.bcase (d := 66) rfl (fun hg66 => ?_) (fun hg66 => ?_))
  all_goals (first | refine AtT.kpass ?_ | refine AtT.kpassU ?_ | ((refine AtT.kmove ?_)))
  all_goals (first | refine AtT.kpass ?_ | refine AtT.kpassU ?_ | ((refine AtT.kneI ?_)))
  all_goals (refine AtT.setF (d := 68) rfl ((by simp)) ?_)
  all_goals (refine AtT.kpick ?_)
  all_goals refine AtT.done ?_
  all_goals (refine At.nrm ?_)
  refine At.condF rfl rfl ?_
  refine At.nrm ?_
  refine At.ktext (.q 0 (.q 1 .done)) ?_
  refine AtT.kmove ?_
  refine AtT.knot ?_
  refine AtT.setB (d := 71) rfl ((show (!true) = false from rfl)) ?_
  refine AtT.done ?_
  refine At.nrm ?_
  refine At.condF rfl rfl ?_
  refine At.nrm ?_
  refine At.ktext (.q 0 (.q 1 .done)) ?_
  refine AtT.kassign ?_
  refine AtT.kassign ?_
  refine AtT.done ?_
  refine At.nrm ?_
  refine At.ktext (.q 0 .done) ?_
  refine AtT.kassign ?_
  refine AtT.done ?_
  refine At.nrm ?_
  refine At.lp (ι := Nat) (KS := fun k => [(7, .slice aq qs.length cq), (10, iv cN), (11, .pointer (some ⟨b11, 0, none⟩)), (12, iv (bmN L56 cN)), (13, iv 0), (14, iv (flN L56 p)), (15, iv 0), (16, u61), (18, iv (tN (L56.take k) cN)), (19, iv (flN (L56.take k) p)), (20, iv k)]) (OS := fun _ => [.blk b11 (LC (pqe p) 24)])
    (VS := fun k V' => Le V61 V' ∧ k ≤ L56.length) (μ := fun k => L56.length - k) 0 ?_ ?_ ?_ ?_
  · exact ⟨rfl, rfl, rfl, rfl, rfl, rfl, rfl, rfl, rfl, rfl, rfl, trivial⟩
  · exact Pt.auto
  · exact ⟨Le.refl _, Nat.zero_le _⟩
  rintro k V' ks' O' ⟨hVV, hkl⟩ hk hO hl2
  subst hk hO
  have hq' := hq.le hVV
  refine At.nrm ?_
  refine At.ktext (.q 0 (.q 1 (.q 2 (.q 3 .done)))) ?_
  refine AtT.kmove ?_
  refine AtT.kmove ?_
  first | refine AtT.klenS Try.underlying39 ?_ | refine AtT.klenR Try.underlying39 ?_
  refine AtT.klss ?_
  refine AtT.done ?_
  refine At.nrm ?_
  refine At.condP rfl (fun hp' => ?_) (fun hp' => ?_)
  · have hk1 : k < L56.length := by omega
    obtain ⟨q, hqk⟩ : ∃ x, qs[k]? = some x := ⟨_, List.getElem?_eq_getElem (by omega)⟩
    obtain ⟨z, hz⟩ : ∃ l, L56[k]? = some l := ⟨_, List.getElem?_eq_getElem (by omega)⟩
    have hs1 := (hqs k q z hqk hz).le hVV
    have hzl := hlt z (List.mem_of_getElem? hz)
    have ht1 := tN_le (L56.take k) cN
    have ht2 := flN_le (L56.take k) p
    have htk : (L56.take k).length ≤ 32768 := by rw [List.length_take]; omega
    have hbv := bit_val z cN
    have hbt : z >>> cN &&& 1 ≤ 1 := Nat.and_le_right
    have hn1 : ((tN (L56.take k) cN : Nat) : Int) + ((z >>> cN &&& 1 : Nat) : Int) = ((tN (L56.take (k + 1)) cN : Nat) : Int) := by
      rw [hbv, tN_take hz]; split <;> simp
    have hshr : z >>> cN < 32768 := Nat.lt_of_le_of_lt (Nat.shiftRight_le _ _) hzl
    refine At.nrmB ?_
    refine At.cutG (ι := Unit) (fun _ => [(7, .slice aq qs.length cq), (10, iv cN), (11, .pointer (some ⟨b11, 0, none⟩)), (12, iv (bmN L56 cN)), (13, iv 0), (14, iv (flN L56 p)), (15, iv 0), (16, u61), (18, iv (tN (L56.take (k + 1)) cN)), (19, iv (flN (L56.take (k + 1)) p)), (20, iv k)]) (fun _ => [.blk b11 (LC (pqe p) 24)])
      (fun _ V'' => Le V' V'') ?_ ?_
    · refine At.nrm ?_
      refine At.ktext (.q 0 (.q 1 (.q 2 (.q 3 (.n false 4 (.q 5 .done)))))) ?_
      refine AtT.kmove ?_
      refine AtT.kmove ?_
      refine AtT.kidx Try.underlying39 tk25 ?_
      intro p89 e89 he89 hc89
      obtain rfl : q = e89 := by have : qs[k]? = some e89 := (by simpa using he89); rw [hqk] at this; simpa using this
      first | refine AtT.kloadO tk25 ?_ | refine AtT.kload tk25 ?_
      refine AtT.kcallP rfl rfl ok42 (bitsOf_f (bitL z 15) (bit_in z) _ _ hs1) ?_
      rintro _ rfl; rw [bt_bit hzl]
      refine AtT.kassign ?_
      refine AtT.done ?_
      refine At.nrm ?_
      refine At.ktext (.q 0 (.q 1 (.q 2 (.q 3 (.q 4 (.q 5 (.q 6 .done))))))) ?_
      refine AtT.kmove ?_
      refine AtT.kmove ?_
      refine AtT.kmove ?_
      refine AtT.shrN rfl trivial rfl rfl rfl rfl (by omega) (by decide) (A := z) (N := cN) ?_
      refine AtT.andN rfl trivial rfl rfl rfl rfl (by omega) (by decide) (by decide) (A := z >>> cN) (B := 1) ?_
      first | refine AtT.kadd ?_ | refine AtT.kaddW ?_
      rw [hn1]
      refine AtT.kassign ?_
      refine AtT.done ?_
      refine At.nrm ?_
      by_cases hm : mtB (cbN p) z = true
      · refine At.ktext (.q 0 (.q 1 (.n false 2 (.n false 3 (.q 4 (.q 5 .done)))))) ?_
        refine AtT.kmove ?_
        first | refine AtT.kloadOA tk24 ?_ | refine AtT.kloadA tk24 ?_ | refine AtT.kloadOP tk24 ?_
        refine AtT.kcall rfl rfl ok43 (causesOf_f p hp _) ?_
        rintro v100 V100 hV100 hs100
        refine AtT.kcallP rfl rfl ok42 (bitsOf_f _ (caL_in hp) _ _ hs100) ?_
        rintro _ rfl
        refine AtT.andN rfl trivial rfl rfl rfl rfl (by omega) (by show btL (caL p) < _; have : btL (caL p) < 32768 := hcb; omega) (by decide) (A := z) (B := cbN p) ?_
        refine AtT.kneI ?_
        refine AtT.setT (d := 103) rfl (((mt_val z p).2 hm)) ?_
        refine AtT.done ?_
        refine At.nrm ?_
        refine At.condT rfl rfl ?_
        refine At.nrm ?_
        refine At.ktext (.q 0 (.q 1 (.q 2 .done))) ?_
        refine AtT.kmove ?_
        first | refine AtT.kadd ?_ | refine AtT.kaddW ?_
        refine AtT.kassign ?_
        refine AtT.done ?_
        refine At.nrm ?_
        exact At.meetG () hV100 ⟨rfl, rfl, rfl, rfl, rfl, rfl, rfl, rfl, rfl, ivs (by rw [flN_take hz, if_pos hm]; simp), rfl, trivial⟩ Pt.auto
      · refine At.ktext (.q 0 (.q 1 (.n false 2 (.n false 3 (.q 4 (.q 5 .done)))))) ?_
        refine AtT.kmove ?_
        first | refine AtT.kloadOA tk24 ?_ | refine AtT.kloadA tk24 ?_ | refine AtT.kloadOP tk24 ?_
        refine AtT.kcall rfl rfl ok43 (causesOf_f p hp _) ?_
        rintro v100 V100 hV100 hs100
        refine AtT.kcallP rfl rfl ok42 (bitsOf_f _ (caL_in hp) _ _ hs100) ?_
        rintro _ rfl
        refine AtT.andN rfl trivial rfl rfl rfl rfl (by omega) (by show btL (caL p) < _; have : btL (caL p) < 32768 := hcb; omega) (by decide) (A := z) (B := cbN p) ?_
        refine AtT.kneI ?_
        refine AtT.setF (d := 103) rfl ((fun h => hm ((mt_val z p).1 h))) ?_
        refine AtT.done ?_
        refine At.nrm ?_
        refine At.condF rfl rfl ?_
        refine At.nrm ?_
        exact At.meetG () hV100 ⟨rfl, rfl, rfl, rfl, rfl, rfl, rfl, rfl, rfl, ivs (by rw [flN_take hz, if_neg hm]; simp), rfl, trivial⟩ Pt.auto
    rintro _ V3 ks' O' hV3 hk hO hl4
    subst hk hO
    refine At.nrm ?_
    refine At.ktext (.q 0 (.q 1 (.q 2 .done))) ?_
    refine AtT.kmove ?_
    first | refine AtT.kadd ?_ | refine AtT.kaddW ?_
    refine AtT.kassign ?_
    refine AtT.done ?_
    refine At.nrm ?_
    refine At.round (k + 1) ?_ ?_ ?_ ?_
    · show L56.length - (k + 1) < L56.length - k; omega
    · exact ⟨hVV.trans hV3, by omega⟩
    · exact ⟨rfl, rfl, rfl, rfl, rfl, rfl, rfl, rfl, rfl, rfl, ivs (by omega), trivial⟩
    · exact Pt.auto
  · obtain rfl : k = L56.length := by omega
    rw [List.take_length]
    have htl := tN_le L56 cN
    have hfl := flN_le L56 p
    have hu61' := hu61.le hVV
    refine At.nrm ?_
    refine At.cutG (ι := Unit) (fun _ => [(10, iv cN), (16, u61), (18, iv (tN L56 cN)), (140, .bool false)]) (fun _ => []) (fun _ V'' => V'' = V') ?_ ?_
    · by_cases c0 : tN L56 cN = 0
      · have hb : bmN L56 cN = 0 := by unfold bmN; rw [if_pos c0]
        refine At.ktext (.q 0 (.q 1 (.q 2 (.q 3 (.q 4 (.q 5 (.q 6 (.q 7 (.q 8 (.q 9 (.q 10 (.q 11 (.q 12 (.q 13 (.q 14 (.q 15 (.q 16 (.q 17 (.q 18 (.q 19 (.q 20 (.q 21 (.q 22 (.q 23 (.q 24 (.q 25 (.q 26 (.q 27 (.q 28 (.q 29 (.q 30 (.q 31 (.q 32 (.q 33 (.q 34 .done))))))))))))))))))))))))))))))))))) ?_
        refine AtT.kmove ?_
        refine AtT.kneI ?_
        refine AtT.setF (d := 107) rfl ((by simp)) ?_
        refine AtT.kmove ?_
        all_goals (first | refine AtT.kL 108 ?_ | refine AtT.pcase (d := 108) rfl (fun hg108 => ?_) (fun hg108 => ?_) | refine AtT.bcase (d := 108) rfl (fun hg108 => ?_) (fun hg108 => ?_))
        all_goals (first | refine AtT.kpass ?_ | refine AtT.kpassU ?_ | ((refine AtT.kmove ?_)))
        all_goals (first | refine AtT.kpass ?_ | refine AtT.kpassU ?_ | ((refine AtT.kneI ?_)))
        all_goals (refine AtT.setF (d := 110) rfl ((by simp)) ?_)
        all_goals (refine AtT.kpick ?_)
        all_goals (refine AtT.kmove ?_)
        all_goals (first | refine AtT.kL 112 ?_ | refine AtT.pcase (d := 112) rfl (fun hg112 => ?_) (fun hg112 => ?_) | refine AtT.bcase (d := 112) rfl (fun hg112 => ?_) (fun hg112 => ?_))
        all_goals (first | refine AtT.kpass ?_ | refine AtT.kpassU ?_ | ((refine AtT.kmove ?_)))
        all_goals (first | refine AtT.kpass ?_ | refine AtT.kpassU ?_ | ((refine AtT.kmove ?_)))
        all_goals (first | refine AtT.kpass ?_ | refine AtT.kpassU ?_ | ((refine AtT.kneI ?_)))
        all_goals (refine AtT.setF (d := 115) rfl ((by simp)) ?_)
        all_goals (refine AtT.kpick ?_)
        all_goals (refine AtT.kmove ?_)
        all_goals (first | refine AtT.kL 117 ?_ | refine AtT.pcase (d := 117) rfl (fun hg117 => ?_) (fun hg117 => ?_) | refine AtT.bcase (d := 117) rfl (fun hg117 => ?_) (fun hg117 => ?_))
        all_goals (first | refine AtT.kpass ?_ | refine AtT.kpassU ?_ | ((refine AtT.kmove ?_)))
        all_goals (first | refine AtT.kpass ?_ | refine AtT.kpassU ?_ | ((refine AtT.keqI ?_)))
        all_goals (refine AtT.setF (d := 119) rfl ((by rw [hb]; decide)) ?_)
        all_goals (first | refine AtT.kpass ?_ | refine AtT.kpassU ?_ | ((refine AtT.kmove ?_)))
        all_goals (first | refine AtT.kpass ?_ | refine AtT.kpassU ?_ | ((refine AtT.kmove ?_)))
        all_goals (first | refine AtT.kpass ?_ | refine AtT.kpassU ?_ | ((first | refine AtT.klenS Try.underlying39 ?_ | refine AtT.klenR Try.underlying39 ?_)))
        all_goals (first | refine AtT.kpass ?_ | refine AtT.kpassU ?_ | ((refine AtT.keqI ?_)))
        all_goals (refine AtT.setF (d := 123) rfl ((by omega)) ?_)
        all_goals (first | refine AtT.kpass ?_ | refine AtT.kpassU ?_ | ((refine AtT.neB rfl ⟨_, _, rfl, rfl, rfl⟩ Try.underlying4 rfl rfl (by decide) ?_)))
        all_goals (refine AtT.setB (d := 124) rfl ((show (false != false) = false from rfl)) ?_)
        all_goals (refine AtT.kpick ?_)
        all_goals (refine AtT.kmove ?_)
        all_goals (first | refine AtT.kL 126 ?_ | refine AtT.pcase (d := 126) rfl (fun hg126 => ?_) (fun hg126 => ?_) | refine AtT.bcase (d := 126) rfl (fun hg126 => ?_) (fun hg126 => ?_))
        all_goals (first | refine AtT.kpass ?_ | refine AtT.kpassU ?_ | ((refine AtT.kmove ?_)))
        all_goals (first | refine AtT.kpass ?_ | refine AtT.kpassU ?_ | ((refine AtT.keqI ?_)))
        all_goals (refine AtT.setT (d := 128) rfl (hb) ?_)
        all_goals (first | refine AtT.kpass ?_ | refine AtT.kpassU ?_ | ((refine AtT.kmove ?_)))
        all_goals (first | refine AtT.kpass ?_ | refine AtT.kpassU ?_ | ((refine AtT.keqI ?_)))
        all_goals (refine AtT.setT (d := 130) rfl ((by omega)) ?_)
        all_goals (first | refine AtT.kpass ?_ | refine AtT.kpassU ?_ | ((refine AtT.neB rfl ⟨_, _, rfl, rfl, rfl⟩ Try.underlying4 rfl rfl (by decide) ?_)))
        all_goals (refine AtT.setB (d := 131) rfl ((show (true != true) = false from rfl)) ?_)
        all_goals (refine AtT.kpick ?_)
        all_goals (refine AtT.kmove ?_)
        all_goals (first | refine AtT.kL 133 ?_ | refine AtT.pcase (d := 133) rfl (fun hg133 => ?_) (fun hg133 => ?_) | refine AtT.bcase (d := 133) rfl (fun hg133 => ?_) (fun hg133 => ?_))
        all_goals (first | refine AtT.kpass ?_ | refine AtT.kpassU ?_ | ((refine AtT.kmove ?_)))
        all_goals (first | refine AtT.kpass ?_ | refine AtT.kpassU ?_ | ((refine AtT.klss ?_)))
        all_goals (refine AtT.setF (d := 135) rfl ((by omega)) ?_)
        all_goals (refine AtT.kpick ?_)
        all_goals (refine AtT.kmove ?_)
        all_goals (first | refine AtT.kL 137 ?_ | refine AtT.pcase (d := 137) rfl (fun hg137 => ?_) (fun hg137 => ?_) | refine AtT.bcase (d := 137) rfl (fun hg137 => ?_) (fun hg137 => ?_))
        all_goals (first | refine AtT.kpass ?_ | refine AtT.kpassU ?_ | ((refine AtT.kmove ?_)))
        all_goals (first | refine AtT.kpass ?_ | refine AtT.kpassU ?_ | ((refine AtT.kgtr ?_)))
        all_goals (refine AtT.setF (d := 139) rfl ((by omega)) ?_)
        all_goals (refine AtT.kpick ?_)
        all_goals refine AtT.done ?_
        all_goals (refine At.nrm ?_)
        exact At.meetG () rfl ⟨rfl, rfl, rfl, rfl, trivial⟩ Pt.auto
      · by_cases c1 : tN L56 cN = L56.length
        · have hb : bmN L56 cN = 2 := by unfold bmN; rw [if_neg c0, if_pos c1]
          refine At.ktext (.q 0 (.q 1 (.q 2 (.q 3 (.q 4 (.q 5 (.q 6 (.q 7 (.q 8 (.q 9 (.q 10 (.q 11 (.q 12 (.q 13 (.q 14 (.q 15 (.q 16 (.q 17 (.q 18 (.q 19 (.q 20 (.q 21 (.q 22 (.q 23 (.q 24 (.q 25 (.q 26 (.q 27 (.q 28 (.q 29 (.q 30 (.q 31 (.q 32 (.q 33 (.q 34 .done))))))))))))))))))))))))))))))))))) ?_
          refine AtT.kmove ?_
          refine AtT.kneI ?_
          refine AtT.setF (d := 107) rfl ((by simp)) ?_
          refine AtT.kmove ?_
          all_goals (first | refine AtT.kL 108 ?_ | refine AtT.pcase (d := 108) rfl (fun hg108 => ?_) (fun hg108 => ?_) | refine AtT.bcase (d := 108) rfl (fun hg108 => ?_) (fun hg108 => ?_))
          all_goals (first | refine AtT.kpass ?_ | refine AtT.kpassU ?_ | ((refine AtT.kmove ?_)))
          all_goals (first | refine AtT.kpass ?_ | refine AtT.kpassU ?_ | ((refine AtT.kneI ?_)))
          all_goals (refine AtT.setF (d := 110) rfl ((by simp)) ?_)
          all_goals (refine AtT.kpick ?_)
          all_goals (refine AtT.kmove ?_)
          all_goals (first | refine AtT.kL 112 ?_ | refine AtT.pcase (d := 112) rfl (fun hg112 => ?_) (fun hg112 => ?_) | refine AtT.bcase (d := 112) rfl (fun hg112 => ?_) (fun hg112 => ?_))
          all_goals (first | refine AtT.kpass ?_ | refine AtT.kpassU ?_ | ((refine AtT.kmove ?_)))
          all_goals (first | refine AtT.kpass ?_ | refine AtT.kpassU ?_ | ((refine AtT.kmove ?_)))
          all_goals (first | refine AtT.kpass ?_ | refine AtT.kpassU ?_ | ((refine AtT.kneI ?_)))
          all_goals (refine AtT.setF (d := 115) rfl ((by simp)) ?_)
          all_goals (refine AtT.kpick ?_)
          all_goals (refine AtT.kmove ?_)
          all_goals (first | refine AtT.kL 117 ?_ | refine AtT.pcase (d := 117) rfl (fun hg117 => ?_) (fun hg117 => ?_) | refine AtT.bcase (d := 117) rfl (fun hg117 => ?_) (fun hg117 => ?_))
          all_goals (first | refine AtT.kpass ?_ | refine AtT.kpassU ?_ | ((refine AtT.kmove ?_)))
          all_goals (first | refine AtT.kpass ?_ | refine AtT.kpassU ?_ | ((refine AtT.keqI ?_)))
          all_goals (refine AtT.setT (d := 119) rfl (hb) ?_)
          all_goals (first | refine AtT.kpass ?_ | refine AtT.kpassU ?_ | ((refine AtT.kmove ?_)))
          all_goals (first | refine AtT.kpass ?_ | refine AtT.kpassU ?_ | ((refine AtT.kmove ?_)))
          all_goals (first | refine AtT.kpass ?_ | refine AtT.kpassU ?_ | ((first | refine AtT.klenS Try.underlying39 ?_ | refine AtT.klenR Try.underlying39 ?_)))
          all_goals (first | refine AtT.kpass ?_ | refine AtT.kpassU ?_ | ((refine AtT.keqI ?_)))
          all_goals (refine AtT.setT (d := 123) rfl ((by omega)) ?_)
          all_goals (first | refine AtT.kpass ?_ | refine AtT.kpassU ?_ | ((refine AtT.neB rfl ⟨_, _, rfl, rfl, rfl⟩ Try.underlying4 rfl rfl (by decide) ?_)))
          all_goals (refine AtT.setB (d := 124) rfl ((show (true != true) = false from rfl)) ?_)
          all_goals (refine AtT.kpick ?_)
          all_goals (refine AtT.kmove ?_)
          all_goals (first | refine AtT.kL 126 ?_ | refine AtT.pcase (d := 126) rfl (fun hg126 => ?_) (fun hg126 => ?_) | refine AtT.bcase (d := 126) rfl (fun hg126 => ?_) (fun hg126 => ?_))
          all_goals (first | refine AtT.kpass ?_ | refine AtT.kpassU ?_ | ((refine AtT.kmove ?_)))
          all_goals (first | refine AtT.kpass ?_ | refine AtT.kpassU ?_ | ((refine AtT.keqI ?_)))
          all_goals (refine AtT.setF (d := 128) rfl ((by rw [hb]; decide)) ?_)
          all_goals (first | refine AtT.kpass ?_ | refine AtT.kpassU ?_ | ((refine AtT.kmove ?_)))
          all_goals (first | refine AtT.kpass ?_ | refine AtT.kpassU ?_ | ((refine AtT.keqI ?_)))
          all_goals (refine AtT.setF (d := 130) rfl ((by omega)) ?_)
          all_goals (first | refine AtT.kpass ?_ | refine AtT.kpassU ?_ | ((refine AtT.neB rfl ⟨_, _, rfl, rfl, rfl⟩ Try.underlying4 rfl rfl (by decide) ?_)))
          all_goals (refine AtT.setB (d := 131) rfl ((show (false != false) = false from rfl)) ?_)
          all_goals (refine AtT.kpick ?_)
          all_goals (refine AtT.kmove ?_)
          all_goals (first | refine AtT.kL 133 ?_ | refine AtT.pcase (d := 133) rfl (fun hg133 => ?_) (fun hg133 => ?_) | refine AtT.bcase (d := 133) rfl (fun hg133 => ?_) (fun hg133 => ?_))
          all_goals (first | refine AtT.kpass ?_ | refine AtT.kpassU ?_ | ((refine AtT.kmove ?_)))
          all_goals (first | refine AtT.kpass ?_ | refine AtT.kpassU ?_ | ((refine AtT.klss ?_)))
          all_goals (refine AtT.setF (d := 135) rfl ((by omega)) ?_)
          all_goals (refine AtT.kpick ?_)
          all_goals (refine AtT.kmove ?_)
          all_goals (first | refine AtT.kL 137 ?_ | refine AtT.pcase (d := 137) rfl (fun hg137 => ?_) (fun hg137 => ?_) | refine AtT.bcase (d := 137) rfl (fun hg137 => ?_) (fun hg137 => ?_))
          all_goals (first | refine AtT.kpass ?_ | refine AtT.kpassU ?_ | ((refine AtT.kmove ?_)))
          all_goals (first | refine AtT.kpass ?_ | refine AtT.kpassU ?_ | ((refine AtT.kgtr ?_)))
          all_goals (refine AtT.setF (d := 139) rfl ((by omega)) ?_)
          all_goals (refine AtT.kpick ?_)
          all_goals refine AtT.done ?_
          all_goals (refine At.nrm ?_)
          exact At.meetG () rfl ⟨rfl, rfl, rfl, rfl, trivial⟩ Pt.auto
        · have hb : bmN L56 cN = 1 := by unfold bmN; rw [if_neg c0, if_neg c1]
          refine At.ktext (.q 0 (.q 1 (.q 2 (.q 3 (.q 4 (.q 5 (.q 6 (.q 7 (.q 8 (.q 9 (.q 10 (.q 11 (.q 12 (.q 13 (.q 14 (.q 15 (.q 16 (.q 17 (.q 18 (.q 19 (.q 20 (.q 21 (.q 22 (.q 23 (.q 24 (.q 25 (.q 26 (.q 27 (.q 28 (.q 29 (.q 30 (.q 31 (.q 32 (.q 33 (.q 34 .done))))))))))))))))))))))))))))))))))) ?_
          refine AtT.kmove ?_
          refine AtT.kneI ?_
          refine AtT.setF (d := 107) rfl ((by simp)) ?_
          refine AtT.kmove ?_
          all_goals (first | refine AtT.kL 108 ?_ | refine AtT.pcase (d := 108) rfl (fun hg108 => ?_) (fun hg108 => ?_) | refine AtT.bcase (d := 108) rfl (fun hg108 => ?_) (fun hg108 => ?_))
          all_goals (first | refine AtT.kpass ?_ | refine AtT.kpassU ?_ | ((refine AtT.kmove ?_)))
          all_goals (first | refine AtT.kpass ?_ | refine AtT.kpassU ?_ | ((refine AtT.kneI ?_)))
          all_goals (refine AtT.setF (d := 110) rfl ((by simp)) ?_)
          all_goals (refine AtT.kpick ?_)
          all_goals (refine AtT.kmove ?_)
          all_goals (first | refine AtT.kL 112 ?_ | refine AtT.pcase (d := 112) rfl (fun hg112 => ?_) (fun hg112 => ?_) | refine AtT.bcase (d := 112) rfl (fun hg112 => ?_) (fun hg112 => ?_))
          all_goals (first | refine AtT.kpass ?_ | refine AtT.kpassU ?_ | ((refine AtT.kmove ?_)))
          all_goals (first | refine AtT.kpass ?_ | refine AtT.kpassU ?_ | ((refine AtT.kmove ?_)))
          all_goals (first | refine AtT.kpass ?_ | refine AtT.kpassU ?_ | ((refine AtT.kneI ?_)))
          all_goals (refine AtT.setF (d := 115) rfl ((by simp)) ?_)
          all_goals (refine AtT.kpick ?_)
          all_goals (refine AtT.kmove ?_)
          all_goals (first | refine AtT.kL 117 ?_ | refine AtT.pcase (d := 117) rfl (fun hg117 => ?_) (fun hg117 => ?_) | refine AtT.bcase (d := 117) rfl (fun hg117 => ?_) (fun hg117 => ?_))
          all_goals (first | refine AtT.kpass ?_ | refine AtT.kpassU ?_ | ((refine AtT.kmove ?_)))
          all_goals (first | refine AtT.kpass ?_ | refine AtT.kpassU ?_ | ((refine AtT.keqI ?_)))
          all_goals (refine AtT.setF (d := 119) rfl ((by rw [hb]; decide)) ?_)
          all_goals (first | refine AtT.kpass ?_ | refine AtT.kpassU ?_ | ((refine AtT.kmove ?_)))
          all_goals (first | refine AtT.kpass ?_ | refine AtT.kpassU ?_ | ((refine AtT.kmove ?_)))
          all_goals (first | refine AtT.kpass ?_ | refine AtT.kpassU ?_ | ((first | refine AtT.klenS Try.underlying39 ?_ | refine AtT.klenR Try.underlying39 ?_)))
          all_goals (first | refine AtT.kpass ?_ | refine AtT.kpassU ?_ | ((refine AtT.keqI ?_)))
          all_goals (refine AtT.setF (d := 123) rfl ((by omega)) ?_)
          all_goals (first | refine AtT.kpass ?_ | refine AtT.kpassU ?_ | ((refine AtT.neB rfl ⟨_, _, rfl, rfl, rfl⟩ Try.underlying4 rfl rfl (by decide) ?_)))
          all_goals (refine AtT.setB (d := 124) rfl ((show (false != false) = false from rfl)) ?_)
          all_goals (refine AtT.kpick ?_)
          all_goals (refine AtT.kmove ?_)
          all_goals (first | refine AtT.kL 126 ?_ | refine AtT.pcase (d := 126) rfl (fun hg126 => ?_) (fun hg126 => ?_) | refine AtT.bcase (d := 126) rfl (fun hg126 => ?_) (fun hg126 => ?_))
          all_goals (first | refine AtT.kpass ?_ | refine AtT.kpassU ?_ | ((refine AtT.kmove ?_)))
          all_goals (first | refine AtT.kpass ?_ | refine AtT.kpassU ?_ | ((refine AtT.keqI ?_)))
          all_goals (refine AtT.setF (d := 128) rfl ((by rw [hb]; decide)) ?_)
          all_goals (first | refine AtT.kpass ?_ | refine AtT.kpassU ?_ | ((refine AtT.kmove ?_)))
          all_goals (first | refine AtT.kpass ?_ | refine AtT.kpassU ?_ | ((refine AtT.keqI ?_)))
          all_goals (refine AtT.setF (d := 130) rfl ((by omega)) ?_)
          all_goals (first | refine AtT.kpass ?_ | refine AtT.kpassU ?_ | ((refine AtT.neB rfl ⟨_, _, rfl, rfl, rfl⟩ Try.underlying4 rfl rfl (by decide) ?_)))
          all_goals (refine AtT.setB (d := 131) rfl ((show (false != false) = false from rfl)) ?_)
          all_goals (refine AtT.kpick ?_)
          all_goals (refine AtT.kmove ?_)
          all_goals (first | refine AtT.kL 133 ?_ | refine AtT.pcase (d := 133) rfl (fun hg133 => ?_) (fun hg133 => ?_) | refine AtT.bcase (d := 133) rfl (fun hg133 => ?_) (fun hg133 => ?_))
          all_goals (first | refine AtT.kpass ?_ | refine AtT.kpassU ?_ | ((refine AtT.kmove ?_)))
          all_goals (first | refine AtT.kpass ?_ | refine AtT.kpassU ?_ | ((refine AtT.klss ?_)))
          all_goals (refine AtT.setF (d := 135) rfl ((by omega)) ?_)
          all_goals (refine AtT.kpick ?_)
          all_goals (refine AtT.kmove ?_)
          all_goals (first | refine AtT.kL 137 ?_ | refine AtT.pcase (d := 137) rfl (fun hg137 => ?_) (fun hg137 => ?_) | refine AtT.bcase (d := 137) rfl (fun hg137 => ?_) (fun hg137 => ?_))
          all_goals (first | refine AtT.kpass ?_ | refine AtT.kpassU ?_ | ((refine AtT.kmove ?_)))
          all_goals (first | refine AtT.kpass ?_ | refine AtT.kpassU ?_ | ((refine AtT.kgtr ?_)))
          all_goals (refine AtT.setF (d := 139) rfl ((by omega)) ?_)
          all_goals (refine AtT.kpick ?_)
          all_goals refine AtT.done ?_
          all_goals (refine At.nrm ?_)
          exact At.meetG () rfl ⟨rfl, rfl, rfl, rfl, trivial⟩ Pt.auto
    rintro _ V3 ks' O' rfl hk hO hl4
    subst hk hO
    refine At.condF rfl rfl ?_
    have hshr : clA ts >>> cN < 32768 := Nat.lt_of_le_of_lt (Nat.shiftRight_le _ _) hcl
    refine At.nrm ?_
    by_cases hb : (clA ts).testBit cN = true
    · have h0 : tN L56 cN = 0 := tN_zero.2 fun z hz => by
        have hT := (((als_alt g0 hal56).mem z).1 hz).1
        cases d : z.testBit cN with
        | false => rfl
        | true => rw [ext_cl hT d] at hb; cases hb
      refine At.ktext (.q 0 (.n false 1 (.q 2 (.q 3 (.q 4 (.q 5 (.q 6 (.q 7 (.q 8 (.q 9 (.q 10 (.n false 11 (.q 12 (.q 13 .done)))))))))))))) ?_
      refine AtT.kmove ?_
      refine AtT.kcallP rfl rfl ok42 (bitsOf_f (clR ts) (clR_in g0) _ _ hu61') ?_
      rintro _ rfl; rw [clR_bt g0]
      refine AtT.kmove ?_
      refine AtT.shrN rfl trivial rfl rfl rfl rfl (by omega) (by decide) (A := clA ts) (N := cN) ?_
      refine AtT.andN rfl trivial rfl rfl rfl rfl (by omega) (by decide) (by decide) (A := clA ts >>> cN) (B := 1) ?_
      refine AtT.keqI ?_
      refine AtT.setF (d := 146) rfl ((by rw [bit_val, if_pos hb]; decide)) ?_
      refine AtT.kmove ?_
      all_goals (first | refine AtT.kL 147 ?_ | refine AtT.pcase (d := 147) rfl (fun hg147 => ?_) (fun hg147 => ?_) | refine AtT.bcase (d := 147) rfl (fun hg147 => ?_) (fun hg147 => ?_))
      all_goals (first | refine AtT.kpass ?_ | refine AtT.kpassU ?_ | ((refine AtT.kmove ?_)))
      all_goals (first | refine AtT.kpass ?_ | refine AtT.kpassU ?_ | ((refine AtT.keqI ?_)))
      all_goals (refine AtT.setT (d := 149) rfl ((by omega)) ?_)
      all_goals (refine AtT.kpick ?_)
      all_goals (refine AtT.kmove ?_)
      all_goals (first | refine AtT.kL 151 ?_ | refine AtT.pcase (d := 151) rfl (fun hg151 => ?_) (fun hg151 => ?_) | refine AtT.bcase (d := 151) rfl (fun hg151 => ?_) (fun hg151 => ?_))
      all_goals (first | refine AtT.kpassN ?_ | refine AtT.kpassNU ?_ | ((refine AtT.kcallP rfl rfl ok16 (works_f _) ?_) ; (rintro _ rfl)))
      all_goals (refine AtT.kpick ?_)
      all_goals (refine AtT.kassign ?_)
      all_goals refine AtT.done ?_
      all_goals (refine At.nrm ?_)
      exact At.ret1 rfl (.tmp rfl) rfl
    · refine At.ktext (.q 0 (.n false 1 (.q 2 (.q 3 (.q 4 (.q 5 (.q 6 (.q 7 (.q 8 (.q 9 (.q 10 (.n false 11 (.q 12 (.q 13 .done)))))))))))))) ?_
      refine AtT.kmove ?_
      refine AtT.kcallP rfl rfl ok42 (bitsOf_f (clR ts) (clR_in g0) _ _ hu61') ?_
      rintro _ rfl; rw [clR_bt g0]
      refine AtT.kmove ?_
      refine AtT.shrN rfl trivial rfl rfl rfl rfl (by omega) (by decide) (A := clA ts) (N := cN) ?_
      refine AtT.andN rfl trivial rfl rfl rfl rfl (by omega) (by decide) (by decide) (A := clA ts >>> cN) (B := 1) ?_
      refine AtT.keqI ?_
      refine AtT.setT (d := 146) rfl ((by rw [bit_val, if_neg hb])) ?_
      refine AtT.kmove ?_
      all_goals (first | refine AtT.kL 147 ?_ | refine AtT.pcase (d := 147) rfl (fun hg147 => ?_) (fun hg147 => ?_) | refine AtT.bcase (d := 147) rfl (fun hg147 => ?_) (fun hg147 => ?_))
      all_goals (first | refine AtT.kpass ?_ | refine AtT.kpassU ?_ | ((refine AtT.kmove ?_)))
      all_goals (first | refine AtT.kpass ?_ | refine AtT.kpassU ?_ | ((refine AtT.keqI ?_)))
      all_goals (refine AtT.kpick ?_)
      all_goals (refine AtT.kmove ?_)
      all_goals (first | refine AtT.kL 151 ?_ | refine AtT.pcase (d := 151) rfl (fun hg151 => ?_) (fun hg151 => ?_) | refine AtT.bcase (d := 151) rfl (fun hg151 => ?_) (fun hg151 => ?_))
      all_goals (first | refine AtT.kpassN ?_ | refine AtT.kpassNU ?_ | ((refine AtT.kcallP rfl rfl ok16 (works_f _) ?_) ; (rintro _ rfl)))
      all_goals (refine AtT.kpick ?_)
      all_goals (refine AtT.kassign ?_)
      all_goals refine AtT.done ?_
      all_goals (refine At.nrm ?_)
      exact At.ret1 rfl (.tmp rfl) rfl
end Go.Proofs.Ytfcpmblmklibjaa
set_option linter.unusedVariables false
namespace Go.Bl
open Go.Gl Go.Lw
theorem fil_take {P : Nat → Bool} {L : List Nat} {k z : Nat} (h : L[k]? = some z) : (L.take (k + 1)).filter P = (L.take k).filter P ++ (if P z = true then [z] else []) := by
  rw [take_snoc' h, List.filter_append]
  by_cases c : P z = true
  · simp [c]
  · simp [c]
theorem mt_dec (x c : Nat) : decide (((x &&& c : Nat) : Int) ≠ 0) = mtB x c := by
  unfold mtB
  rw [decide_eq_decide]
  omega
end Go.Bl
namespace Go.Proofs.Ytfcpmblmklibjaa
open Go.Lw Go.Gl Go.Bl Go.RowKit
theorem SL.of {V : View} {v : Value} {fl : List Nat} (qs : List (Option Addr × Nat × Nat)) (hq : Sl V sle 1 v qs) (hl : qs.length = fl.length) (h : ∀ (i : Nat) (q : Option Addr × Nat × Nat) (x : Nat), qs[i]? = some q → fl[i]? = some x → SlI V (.slice q.1 q.2.1 q.2.2) (bitL x 15)) : SL V v (bL fl) :=
  ⟨qs, hq, by rw [bL_len, hl], fun i q l h1 h2 => by
    unfold bL at h2
    rw [List.getElem?_map] at h2
    obtain ⟨x, hx, rfl⟩ := Option.map_eq_some_iff.1 h2
    exact h i q x h1 hx⟩

set_option maxHeartbeats 3200000 in
/-- What is learned of a panel that is boiled. -/
theorem boilLearned_f (ts : List Tq) (x : Int) (f : Bool) (hx : 0 ≤ x ∧ x ≤ 255) (V : View) (v : Value) (hs : Sl V tqe 4 v ts) : Fnc Try.prog 10 [v, .int .u8 x, .bool f] V fun r _ => r = .bool true := by
  obtain ⟨d1, d2, d3, hf5, hf25⟩ := digs hx
  obtain ⟨a, c, rfl, k1, k2, _⟩ := id hs
  clear k1 k2
  obtain ⟨p, e1, e2, e3⟩ : ∃ p : Pq, x.tmod 5 = p.m ∧ (x.tdiv 5).tmod 5 = p.o ∧ (x.tdiv 25).tmod 5 = p.h := ⟨⟨_, _, _⟩, rfl, rfl, rfl⟩
  have hp : sndB p = true := decide_eq_true (by omega)
  have hcb := cbN_lt hp
  have hxl : (ts ++ [(⟨p, f⟩ : Tq)]).length = ts.length + 1 := by simp
  refine fn_of Try.func10 rfl Try.ntmps10 (Nat.le_of_ble_eq_true rfl) ?_
  intro w0 hw0
  refine At.nrm ?_
  refine At.ktext (.q 0 .done) ?_
  refine AtT.kassign ?_
  refine AtT.done ?_
  refine At.nrm ?_
  by_cases g0 : trE ts = 0
  rotate_left
  · refine At.ktext (.q 0 (.n false 1 (.q 2 (.q 3 (.q 4 (.q 5 (.q 6 (.q 7 .done)))))))) ?_
    refine AtT.kmove ?_
    refine AtT.kcallP rfl rfl ok37 (fine_f ts _ _ hs) ?_
    rintro _ rfl
    refine AtT.setF (d := 17) rfl (g0) ?_
    refine AtT.knot ?_
    refine AtT.setB (d := 18) rfl ((show (!false) = true from rfl)) ?_
    refine AtT.kmove ?_
    all_goals (first | refine AtT.kL 19 ?_ | refine AtT.pcase (d := 19) rfl (fun hg19 => ?_) (fun hg19 => ?_) | refine AtT.bcase (d := 19) rfl (fun hg19 => ?_) (fun hg19 => ?_))
    all_goals (first | refine AtT.kpass ?_ | refine AtT.kpassU ?_ | ((refine AtT.kmove ?_)))
    all_goals (first | refine AtT.kpass ?_ | refine AtT.kpassU ?_ | ((first | refine AtT.klenS Try.underlying22 ?_ | refine AtT.klenR Try.underlying22 ?_)))
    all_goals (first | refine AtT.kpass ?_ | refine AtT.kpassU ?_ | ((refine AtT.kgeq ?_)))
    all_goals (refine AtT.kpick ?_)
    all_goals refine AtT.done ?_
    all_goals (refine At.nrm ?_)
    refine At.condT rfl rfl ?_
    refine At.nrm ?_
    refine At.ktext (.n false 0 (.q 1 .done)) ?_
    refine AtT.kcallP rfl rfl ok16 (works_f _) ?_
    rintro _ rfl
    refine AtT.kassign ?_
    refine AtT.done ?_
    refine At.nrm ?_
    exact At.ret1 rfl (.tmp rfl) rfl
  obtain ⟨h16, ht⟩ := trE_ok g0
  by_cases g2 : 16 ≤ (ts.length : Int)
  · refine At.ktext (.q 0 (.n false 1 (.q 2 (.q 3 (.q 4 (.q 5 (.q 6 (.q 7 .done)))))))) ?_
    refine AtT.kmove ?_
    refine AtT.kcallP rfl rfl ok37 (fine_f ts _ _ hs) ?_
    rintro _ rfl
    refine AtT.setT (d := 17) rfl (g0) ?_
    refine AtT.knot ?_
    refine AtT.setB (d := 18) rfl ((show (!true) = false from rfl)) ?_
    refine AtT.kmove ?_
    all_goals (first | refine AtT.kL 19 ?_ | refine AtT.pcase (d := 19) rfl (fun hg19 => ?_) (fun hg19 => ?_) | refine AtT.bcase (d := 19) rfl (fun hg19 => ?_) (fun hg19 => ?_))
    all_goals (first | refine AtT.kpass ?_ | refine AtT.kpassU ?_ | ((refine AtT.kmove ?_)))
    all_goals (first | refine AtT.kpass ?_ | refine AtT.kpassU ?_ | ((first | refine AtT.klenS Try.underlying22 ?_ | refine AtT.klenR Try.underlying22 ?_)))
    all_goals (first | refine AtT.kpass ?_ | refine AtT.kpassU ?_ | ((refine AtT.kgeq ?_)))
    all_goals (refine AtT.setT (d := 22) rfl (g2) ?_)
    all_goals (refine AtT.kpick ?_)
    all_goals refine AtT.done ?_
    all_goals (refine At.nrm ?_)
    refine At.condT rfl rfl ?_
    refine At.nrm ?_
    refine At.ktext (.n false 0 (.q 1 .done)) ?_
    refine AtT.kcallP rfl rfl ok16 (works_f _) ?_
    rintro _ rfl
    refine AtT.kassign ?_
    refine AtT.done ?_
    refine At.nrm ?_
    exact At.ret1 rfl (.tmp rfl) rfl
  refine At.ktext (.q 0 (.n false 1 (.q 2 (.q 3 (.q 4 (.q 5 (.q 6 (.q 7 .done)))))))) ?_
  refine AtT.kmove ?_
  refine AtT.kcallP rfl rfl ok37 (fine_f ts _ _ hs) ?_
  rintro _ rfl
  refine AtT.setT (d := 17) rfl (g0) ?_
  refine AtT.knot ?_
  refine AtT.setB (d := 18) rfl ((show (!true) = false from rfl)) ?_
  refine AtT.kmove ?_
  all_goals (first | refine AtT.kL 19 ?_ | refine AtT.pcase (d := 19) rfl (fun hg19 => ?_) (fun hg19 => ?_) | refine AtT.bcase (d := 19) rfl (fun hg19 => ?_) (fun hg19 => ?_))
  all_goals (first | refine AtT.kpass ?_ | refine AtT.kpassU ?_ | ((refine AtT.kmove ?_)))
  all_goals (first | refine AtT.kpass ?_ | refine AtT.kpassU ?_ | ((first | refine AtT.klenS Try.underlying22 ?_ | refine AtT.klenR Try.underlying22 ?_)))
  all_goals (first | refine AtT.kpass ?_ | refine AtT.kpassU ?_ | ((refine AtT.kgeq ?_)))
  all_goals (refine AtT.setF (d := 22) rfl (g2) ?_)
  all_goals (refine AtT.kpick ?_)
  all_goals refine AtT.done ?_
  all_goals (refine At.nrm ?_)
  refine At.condF rfl rfl ?_
  have g1 : trE (ts ++ [(⟨p, f⟩ : Tq)]) = 0 := trE_snoc ht (by omega) hp
  refine At.nrm ?_
  refine At.ktext (.q 0 (.q 1 (.q 2 (.q 3 (.q 4 (.q 5 (.q 6 (.q 7 (.q 8 (.q 9 (.q 10 (.n false 11 (.n false 12 (.n true 13 .done)))))))))))))) ?_
  refine AtT.kmove ?_
  refine AtT.kconv un5 Try.underlying3 ?_
  rw [wrap_fit (Fit.of (by omega) (by omega))]
  refine AtT.krem ?_
  rw [e1]
  refine AtT.kmove ?_
  refine AtT.kconv un5 Try.underlying3 ?_
  rw [wrap_fit (Fit.of (by omega) (by omega))]
  refine AtT.kquo ?_
  refine AtT.krem ?_
  rw [e2]
  refine AtT.kmove ?_
  refine AtT.kconv un5 Try.underlying3 ?_
  rw [wrap_fit (Fit.of (by omega) (by omega))]
  refine AtT.kquo ?_
  refine AtT.krem ?_
  rw [e3]
  refine AtT.kcallP rfl rfl ok44 (panelP_f p _) ?_
  rintro _ rfl
  refine AtT.kalloc z24 ?_
  intro b7
  refine AtT.kstoreA tk24 ?_
  refine AtT.done ?_
  refine At.nrm ?_
  by_cases he : alE ts = 0
  rotate_left
  · have he' : alE (ts ++ [(⟨p, f⟩ : Tq)]) ≠ 0 := fun h => by
      obtain ⟨z, hz⟩ := alE_some h
      exact alE_none g0 he z (ext_snoc.1 hz).1
    refine At.ktext (.q 0 (.n false 1 (.q 2 (.q 3 (.q 4 (.q 5 (.q 6 (.q 7 (.q 8 .done))))))))) ?_
    refine AtT.kmove ?_
    refine AtT.kcallP rfl rfl ok38 (sets_no ts g0 he _ _ hs) ?_
    rintro _ rfl
    refine AtT.kmove ?_
    refine AtT.kextract ?_
    refine AtT.kextract ?_
    refine AtT.kextract ?_
    refine AtT.kassign ?_
    refine AtT.kassign ?_
    refine AtT.kassign ?_
    refine AtT.done ?_
    refine At.nrm ?_
    refine At.cutG (ι := Unit) (fun _ => [(9, .bool false), (10, .bool true), (12, .bool false), (13, .bool true)]) (fun _ => []) (fun _ V'' => Le V V'') ?_ ?_
    · refine At.drawC [.blk b7 (LC (pqe p) 24)] (.q 1 (.q 3 (.q 4 (.q 5 (.two 0 (.two 2 (.n false 6 (.n false 7 (.n false 8 (.q 9 (.q 10 (.q 11 (.q 12 (.q 13 (.q 14 (.q 15 .done)))))))))) 6 (.n false 2 (.n false 7 (.n false 8 (.q 9 (.q 10 (.q 11 (.q 12 (.q 13 (.q 14 (.q 15 .done))))))))))) 6 (.n false 0 (.n false 2 (.n false 7 (.n false 8 (.q 9 (.q 10 (.q 11 (.q 12 (.q 13 (.q 14 (.q 15 .done)))))))))))))))) ffm (by kernel_rfl) Pt.auto ?_
      refine AtC.pre (fun hle0 => ?_)
      refine AtC.kq (by (refine AtT.kmove ?_); exact At.knows) ?_
      refine AtC.kq (by (first | refine AtT.kloadOA tk24 ?_ | refine AtT.kloadA tk24 ?_ | refine AtT.kloadOP tk24 ?_); exact At.knows) ?_
      refine AtC.kq (by (refine AtT.kmove ?_); exact At.knows) ?_
      refine AtC.kq (by (refine AtT.kbuild (bd53_0_1 _ _ _ _) ?_); exact At.knows) ?_
      refine AtC.two ?_ ?_
      focus
        refine AtC.nz ?_
        refine AtT.bsliceR0 rfl trivial rfl bs22_0 (by decide) (s := 4) (fun b44 => ?_)
        refine AtC.kgo ?_
        refine AtC.two ?_ ?_
        focus
          refine AtC.nz ?_
          refine AtT.appendRS rfl trivial Try.underlying22 rw53 rfl (by decide) rfl rfl Pick.auto (enc := tqe) (m := ts) (by first | exact hs | exact hs.le (by assumption)) tqe_len (fun _ => rfl) (by unfold maxLen; omega) (by omega) (by decide) (fun a46 c46 => ?_)
          refine AtC.kgo ?_
          rw [Nat.zero_add, List.nil_append]
          refine AtC.nz ?_
          refine AtT.kbsliceG (bs22_1_0 _ _ _ _) ?_
          intro q50 V50 hV50 hq50
          have g50 : Le V V50 := by first | exact hV50 | exact Le.trans (by assumption) hV50
          refine AtC.kgo ?_
          refine AtC.nz ?_
          first | refine AtT.kappend Try.underlying22 rw53 ?_
          intro a51 c51
          refine AtC.kgo ?_
          refine AtC.giveSl (l := ts ++ [(⟨p, f⟩ : Tq)]) tqe_len (flat_snoc _ _ _).symm hxl.symm Pick.auto (fun V51 hV51 hs51 => ?_)
          have hVV51 : Le V V51 := Le.trans (by assumption) hV51
          refine AtC.nz ?_
          refine AtT.kcallP rfl rfl ok38 (sets_no (ts ++ [(⟨p, f⟩ : Tq)]) g1 he' _ _ hs51) ?_
          rintro _ rfl
          refine AtC.kgo ?_
          refine AtC.kq (by (refine AtT.kmove ?_); exact At.knows) ?_
          refine AtC.kq (by (refine AtT.kextract ?_); exact At.knows) ?_
          refine AtC.kq (by (refine AtT.kextract ?_); exact At.knows) ?_
          refine AtC.kq (by (refine AtT.kextract ?_); exact At.knows) ?_
          refine AtC.kq (by (refine AtT.kassign ?_); exact At.knows) ?_
          refine AtC.kq (by (refine AtT.kassign ?_); exact At.knows) ?_
          refine AtC.kq (by (refine AtT.kassign ?_); exact At.knows) ?_
          refine AtC.done ?_
        rotate_right
        focus
          refine AtC.nz ?_
          refine AtT.kbsliceG (bs22_1_0 _ _ _ _) ?_
          intro q50 V50 hV50 hq50
          have g50 : Le V V50 := by first | exact hV50 | exact Le.trans (by assumption) hV50
          refine AtC.kgo ?_
          refine AtC.nz ?_
          refine AtT.appendRS rfl trivial Try.underlying22 rw53 rfl (by decide) rfl rfl Pick.auto (enc := tqe) (m := ts) (by first | exact hs | exact hs.le (by assumption)) tqe_len (fun _ => rfl) (by unfold maxLen; omega) (by omega) (by decide) (fun a46 c46 => ?_)
          refine AtC.kgo ?_
          rw [Nat.zero_add, List.nil_append]
          refine AtC.nz ?_
          first | refine AtT.kappend Try.underlying22 rw53 ?_
          intro a51 c51
          refine AtC.kgo ?_
          refine AtC.giveSl (l := ts ++ [(⟨p, f⟩ : Tq)]) tqe_len (flat_snoc _ _ _).symm hxl.symm Pick.auto (fun V51 hV51 hs51 => ?_)
          have hVV51 : Le V V51 := Le.trans (by assumption) hV51
          refine AtC.nz ?_
          refine AtT.kcallP rfl rfl ok38 (sets_no (ts ++ [(⟨p, f⟩ : Tq)]) g1 he' _ _ hs51) ?_
          rintro _ rfl
          refine AtC.kgo ?_
          refine AtC.kq (by (refine AtT.kmove ?_); exact At.knows) ?_
          refine AtC.kq (by (refine AtT.kextract ?_); exact At.knows) ?_
          refine AtC.kq (by (refine AtT.kextract ?_); exact At.knows) ?_
          refine AtC.kq (by (refine AtT.kextract ?_); exact At.knows) ?_
          refine AtC.kq (by (refine AtT.kassign ?_); exact At.knows) ?_
          refine AtC.kq (by (refine AtT.kassign ?_); exact At.knows) ?_
          refine AtC.kq (by (refine AtT.kassign ?_); exact At.knows) ?_
          refine AtC.done ?_
      rotate_right
      focus
        refine AtC.nz ?_
        refine AtT.kbsliceG (bs22_1_0 _ _ _ _) ?_
        intro q50 V50 hV50 hq50
        have g50 : Le V V50 := by first | exact hV50 | exact Le.trans (by assumption) hV50
        refine AtC.kgo ?_
        refine AtC.nz ?_
        refine AtT.bsliceR0 rfl trivial rfl bs22_0 (by decide) (s := 4) (fun b44 => ?_)
        refine AtC.kgo ?_
        refine AtC.nz ?_
        refine AtT.appendRS rfl trivial Try.underlying22 rw53 rfl (by decide) rfl rfl Pick.auto (enc := tqe) (m := ts) (by first | exact hs | exact hs.le (by assumption)) tqe_len (fun _ => rfl) (by unfold maxLen; omega) (by omega) (by decide) (fun a46 c46 => ?_)
        refine AtC.kgo ?_
        rw [Nat.zero_add, List.nil_append]
        refine AtC.nz ?_
        first | refine AtT.kappend Try.underlying22 rw53 ?_
        intro a51 c51
        refine AtC.kgo ?_
        refine AtC.giveSl (l := ts ++ [(⟨p, f⟩ : Tq)]) tqe_len (flat_snoc _ _ _).symm hxl.symm Pick.auto (fun V51 hV51 hs51 => ?_)
        have hVV51 : Le V V51 := Le.trans (by assumption) hV51
        refine AtC.nz ?_
        refine AtT.kcallP rfl rfl ok38 (sets_no (ts ++ [(⟨p, f⟩ : Tq)]) g1 he' _ _ hs51) ?_
        rintro _ rfl
        refine AtC.kgo ?_
        refine AtC.kq (by (refine AtT.kmove ?_); exact At.knows) ?_
        refine AtC.kq (by (refine AtT.kextract ?_); exact At.knows) ?_
        refine AtC.kq (by (refine AtT.kextract ?_); exact At.knows) ?_
        refine AtC.kq (by (refine AtT.kextract ?_); exact At.knows) ?_
        refine AtC.kq (by (refine AtT.kassign ?_); exact At.knows) ?_
        refine AtC.kq (by (refine AtT.kassign ?_); exact At.knows) ?_
        refine AtC.kq (by (refine AtT.kassign ?_); exact At.knows) ?_
        refine AtC.done ?_
      all_goals (refine At.nrm ?_)
      all_goals (exact At.meetG () hVV51 ⟨rfl, rfl, rfl, rfl, trivial⟩ Pt.auto)
    rintro _ V5 ks' O' hV5 hk hO hl5
    subst hk hO
    refine At.nrm ?_
    refine At.ktext (.q 0 (.q 1 (.q 2 (.q 3 (.q 4 (.q 5 (.q 6 (.q 7 (.q 8 (.q 9 .done)))))))))) ?_
    refine AtT.kmove ?_
    refine AtT.knot ?_
    refine AtT.setB (d := 57) rfl ((show (!true) = false from rfl)) ?_
    refine AtT.kmove ?_
    all_goals (first | refine AtT.kL 58 ?_ | refine AtT.pcase (d := 58) rfl (fun hg58 => ?_) (fun hg58 => ?_) | refine AtT.bcase (d := 58) rfl (fun hg58 => ?_) (fun hg58 => ?_))
    all_goals (first | refine AtT.kpass ?_ | refine AtT.kpassU ?_ | ((refine AtT.kmove ?_)))
    all_goals (first | refine AtT.kpass ?_ | refine AtT.kpassU ?_ | ((refine AtT.knot ?_)))
    all_goals (refine AtT.setB (d := 60) rfl ((show (!true) = false from rfl)) ?_)
    all_goals (refine AtT.kpick ?_)
    all_goals (refine AtT.kmove ?_)
    all_goals (first | refine AtT.kL 62 ?_ | refine AtT.pcase (d := 62) rfl (fun hg62 => ?_) (fun hg62 => ?_) | refine AtT.bcase (d := 62) rfl (fun hg62 => ?_) (fun hg62 => ?_))
    all_goals (first | refine AtT.kpass ?_ | refine AtT.kpassU ?_ | ((refine AtT.kmove ?_)))
    all_goals (first | refine AtT.kpass ?_ | refine AtT.kpassU ?_ | ((refine AtT.knot ?_)))
    all_goals (refine AtT.setB (d := 64) rfl ((show (!false) = true from rfl)) ?_)
    all_goals (refine AtT.kpick ?_)
    all_goals refine AtT.done ?_
    all_goals (refine At.nrm ?_)
    refine At.condT rfl rfl ?_
    refine At.nrm ?_
    refine At.ktext (.q 0 (.q 1 (.q 2 (.q 3 (.q 4 (.q 5 (.q 6 (.q 7 (.q 8 (.n false 9 (.q 10 (.q 11 .done)))))))))))) ?_
    refine AtT.kmove ?_
    refine AtT.kmove ?_
    all_goals (first | refine AtT.kL 67 ?_ | refine AtT.pcase (d := 67) rfl (fun hg67 => ?_) (fun hg67 => ?_) | refine AtT.bcase (d := 67) rfl (fun hg67 => ?_) (fun hg67 => ?_))
    all_goals (first | refine AtT.kpass ?_ | refine AtT.kpassU ?_ | ((refine AtT.kmove ?_)))
    all_goals (refine AtT.kpick ?_)
    all_goals (refine AtT.kmove ?_)
    all_goals (first | refine AtT.kL 70 ?_ | refine AtT.pcase (d := 70) rfl (fun hg70 => ?_) (fun hg70 => ?_) | refine AtT.bcase (d := 70) rfl (fun hg70 => ?_) (fun hg70 => ?_))
    all_goals (first | refine AtT.kpass ?_ | refine AtT.kpassU ?_ | ((refine AtT.kmove ?_)))
    all_goals (first | refine AtT.kpass ?_ | refine AtT.kpassU ?_ | ((refine AtT.knot ?_)))
    all_goals (refine AtT.setB (d := 72) rfl ((show (!false) = true from rfl)) ?_)
    all_goals (refine AtT.kpick ?_)
    all_goals (refine AtT.kmove ?_)
    all_goals (first | refine AtT.kL 74 ?_ | refine AtT.pcase (d := 74) rfl (fun hg74 => ?_) (fun hg74 => ?_) | refine AtT.bcase (d := 74) rfl (fun hg74 => ?_) (fun hg74 => ?_))
    all_goals (first | refine AtT.kpassN ?_ | refine AtT.kpassNU ?_ | ((refine AtT.kcallP rfl rfl ok16 (works_f _) ?_) ; (rintro _ rfl)))
    all_goals (refine AtT.kpick ?_)
    all_goals (refine AtT.kassign ?_)
    all_goals refine AtT.done ?_
    all_goals (refine At.nrm ?_)
    exact At.ret1 rfl (.tmp rfl) rfl
  refine At.ktext (.q 0 (.n false 1 (.q 2 (.q 3 (.q 4 (.q 5 (.q 6 (.q 7 (.q 8 .done))))))))) ?_
  refine AtT.kmove ?_
  refine AtT.kcall rfl rfl ok38 (sets_ok ts he _ _ hs) ?_
  rintro _ V39 hV39 ⟨u, L, rfl, hal, hu⟩
  refine AtT.kmove ?_
  refine AtT.kextract ?_
  refine AtT.kextract ?_
  refine AtT.kextract ?_
  refine AtT.kassign ?_
  refine AtT.kassign ?_
  refine AtT.kassign ?_
  refine AtT.done ?_
  refine At.nrm ?_
  have halt := als_alt g0 hal
  have hlt := als_lt hal
  have hlen := als_len hal
  replace hs := hs.le hV39
  obtain ⟨qs, aq, cq, rfl, hq, hql, hqs⟩ := hu.at
  have hne := als_ne he hal
  obtain ⟨x0, hx0⟩ : ∃ x0, L[0]? = some x0 := by cases L with | nil => exact absurd rfl hne | cons z L => exact ⟨z, rfl⟩
  have hpos : 0 < L.length := (List.getElem?_eq_some_iff.1 hx0).1
  obtain ⟨q0, hq0⟩ : ∃ q0, qs[0]? = some q0 := ⟨_, List.getElem?_eq_getElem (by omega)⟩
  have hs0 := hqs 0 q0 x0 hq0 hx0
  refine At.cutG (ι := Value × Bool × List Nat) (fun g => [(2, .bool f), (7, .pointer (some ⟨b7, 0, none⟩)), (8, .slice aq qs.length cq), (9, .bool true), (10, .bool true), (11, g.1), (12, .bool g.2.1), (13, .bool true)]) (fun _ => [.blk b7 (LC (pqe p) 24)])
    (fun g V'' => Le V39 V'' ∧ ((g.2.1 = true ∧ alE (ts ++ [(⟨p, f⟩ : Tq)]) = 0 ∧ AlS (ts ++ [(⟨p, f⟩ : Tq)]) g.2.2 ∧ SL V'' g.1 (bL g.2.2)) ∨ (g.2.1 = false ∧ alE (ts ++ [(⟨p, f⟩ : Tq)]) ≠ 0))) ?_ ?_
  · by_cases he' : alE (ts ++ [(⟨p, f⟩ : Tq)]) = 0
    · refine At.drawC [.blk b7 (LC (pqe p) 24)] (.q 1 (.q 3 (.q 4 (.q 5 (.two 0 (.two 2 (.n false 6 (.n false 7 (.n false 8 (.q 9 (.q 10 (.q 11 (.q 12 (.q 13 (.q 14 (.q 15 .done)))))))))) 6 (.n false 2 (.n false 7 (.n false 8 (.q 9 (.q 10 (.q 11 (.q 12 (.q 13 (.q 14 (.q 15 .done))))))))))) 6 (.n false 0 (.n false 2 (.n false 7 (.n false 8 (.q 9 (.q 10 (.q 11 (.q 12 (.q 13 (.q 14 (.q 15 .done)))))))))))))))) ffm (by kernel_rfl) Pt.auto ?_
      refine AtC.pre (fun hle0 => ?_)
      refine AtC.kq (by (refine AtT.kmove ?_); exact At.knows) ?_
      refine AtC.kq (by (first | refine AtT.kloadOA tk24 ?_ | refine AtT.kloadA tk24 ?_ | refine AtT.kloadOP tk24 ?_); exact At.knows) ?_
      refine AtC.kq (by (refine AtT.kmove ?_); exact At.knows) ?_
      refine AtC.kq (by (refine AtT.kbuild (bd53_0_1 _ _ _ _) ?_); exact At.knows) ?_
      refine AtC.two ?_ ?_
      focus
        refine AtC.nz ?_
        refine AtT.bsliceR0 rfl trivial rfl bs22_0 (by decide) (s := 4) (fun b44 => ?_)
        refine AtC.kgo ?_
        refine AtC.two ?_ ?_
        focus
          refine AtC.nz ?_
          refine AtT.appendRS rfl trivial Try.underlying22 rw53 rfl (by decide) rfl rfl Pick.auto (enc := tqe) (m := ts) (by first | exact hs | exact hs.le (by assumption)) tqe_len (fun _ => rfl) (by unfold maxLen; omega) (by omega) (by decide) (fun a46 c46 => ?_)
          refine AtC.kgo ?_
          rw [Nat.zero_add, List.nil_append]
          refine AtC.nz ?_
          refine AtT.kbsliceG (bs22_1_0 _ _ _ _) ?_
          intro q50 V50 hV50 hq50
          have g50 : Le V V50 := by first | exact hV50 | exact Le.trans (by assumption) hV50
          refine AtC.kgo ?_
          refine AtC.nz ?_
          first | refine AtT.kappend Try.underlying22 rw53 ?_
          intro a51 c51
          refine AtC.kgo ?_
          refine AtC.giveSl (l := ts ++ [(⟨p, f⟩ : Tq)]) tqe_len (flat_snoc _ _ _).symm hxl.symm Pick.auto (fun V51 hV51 hs51 => ?_)
          have hVV51 : Le V39 V51 := Le.trans (by assumption) hV51
          refine AtC.nz ?_
          refine AtT.kcall rfl rfl ok38 (sets_ok (ts ++ [(⟨p, f⟩ : Tq)]) he' _ _ hs51) ?_
          rintro _ V52 hV52 ⟨u52, M, rfl, hal2, hu2⟩
          refine AtC.kgo ?_
          refine AtC.kq (by (refine AtT.kmove ?_); exact At.knows) ?_
          refine AtC.kq (by (refine AtT.kextract ?_); exact At.knows) ?_
          refine AtC.kq (by (refine AtT.kextract ?_); exact At.knows) ?_
          refine AtC.kq (by (refine AtT.kextract ?_); exact At.knows) ?_
          refine AtC.kq (by (refine AtT.kassign ?_); exact At.knows) ?_
          refine AtC.kq (by (refine AtT.kassign ?_); exact At.knows) ?_
          refine AtC.kq (by (refine AtT.kassign ?_); exact At.knows) ?_
          refine AtC.done ?_
        rotate_right
        focus
          refine AtC.nz ?_
          refine AtT.kbsliceG (bs22_1_0 _ _ _ _) ?_
          intro q50 V50 hV50 hq50
          have g50 : Le V V50 := by first | exact hV50 | exact Le.trans (by assumption) hV50
          refine AtC.kgo ?_
          refine AtC.nz ?_
          refine AtT.appendRS rfl trivial Try.underlying22 rw53 rfl (by decide) rfl rfl Pick.auto (enc := tqe) (m := ts) (by first | exact hs | exact hs.le (by assumption)) tqe_len (fun _ => rfl) (by unfold maxLen; omega) (by omega) (by decide) (fun a46 c46 => ?_)
          refine AtC.kgo ?_
          rw [Nat.zero_add, List.nil_append]
          refine AtC.nz ?_
          first | refine AtT.kappend Try.underlying22 rw53 ?_
          intro a51 c51
          refine AtC.kgo ?_
          refine AtC.giveSl (l := ts ++ [(⟨p, f⟩ : Tq)]) tqe_len (flat_snoc _ _ _).symm hxl.symm Pick.auto (fun V51 hV51 hs51 => ?_)
          have hVV51 : Le V39 V51 := Le.trans (by assumption) hV51
          refine AtC.nz ?_
          refine AtT.kcall rfl rfl ok38 (sets_ok (ts ++ [(⟨p, f⟩ : Tq)]) he' _ _ hs51) ?_
          rintro _ V52 hV52 ⟨u52, M, rfl, hal2, hu2⟩
          refine AtC.kgo ?_
          refine AtC.kq (by (refine AtT.kmove ?_); exact At.knows) ?_
          refine AtC.kq (by (refine AtT.kextract ?_); exact At.knows) ?_
          refine AtC.kq (by (refine AtT.kextract ?_); exact At.knows) ?_
          refine AtC.kq (by (refine AtT.kextract ?_); exact At.knows) ?_
          refine AtC.kq (by (refine AtT.kassign ?_); exact At.knows) ?_
          refine AtC.kq (by (refine AtT.kassign ?_); exact At.knows) ?_
          refine AtC.kq (by (refine AtT.kassign ?_); exact At.knows) ?_
          refine AtC.done ?_
      rotate_right
      focus
        refine AtC.nz ?_
        refine AtT.kbsliceG (bs22_1_0 _ _ _ _) ?_
        intro q50 V50 hV50 hq50
        have g50 : Le V V50 := by first | exact hV50 | exact Le.trans (by assumption) hV50
        refine AtC.kgo ?_
        refine AtC.nz ?_
        refine AtT.bsliceR0 rfl trivial rfl bs22_0 (by decide) (s := 4) (fun b44 => ?_)
        refine AtC.kgo ?_
        refine AtC.nz ?_
        refine AtT.appendRS rfl trivial Try.underlying22 rw53 rfl (by decide) rfl rfl Pick.auto (enc := tqe) (m := ts) (by first | exact hs | exact hs.le (by assumption)) tqe_len (fun _ => rfl) (by unfold maxLen; omega) (by omega) (by decide) (fun a46 c46 => ?_)
        refine AtC.kgo ?_
        rw [Nat.zero_add, List.nil_append]
        refine AtC.nz ?_
        first | refine AtT.kappend Try.underlying22 rw53 ?_
        intro a51 c51
        refine AtC.kgo ?_
        refine AtC.giveSl (l := ts ++ [(⟨p, f⟩ : Tq)]) tqe_len (flat_snoc _ _ _).symm hxl.symm Pick.auto (fun V51 hV51 hs51 => ?_)
        have hVV51 : Le V39 V51 := Le.trans (by assumption) hV51
        refine AtC.nz ?_
        refine AtT.kcall rfl rfl ok38 (sets_ok (ts ++ [(⟨p, f⟩ : Tq)]) he' _ _ hs51) ?_
        rintro _ V52 hV52 ⟨u52, M, rfl, hal2, hu2⟩
        refine AtC.kgo ?_
        refine AtC.kq (by (refine AtT.kmove ?_); exact At.knows) ?_
        refine AtC.kq (by (refine AtT.kextract ?_); exact At.knows) ?_
        refine AtC.kq (by (refine AtT.kextract ?_); exact At.knows) ?_
        refine AtC.kq (by (refine AtT.kextract ?_); exact At.knows) ?_
        refine AtC.kq (by (refine AtT.kassign ?_); exact At.knows) ?_
        refine AtC.kq (by (refine AtT.kassign ?_); exact At.knows) ?_
        refine AtC.kq (by (refine AtT.kassign ?_); exact At.knows) ?_
        refine AtC.done ?_
      all_goals (refine At.nrm ?_)
      all_goals (exact At.meetG (u52, true, M) ⟨hVV51.trans hV52, .inl ⟨rfl, he', hal2, hu2⟩⟩ ⟨rfl, rfl, rfl, rfl, rfl, rfl, rfl, rfl, trivial⟩ Pt.auto)
    · refine At.drawC [.blk b7 (LC (pqe p) 24)] (.q 1 (.q 3 (.q 4 (.q 5 (.two 0 (.two 2 (.n false 6 (.n false 7 (.n false 8 (.q 9 (.q 10 (.q 11 (.q 12 (.q 13 (.q 14 (.q 15 .done)))))))))) 6 (.n false 2 (.n false 7 (.n false 8 (.q 9 (.q 10 (.q 11 (.q 12 (.q 13 (.q 14 (.q 15 .done))))))))))) 6 (.n false 0 (.n false 2 (.n false 7 (.n false 8 (.q 9 (.q 10 (.q 11 (.q 12 (.q 13 (.q 14 (.q 15 .done)))))))))))))))) ffm (by kernel_rfl) Pt.auto ?_
      refine AtC.pre (fun hle0 => ?_)
      refine AtC.kq (by (refine AtT.kmove ?_); exact At.knows) ?_
      refine AtC.kq (by (first | refine AtT.kloadOA tk24 ?_ | refine AtT.kloadA tk24 ?_ | refine AtT.kloadOP tk24 ?_); exact At.knows) ?_
      refine AtC.kq (by (refine AtT.kmove ?_); exact At.knows) ?_
      refine AtC.kq (by (refine AtT.kbuild (bd53_0_1 _ _ _ _) ?_); exact At.knows) ?_
      refine AtC.two ?_ ?_
      focus
        refine AtC.nz ?_
        refine AtT.bsliceR0 rfl trivial rfl bs22_0 (by decide) (s := 4) (fun b44 => ?_)
        refine AtC.kgo ?_
        refine AtC.two ?_ ?_
        focus
          refine AtC.nz ?_
          refine AtT.appendRS rfl trivial Try.underlying22 rw53 rfl (by decide) rfl rfl Pick.auto (enc := tqe) (m := ts) (by first | exact hs | exact hs.le (by assumption)) tqe_len (fun _ => rfl) (by unfold maxLen; omega) (by omega) (by decide) (fun a46 c46 => ?_)
          refine AtC.kgo ?_
          rw [Nat.zero_add, List.nil_append]
          refine AtC.nz ?_
          refine AtT.kbsliceG (bs22_1_0 _ _ _ _) ?_
          intro q50 V50 hV50 hq50
          have g50 : Le V V50 := by first | exact hV50 | exact Le.trans (by assumption) hV50
          refine AtC.kgo ?_
          refine AtC.nz ?_
          first | refine AtT.kappend Try.underlying22 rw53 ?_
          intro a51 c51
          refine AtC.kgo ?_
          refine AtC.giveSl (l := ts ++ [(⟨p, f⟩ : Tq)]) tqe_len (flat_snoc _ _ _).symm hxl.symm Pick.auto (fun V51 hV51 hs51 => ?_)
          have hVV51 : Le V39 V51 := Le.trans (by assumption) hV51
          refine AtC.nz ?_
          refine AtT.kcallP rfl rfl ok38 (sets_no (ts ++ [(⟨p, f⟩ : Tq)]) g1 he' _ _ hs51) ?_
          rintro _ rfl
          refine AtC.kgo ?_
          refine AtC.kq (by (refine AtT.kmove ?_); exact At.knows) ?_
          refine AtC.kq (by (refine AtT.kextract ?_); exact At.knows) ?_
          refine AtC.kq (by (refine AtT.kextract ?_); exact At.knows) ?_
          refine AtC.kq (by (refine AtT.kextract ?_); exact At.knows) ?_
          refine AtC.kq (by (refine AtT.kassign ?_); exact At.knows) ?_
          refine AtC.kq (by (refine AtT.kassign ?_); exact At.knows) ?_
          refine AtC.kq (by (refine AtT.kassign ?_); exact At.knows) ?_
          refine AtC.done ?_
        rotate_right
        focus
          refine AtC.nz ?_
          refine AtT.kbsliceG (bs22_1_0 _ _ _ _) ?_
          intro q50 V50 hV50 hq50
          have g50 : Le V V50 := by first | exact hV50 | exact Le.trans (by assumption) hV50
          refine AtC.kgo ?_
          refine AtC.nz ?_
          refine AtT.appendRS rfl trivial Try.underlying22 rw53 rfl (by decide) rfl rfl Pick.auto (enc := tqe) (m := ts) (by first | exact hs | exact hs.le (by assumption)) tqe_len (fun _ => rfl) (by unfold maxLen; omega) (by omega) (by decide) (fun a46 c46 => ?_)
          refine AtC.kgo ?_
          rw [Nat.zero_add, List.nil_append]
          refine AtC.nz ?_
          first | refine AtT.kappend Try.underlying22 rw53 ?_
          intro a51 c51
          refine AtC.kgo ?_
          refine AtC.giveSl (l := ts ++ [(⟨p, f⟩ : Tq)]) tqe_len (flat_snoc _ _ _).symm hxl.symm Pick.auto (fun V51 hV51 hs51 => ?_)
          have hVV51 : Le V39 V51 := Le.trans (by assumption) hV51
          refine AtC.nz ?_
          refine AtT.kcallP rfl rfl ok38 (sets_no (ts ++ [(⟨p, f⟩ : Tq)]) g1 he' _ _ hs51) ?_
          rintro _ rfl
          refine AtC.kgo ?_
          refine AtC.kq (by (refine AtT.kmove ?_); exact At.knows) ?_
          refine AtC.kq (by (refine AtT.kextract ?_); exact At.knows) ?_
          refine AtC.kq (by (refine AtT.kextract ?_); exact At.knows) ?_
          refine AtC.kq (by (refine AtT.kextract ?_); exact At.knows) ?_
          refine AtC.kq (by (refine AtT.kassign ?_); exact At.knows) ?_
          refine AtC.kq (by (refine AtT.kassign ?_); exact At.knows) ?_
          refine AtC.kq (by (refine AtT.kassign ?_); exact At.knows) ?_
          refine AtC.done ?_
      rotate_right
      focus
        refine AtC.nz ?_
        refine AtT.kbsliceG (bs22_1_0 _ _ _ _) ?_
        intro q50 V50 hV50 hq50
        have g50 : Le V V50 := by first | exact hV50 | exact Le.trans (by assumption) hV50
        refine AtC.kgo ?_
        refine AtC.nz ?_
        refine AtT.bsliceR0 rfl trivial rfl bs22_0 (by decide) (s := 4) (fun b44 => ?_)
        refine AtC.kgo ?_
        refine AtC.nz ?_
        refine AtT.appendRS rfl trivial Try.underlying22 rw53 rfl (by decide) rfl rfl Pick.auto (enc := tqe) (m := ts) (by first | exact hs | exact hs.le (by assumption)) tqe_len (fun _ => rfl) (by unfold maxLen; omega) (by omega) (by decide) (fun a46 c46 => ?_)
        refine AtC.kgo ?_
        rw [Nat.zero_add, List.nil_append]
        refine AtC.nz ?_
        first | refine AtT.kappend Try.underlying22 rw53 ?_
        intro a51 c51
        refine AtC.kgo ?_
        refine AtC.giveSl (l := ts ++ [(⟨p, f⟩ : Tq)]) tqe_len (flat_snoc _ _ _).symm hxl.symm Pick.auto (fun V51 hV51 hs51 => ?_)
        have hVV51 : Le V39 V51 := Le.trans (by assumption) hV51
        refine AtC.nz ?_
        refine AtT.kcallP rfl rfl ok38 (sets_no (ts ++ [(⟨p, f⟩ : Tq)]) g1 he' _ _ hs51) ?_
        rintro _ rfl
        refine AtC.kgo ?_
        refine AtC.kq (by (refine AtT.kmove ?_); exact At.knows) ?_
        refine AtC.kq (by (refine AtT.kextract ?_); exact At.knows) ?_
        refine AtC.kq (by (refine AtT.kextract ?_); exact At.knows) ?_
        refine AtC.kq (by (refine AtT.kextract ?_); exact At.knows) ?_
        refine AtC.kq (by (refine AtT.kassign ?_); exact At.knows) ?_
        refine AtC.kq (by (refine AtT.kassign ?_); exact At.knows) ?_
        refine AtC.kq (by (refine AtT.kassign ?_); exact At.knows) ?_
        refine AtC.done ?_
      all_goals (refine At.nrm ?_)
      all_goals (exact At.meetG (.slice none 0 0, false, []) ⟨hVV51, .inr ⟨rfl, he'⟩⟩ ⟨rfl, rfl, rfl, rfl, rfl, rfl, rfl, rfl, trivial⟩ Pt.auto)
  rintro ⟨u5, also, M⟩ V5 ks' O' ⟨hV5, hcase⟩ hk hO hl5
  dsimp only at hcase hk hO
  subst hk hO
  replace hq := hq.le hV5
  replace hs0 := hs0.le hV5
  replace hqs := fun i q z h1 h2 => (hqs i q z h1 h2).le hV5
  refine At.nrm ?_
  refine At.ktext (.q 0 (.q 1 (.q 2 (.q 3 (.q 4 (.q 5 (.q 6 (.q 7 (.q 8 (.q 9 .done)))))))))) ?_
  refine AtT.kmove ?_
  refine AtT.knot ?_
  refine AtT.setB (d := 57) rfl ((show (!true) = false from rfl)) ?_
  refine AtT.kmove ?_
  all_goals (first | refine AtT.kL 58 ?_ | refine AtT.pcase (d := 58) rfl (fun hg58 => ?_) (fun hg58 => ?_) | refine AtT.bcase (d := 58) rfl (fun hg58 => ?_) (fun hg58 => ?_))
  all_goals (first | refine AtT.kpass ?_ | refine AtT.kpassU ?_ | ((refine AtT.kmove ?_)))
  all_goals (first | refine AtT.kpass ?_ | refine AtT.kpassU ?_ | ((refine AtT.knot ?_)))
  all_goals (refine AtT.setB (d := 60) rfl ((show (!true) = false from rfl)) ?_)
  all_goals (refine AtT.kpick ?_)
  all_goals (refine AtT.kmove ?_)
  all_goals (first | refine AtT.kL 62 ?_ | refine AtT.pcase (d := 62) rfl (fun hg62 => ?_) (fun hg62 => ?_) | refine AtT.bcase (d := 62) rfl (fun hg62 => ?_) (fun hg62 => ?_))
  all_goals (first | refine AtT.kpass ?_ | refine AtT.kpassU ?_ | ((refine AtT.kmove ?_)))
  all_goals (first | refine AtT.kpass ?_ | refine AtT.kpassU ?_ | ((refine AtT.knot ?_)))
  all_goals (refine AtT.setB (d := 64) rfl ((show (!true) = false from rfl)) ?_)
  all_goals (refine AtT.kpick ?_)
  all_goals refine AtT.done ?_
  all_goals (refine At.nrm ?_)
  refine At.condF rfl rfl ?_
  obtain ⟨P, hP⟩ : ∃ P : Nat → Bool, P = fun z => mtB z (cbN p) == f := ⟨_, rfl⟩
  refine At.nrm ?_
  refine At.ktext (.q 0 .done) ?_
  refine AtT.kassign ?_
  refine AtT.done ?_
  refine At.nrm ?_
  refine At.newRow 25 1 ?_
  refine At.ktext (.q 0 .done) ?_
  refine AtT.kassign ?_
  refine AtT.done ?_
  refine At.nrm ?_
  refine At.lp (ι := Nat × List (Option Addr × Nat × Nat) × Option Addr × Nat) (KS := fun g => [(2, .bool f), (7, .pointer (some ⟨b7, 0, none⟩)), (8, .slice aq qs.length cq), (11, u5), (12, .bool also), (14, .slice g.2.2.1 g.2.1.length g.2.2.2), (15, iv g.1)])
    (OS := fun g => [.blk b7 (LC (pqe p) 24), .row (.slice g.2.2.1 g.2.1.length g.2.2.2) 25 1 g.2.1.length (flat sle g.2.1)])
    (VS := fun g V' => Le V5 V' ∧ g.1 ≤ L.length ∧ g.2.1.length = ((L.take g.1).filter P).length ∧ ∀ (i : Nat) (q : Option Addr × Nat × Nat) (z : Nat), g.2.1[i]? = some q → ((L.take g.1).filter P)[i]? = some z → SlI V' (.slice q.1 q.2.1 q.2.2) (bitL z 15)) (μ := fun g => L.length - g.1) (0, [], none, 0) ?_ ?_ ?_ ?_
  · exact ⟨rfl, rfl, rfl, rfl, rfl, rfl, rfl, trivial⟩
  · exact Pt.auto
  · exact ⟨Le.refl _, Nat.zero_le _, rfl, fun i q z h => (by simp at h)⟩
  rintro ⟨k, qt, ao, co⟩ V' ks' O' ⟨hVV, hkl, hqt, hqz⟩ hk hO hl2
  dsimp only at hkl hqt hqz hk hO
  subst hk hO
  have hq' := hq.le hVV
  have hfl : ((L.take k).filter P).length ≤ 32768 := Nat.le_trans (List.length_filter_le _ _) (by rw [List.length_take]; omega)
  refine At.nrm ?_
  refine At.ktext (.q 0 (.q 1 (.q 2 (.q 3 .done)))) ?_
  refine AtT.kmove ?_
  refine AtT.kmove ?_
  first | refine AtT.klenS Try.underlying39 ?_ | refine AtT.klenR Try.underlying39 ?_
  refine AtT.klss ?_
  refine AtT.done ?_
  refine At.nrm ?_
  refine At.condP rfl (fun hp' => ?_) (fun hp' => ?_)
  · have hk1 : k < L.length := by omega
    obtain ⟨q, hqk⟩ : ∃ x, qs[k]? = some x := ⟨_, List.getElem?_eq_getElem (by omega)⟩
    obtain ⟨z, hz⟩ : ∃ l, L[k]? = some l := ⟨_, List.getElem?_eq_getElem (by omega)⟩
    have hs1 := (hqs k q z hqk hz).le hVV
    have hzl := hlt z (List.mem_of_getElem? hz)
    have hft := fil_take (P := P) hz
    refine At.nrmB ?_
    refine At.cutG (ι := List (Option Addr × Nat × Nat) × Option Addr × Nat) (fun g => [(2, .bool f), (7, .pointer (some ⟨b7, 0, none⟩)), (8, .slice aq qs.length cq), (11, u5), (12, .bool also), (14, .slice g.2.1 g.1.length g.2.2), (15, iv k)])
      (fun g => [.blk b7 (LC (pqe p) 24), .row (.slice g.2.1 g.1.length g.2.2) 25 1 g.1.length (flat sle g.1)])
      (fun g V'' => Le V' V'' ∧ g.1.length = ((L.take (k + 1)).filter P).length ∧ ∀ (i : Nat) (q : Option Addr × Nat × Nat) (z : Nat), g.1[i]? = some q → ((L.take (k + 1)).filter P)[i]? = some z → SlI V'' (.slice q.1 q.2.1 q.2.2) (bitL z 15)) ?_ ?_
    · refine At.nrm ?_
      refine At.cutG (ι := Unit) (fun _ => [(2, .bool f), (7, .pointer (some ⟨b7, 0, none⟩)), (8, .slice aq qs.length cq), (11, u5), (12, .bool also), (14, .slice ao qt.length co), (15, iv k), (94, .bool (P z))])
        (fun _ => [.blk b7 (LC (pqe p) 24), .row (.slice ao qt.length co) 25 1 qt.length (flat sle qt)]) (fun _ V'' => Le V' V'') ?_ ?_
      · refine At.draw (.q 0 (.q 1 (.q 2 (.q 3 (.q 5 (.q 10 (.n false 4 (.n false 6 (.n false 7 (.q 8 (.q 9 (.q 11 .done)))))))))))) ffm (by kernel_rfl) ?_
        refine AtT.kmove ?_
        refine AtT.kmove ?_
        refine AtT.kidx Try.underlying39 tk25 ?_
        intro p85 e85 he85 hc85
        obtain rfl : q = e85 := by have : qs[k]? = some e85 := (by simpa using he85); rw [hqk] at this; simpa using this
        first | refine AtT.kloadO tk25 ?_ | refine AtT.kload tk25 ?_
        first | refine AtT.kloadOA tk24 ?_ | refine AtT.kloadA tk24 ?_ | refine AtT.kloadOP tk24 ?_
        refine AtT.kmove ?_
        refine AtT.kcallP rfl rfl ok42 (bitsOf_f (bitL z 15) (bit_in z) _ _ (by first | exact hs1 | exact hs1.le (by assumption))) ?_
        rintro _ rfl; rw [bt_bit hzl]
        refine AtT.kcall rfl rfl ok43 (causesOf_f p hp _) ?_
        rintro v89 V89 hV89 hs89
        refine AtT.kcallP rfl rfl ok42 (bitsOf_f _ (caL_in hp) _ _ hs89) ?_
        rintro _ rfl
        refine AtT.andN rfl trivial rfl rfl rfl rfl (by omega) (by show btL (caL p) < _; have : btL (caL p) < 32768 := hcb; omega) (by decide) (A := z) (B := cbN p) ?_
        refine AtT.kneI ?_
        refine AtT.keqB Try.underlying4 ?_
        rw [mt_dec, show (mtB z (cbN p) == f) = P z by rw [hP]]
        refine AtT.done ?_
        refine At.nrm ?_
        all_goals (exact At.meetG () hV89 ⟨rfl, rfl, rfl, rfl, rfl, rfl, rfl, rfl, trivial⟩ Pt.auto)
      rintro _ V6 ks' O' hV6 hk hO hl6
      subst hk hO
      have hq6 := hq'.le hV6
      have hs6 := hs1.le hV6
      cases hPz : P z with
      | true =>
        rw [hPz, if_pos rfl] at hft
        refine At.condT rfl rfl ?_
        refine At.nrm ?_
        refine At.ktext (.q 0 (.q 1 (.q 2 (.q 3 (.q 4 (.n false 5 (.n true 6 (.q 7 .done)))))))) ?_
        refine AtT.kmove ?_
        refine AtT.kmove ?_
        refine AtT.kmove ?_
        refine AtT.kidx Try.underlying39 tk25 ?_
        intro p98 e98 he98 hc98
        obtain rfl : q = e98 := by have : qs[k]? = some e98 := (by simpa using he98); rw [hqk] at this; simpa using this
        first | refine AtT.kloadO tk25 ?_ | refine AtT.kload tk25 ?_
        refine AtT.kbsliceG (bs39_1_0 _ _ _) ?_
        intro q100 V100 hV100 hq100
        have g100 : Le V V100 := by first | exact hV100 | exact Le.trans (by assumption) hV100
        first | refine AtT.kappend Try.underlying39 rw25 ?_
        intro a101 c101
        refine AtT.kassign ?_
        refine AtT.done ?_
        refine At.nrm ?_
        refine At.meetG (qt ++ [q], a101, c101) ⟨hV6.trans (by first | assumption | exact Le.refl _), ?_, ?_⟩ ?_ ?_
        · dsimp only; rw [hft, List.length_append, List.length_append, hqt]; rfl
        · dsimp only
          intro i q' z' h1 h2
          rw [hft] at h2
          by_cases hi : i < qt.length
          · rw [List.getElem?_append_left hi] at h1
            rw [List.getElem?_append_left (by omega)] at h2
            exact (hqz i q' z' h1 h2).le (hV6.trans (by first | assumption | exact Le.refl _))
          · rw [List.getElem?_append_right (by omega)] at h1 h2
            have hii : i - qt.length = 0 := by
              have := (List.getElem?_eq_some_iff.1 h1).1
              simp only [List.length_cons, List.length_nil] at this; omega
            rw [hii] at h1
            rw [show i - ((L.take k).filter P).length = 0 by omega] at h2
            simp at h1 h2
            subst h1 h2
            exact hs6.le (by first | assumption | exact Le.refl _)
        · dsimp only; rw [List.length_append]; exact ⟨rfl, rfl, rfl, rfl, rfl, rfl, rfl, trivial⟩
        · dsimp only
          rw [flat_snoc, List.length_append]
          exact Pt.auto
      | false =>
        rw [hPz, if_neg (by decide), List.append_nil] at hft
        refine At.condF rfl rfl ?_
        refine At.nrm ?_
        exact At.meetG (qt, ao, co) ⟨hV6, by dsimp only; rw [hft]; exact hqt, by dsimp only; rw [hft]; exact fun i q' z' h1 h2 => (hqz i q' z' h1 h2).le hV6⟩ ⟨rfl, rfl, rfl, rfl, rfl, rfl, rfl, trivial⟩ Pt.auto
    rintro ⟨qt2, ao2, co2⟩ V3 ks' O' ⟨hV3, hqt2, hqz2⟩ hk hO hl4
    dsimp only at hqt2 hqz2 hk hO
    subst hk hO
    refine At.nrm ?_
    refine At.ktext (.q 0 (.q 1 (.q 2 .done))) ?_
    refine AtT.kmove ?_
    first | refine AtT.kadd ?_ | refine AtT.kaddW ?_
    refine AtT.kassign ?_
    refine AtT.done ?_
    refine At.nrm ?_
    refine At.round (k + 1, qt2, ao2, co2) ?_ ?_ ?_ ?_
    · show L.length - (k + 1) < L.length - k; omega
    · exact ⟨hVV.trans hV3, by dsimp only; omega, hqt2, hqz2⟩
    · exact ⟨rfl, rfl, rfl, rfl, rfl, rfl, ivs (by dsimp only; omega), trivial⟩
    · exact Pt.auto
  · obtain rfl : k = L.length := by omega
    rw [List.take_length] at hqt hqz hfl
    have hs0' := hs0.le hVV
    refine At.giveSl (l := qt) sle_len rfl rfl Pick.auto (fun V7 hV7 hs7 => ?_)
    have hst : SL V7 (.slice ao qt.length co) (bL (L.filter P)) := SL.of qt hs7 hqt fun i q z h1 h2 => (hqz i q z h1 h2).le hV7
    replace hq' := hq'.le hV7
    replace hs0' := hs0'.le hV7
    refine At.nrm ?_
    by_cases hz : L.filter P = []
    · have hqn : qt.length = 0 := by rw [hqt, hz]; rfl
      have hno : ∀ z ∈ L, mtB z (cbN p) ≠ f := fun z hzm hc => by
        have : z ∈ L.filter P := List.mem_filter.2 ⟨hzm, by rw [hP]; simpa using hc⟩
        rw [hz] at this; cases this
      refine At.ktext (.q 0 (.q 1 (.q 2 .done))) ?_
      refine AtT.kmove ?_
      first | refine AtT.klenS Try.underlying39 ?_ | refine AtT.klenR Try.underlying39 ?_
      refine AtT.keqI ?_
      refine AtT.setT (d := 104) rfl ((by omega)) ?_
      refine AtT.done ?_
      refine At.nrm ?_
      refine At.condT rfl rfl ?_
      refine At.nrm ?_
      rcases hcase with ⟨rfl, he', hal2, hu2⟩ | ⟨rfl, he'⟩
      · have halt2 := als_alt g1 hal2
        replace hu2 := (hu2.le hVV).le hV7
        obtain ⟨ps, ap, cp, rfl, hps, hpl, hpz⟩ := hu2.at
        have hne2 := als_ne he' hal2
        obtain ⟨y0, hy0⟩ : ∃ y0, M[0]? = some y0 := by cases M with | nil => exact absurd rfl hne2 | cons z M => exact ⟨z, rfl⟩
        have hpos2 : 0 < M.length := (List.getElem?_eq_some_iff.1 hy0).1
        obtain ⟨p0, hp0⟩ : ∃ q0, ps[0]? = some q0 := ⟨_, List.getElem?_eq_getElem (by omega)⟩
        have hsy := hpz 0 p0 y0 hp0 hy0
        have hgt : (bitL x0 15).length < (bitL y0 15).length := alt_none halt hno (List.mem_of_getElem? hx0) ((halt2.mem y0).1 (List.mem_of_getElem? hy0)).1
        refine At.draw (.q 0 (.q 1 (.q 2 (.q 3 (.q 4 (.q 5 (.q 6 (.q 7 (.q 8 (.q 9 (.q 10 (.q 11 (.q 12 (.q 13 (.n false 14 (.q 15 (.q 16 .done))))))))))))))))) ffm (by kernel_rfl) ?_
        refine AtT.kmove ?_
        refine AtT.knot ?_
        refine AtT.setB (d := 106) rfl ((show (!true) = false from rfl)) ?_
        refine AtT.kmove ?_
        all_goals (first | refine AtT.kL 107 ?_ | refine AtT.pcase (d := 107) rfl (fun hg107 => ?_) (fun hg107 => ?_) | refine AtT.bcase (d := 107) rfl (fun hg107 => ?_) (fun hg107 => ?_))
        all_goals (first | refine AtT.kpass ?_ | refine AtT.kpassU ?_ | ((refine AtT.kmove ?_)))
        all_goals (first | refine AtT.kpass ?_ | refine AtT.kpassU ?_ | ((refine AtT.kidx Try.underlying39 tk25 ?_) ; (intro p109 e109 he109 hc109)))
        all_goals (obtain rfl : p0 = e109 := by have : ps[0]? = some e109 := (by simpa using he109); rw [hp0] at this; simpa using this)
        all_goals (first | refine AtT.kpass ?_ | refine AtT.kpassU ?_ | ((first | refine AtT.kloadO tk25 ?_ | refine AtT.kload tk25 ?_)))
        all_goals (first | refine AtT.kpass ?_ | refine AtT.kpassU ?_ | ((first | refine AtT.klenS Try.underlying25 ?_ | refine AtT.klenR Try.underlying25 ?_)))
        all_goals (first | refine AtT.kpass ?_ | refine AtT.kpassU ?_ | ((refine AtT.kmove ?_)))
        all_goals (first | refine AtT.kpass ?_ | refine AtT.kpassU ?_ | ((refine AtT.kidx Try.underlying39 tk25 ?_) ; (intro p113 e113 he113 hc113)))
        all_goals (obtain rfl : q0 = e113 := by have : qs[0]? = some e113 := (by simpa using he113); rw [hq0] at this; simpa using this)
        all_goals (first | refine AtT.kpass ?_ | refine AtT.kpassU ?_ | ((first | refine AtT.kloadO tk25 ?_ | refine AtT.kload tk25 ?_)))
        all_goals (first | refine AtT.kpass ?_ | refine AtT.kpassU ?_ | ((first | refine AtT.klenS Try.underlying25 ?_ | refine AtT.klenR Try.underlying25 ?_)))
        all_goals (first | refine AtT.kpass ?_ | refine AtT.kpassU ?_ | ((refine AtT.kgtr ?_)))
        all_goals (refine AtT.setT (d := 116) rfl ((by omega)) ?_)
        all_goals (refine AtT.kpick ?_)
        all_goals (refine AtT.kmove ?_)
        all_goals (first | refine AtT.kL 118 ?_ | refine AtT.pcase (d := 118) rfl (fun hg118 => ?_) (fun hg118 => ?_) | refine AtT.bcase (d := 118) rfl (fun hg118 => ?_) (fun hg118 => ?_))
        all_goals (first | refine AtT.kpassN ?_ | refine AtT.kpassNU ?_ | ((refine AtT.kcallP rfl rfl ok16 (works_f _) ?_) ; (rintro _ rfl)))
        all_goals (refine AtT.kpick ?_)
        all_goals (refine AtT.kassign ?_)
        all_goals refine AtT.done ?_
        all_goals (refine At.nrm ?_)
        all_goals (exact At.ret1 rfl (.tmp rfl) rfl)
      · refine At.draw (.q 0 (.q 1 (.q 2 (.q 3 (.q 4 (.q 5 (.q 6 (.q 7 (.q 8 (.q 9 (.q 10 (.q 11 (.q 12 (.q 13 (.n false 14 (.q 15 (.q 16 .done))))))))))))))))) ffm (by kernel_rfl) ?_
        refine AtT.kmove ?_
        refine AtT.knot ?_
        refine AtT.setB (d := 106) rfl ((show (!false) = true from rfl)) ?_
        refine AtT.kmove ?_
        all_goals (first | refine AtT.kL 107 ?_ | refine AtT.pcase (d := 107) rfl (fun hg107 => ?_) (fun hg107 => ?_) | refine AtT.bcase (d := 107) rfl (fun hg107 => ?_) (fun hg107 => ?_))
        all_goals (first | refine AtT.kpass ?_ | refine AtT.kpassU ?_ | ((refine AtT.kmove ?_)))
        all_goals (first | refine AtT.kpass ?_ | refine AtT.kpassU ?_ | ((refine AtT.kidx Try.underlying39 tk25 ?_) ; (intro p109 e109 he109 hc109)))
        all_goals (first | refine AtT.kpass ?_ | refine AtT.kpassU ?_ | ((first | refine AtT.kloadO tk25 ?_ | refine AtT.kload tk25 ?_)))
        all_goals (first | refine AtT.kpass ?_ | refine AtT.kpassU ?_ | ((first | refine AtT.klenS Try.underlying25 ?_ | refine AtT.klenR Try.underlying25 ?_)))
        all_goals (first | refine AtT.kpass ?_ | refine AtT.kpassU ?_ | ((refine AtT.kmove ?_)))
        all_goals (first | refine AtT.kpass ?_ | refine AtT.kpassU ?_ | ((refine AtT.kidx Try.underlying39 tk25 ?_) ; (intro p113 e113 he113 hc113)))
        all_goals (first | refine AtT.kpass ?_ | refine AtT.kpassU ?_ | ((first | refine AtT.kloadO tk25 ?_ | refine AtT.kload tk25 ?_)))
        all_goals (first | refine AtT.kpass ?_ | refine AtT.kpassU ?_ | ((first | refine AtT.klenS Try.underlying25 ?_ | refine AtT.klenR Try.underlying25 ?_)))
        all_goals (first | refine AtT.kpass ?_ | refine AtT.kpassU ?_ | ((refine AtT.kgtr ?_)))
        all_goals (refine AtT.kpick ?_)
        all_goals (refine AtT.kmove ?_)
        all_goals (first | refine AtT.kL 118 ?_ | refine AtT.pcase (d := 118) rfl (fun hg118 => ?_) (fun hg118 => ?_) | refine AtT.bcase (d := 118) rfl (fun hg118 => ?_) (fun hg118 => ?_))
        all_goals (first | refine AtT.kpassN ?_ | refine AtT.kpassNU ?_ | ((refine AtT.kcallP rfl rfl ok16 (works_f _) ?_) ; (rintro _ rfl)))
        all_goals (refine AtT.kpick ?_)
        all_goals (refine AtT.kassign ?_)
        all_goals refine AtT.done ?_
        all_goals (refine At.nrm ?_)
        all_goals (exact At.ret1 rfl (.tmp rfl) rfl)
    · obtain ⟨w, hw⟩ := List.exists_mem_of_ne_nil _ hz
      have hflt := alt_filter (t := (⟨p, f⟩ : Tq)) halt ⟨w, (List.mem_filter.1 hw).1, by have := (List.mem_filter.1 hw).2; rw [hP] at this; simpa using this⟩
      have hqn : qt.length ≠ 0 := fun h => hz (List.eq_nil_of_length_eq_zero (by omega))
      rcases hcase with ⟨rfl, he', hal2, hu2⟩ | ⟨rfl, he'⟩
      · have hM : M = L.filter P := by
          have := alt_uniq (fun _ => Iff.rfl) (als_alt g1 hal2) hflt
          rw [this, hP]
        replace hu2 := (hu2.le hVV).le hV7
        refine At.ktext (.q 0 (.q 1 (.q 2 .done))) ?_
        refine AtT.kmove ?_
        first | refine AtT.klenS Try.underlying39 ?_ | refine AtT.klenR Try.underlying39 ?_
        refine AtT.keqI ?_
        refine AtT.setF (d := 104) rfl ((by omega)) ?_
        refine AtT.done ?_
        refine At.nrm ?_
        refine At.condF rfl rfl ?_
        refine At.nrm ?_
        refine At.ktext (.q 0 (.q 1 (.q 2 (.q 3 (.n false 4 (.q 5 (.q 6 (.n false 7 (.q 8 (.q 9 .done)))))))))) ?_
        refine AtT.kmove ?_
        refine AtT.kmove ?_
        all_goals (first | refine AtT.kL 122 ?_ | refine AtT.pcase (d := 122) rfl (fun hg122 => ?_) (fun hg122 => ?_) | refine AtT.bcase (d := 122) rfl (fun hg122 => ?_) (fun hg122 => ?_))
        all_goals (first | refine AtT.kpass ?_ | refine AtT.kpassU ?_ | ((refine AtT.kmove ?_)))
        all_goals (first | refine AtT.kpass ?_ | refine AtT.kpassU ?_ | ((refine AtT.kmove ?_)))
        all_goals (first | refine AtT.kpassN ?_ | refine AtT.kpassNU ?_ | ((refine AtT.kcallP rfl rfl ok30 (lists_eq_f (bL M) (bL (L.filter P)) _ _ _ hu2 hst) ?_) ; (rintro _ rfl)))
        all_goals (refine AtT.setT (d := 125) rfl ((by rw [hM])) ?_)
        all_goals (refine AtT.kpick ?_)
        all_goals (refine AtT.kmove ?_)
        all_goals (first | refine AtT.kL 127 ?_ | refine AtT.pcase (d := 127) rfl (fun hg127 => ?_) (fun hg127 => ?_) | refine AtT.bcase (d := 127) rfl (fun hg127 => ?_) (fun hg127 => ?_))
        all_goals (first | refine AtT.kpassN ?_ | refine AtT.kpassNU ?_ | ((refine AtT.kcallP rfl rfl ok16 (works_f _) ?_) ; (rintro _ rfl)))
        all_goals (refine AtT.kpick ?_)
        all_goals (refine AtT.kassign ?_)
        all_goals refine AtT.done ?_
        all_goals (refine At.nrm ?_)
        exact At.ret1 rfl (.tmp rfl) rfl
      · exact absurd ((alE_ext g1).2 ⟨w, ((hflt.mem w).1 (by rw [hP] at hw; exact hw)).1⟩) he'
end Go.Proofs.Ytfcpmblmklibjaa
set_option linter.unusedVariables false
namespace Go.Proofs.Ytfcpmblmklibjaa.c8
open Go.Lw Go.Gl Go.Bl Go.RowKit Go.ChangeShapes Go.WideShapes Go.ChangeAt

set_option maxRecDepth 100000 in
theorem lifted (os : Os) (started : os.Started) (H : Type) (enc : TypeId × Value → H) :
    ReturnsInHanded {} Try.checked os 10 .any (Rows.boilLearnedSpec.pre6 enc Try.prog Try.f10 Rows.boilLearnedRow.domain false) (Rows.boilLearnedSpec.post enc Try.prog Try.f10 false true false false) := by
  refine law_lift (tb := 4) (fun ds hd => by match ds, hd with | [d0, d1, d2], _ => rfl) rfl (by kernel_rfl) Try.underlying4 laidOut (by kernel_rfl) own started (by kernel_rfl) Try.func10
    (ChangeSpec.witness6 (enc := enc) (C := Try.checked) false ⟨#[], #[.slice none 0 0, .int .u8 0, .bool false], []⟩ 8 (by kernel_rfl) (by kernel_rfl) (by kernel_rfl) (by kernel_rfl)) ?_
  intro W base args ds ps hval hA
  rw [Try.params10] at hA hval
  obtain ⟨v0, vs0, d0, ds0, p0, q0, hargs, rfl, rfl, h0, r0⟩ := trodAll_cons hA
  obtain ⟨v1, vs1, d1, ds1, p1, q1, rfl, rfl, rfl, h1, r1⟩ := trodAll_cons r0
  obtain ⟨v2, vs2, d2, ds2, p2, q2, rfl, rfl, rfl, h2, r2⟩ := trodAll_cons r1
  obtain ⟨rfl, rfl, rfl⟩ := trodAll_nil r2
  obtain rfl : args = #[v0, v1, v2] := by cases args; simp_all
  obtain ⟨l0, a0, c0, rfl, s0⟩ := rd_trials (hval 0 22 v0 rfl rfl) h0
  obtain ⟨x1, rfl, _, _, w1⟩ := open_int Try.underlying5 (hval 1 5 v1 rfl rfl) h1
  have b1 := bd_u8 w1
  obtain ⟨x2, rfl, _, _⟩ := open_bool Try.underlying4 (hval 2 4 v2 rfl rfl) h2
  exact ⟨[.slice a0 l0.length c0, .int .u8 x1, .bool x2], rfl, boilLearned_f l0 x1 x2 b1 _ _ s0⟩

theorem over : Rows.boilLearnedRow.holds Try.pinned (OpenSpec.ofChange Rows.boilLearnedSpec) :=
  OpenClaim.holds_of_wide 10 Try.f10 rfl rfl rfl rfl rfl rfl rfl ⟨rfl, rfl, rfl, rfl, rfl⟩ rfl rfl rfl rfl rfl (by kernel_rfl) Try.func10 (by kernel_rfl)
    (of_decide_eq_true (by kernel_rfl)) (by unfold Func.isWrapper; first | (rw [if_pos (by decide +kernel)]; kernel_rfl) | (rw [if_neg (by decide +kernel)]; exact ⟨rfl, rfl⟩))
    (fun os started H enc _ => lifted os started H enc)

theorem proved : Rows.BoilLearnedSaid := over
#print axioms proved
end Go.Proofs.Ytfcpmblmklibjaa.c8
