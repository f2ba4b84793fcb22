/- A cause is to blame always, perhaps, or never, as it is in all of the smallest explanations, in some, or in none; one that is clear never is; by as many of them as have one of its causes a panel fails: for all valid trials, a cause and a panel by numbers. No condition. -/
import Derived.Test.YtfcpmblmklibjaaB6
set_option linter.unusedVariables false
set_option linter.unusedSimpArgs false
set_option linter.unusedSectionVars false
set_option linter.unusedVariables false
namespace Go.Proofs.Ytfcpmblmklibjaa
open Go.Lw Go.Gl Go.Bl Go.RowKit

theorem bit_val (A k : Nat) : ((A >>> k &&& 1 : Nat) : Int) = if A.testBit k = true then 1 else 0 := by
  have h := bit_iff A k
  have hl : A >>> k &&& 1 ≤ 1 := Nat.and_le_right
  split
  · rename_i c; exact h.2 c
  · rename_i c
    have : ((A >>> k &&& 1 : Nat) : Int) ≠ 1 := fun e => c (h.1 e)
    omega
theorem panelP_f (p : Pq) (V : View) : Fnc Try.prog 44 [iv p.m, iv p.o, iv p.h] V fun r _ => r = pqv p := panel_f p.m p.o p.h V
/-- The numbers of a panel, by one number. -/
theorem digs {y : Int} (hy : 0 ≤ y ∧ y ≤ 255) : (0 ≤ y.tmod 5 ∧ y.tmod 5 ≤ 4) ∧ (0 ≤ (y.tdiv 5).tmod 5 ∧ (y.tdiv 5).tmod 5 ≤ 4) ∧ (0 ≤ (y.tdiv 25).tmod 5 ∧ (y.tdiv 25).tmod 5 ≤ 4) ∧ Fit (y.tdiv 5) ∧ Fit (y.tdiv 25) := by
  have a := Int.tmod_nonneg 5 hy.1
  have b := Int.tmod_lt_of_pos y (b := 5) (by decide)
  have e1 : y.tdiv 5 = y / 5 := Int.tdiv_eq_ediv_of_nonneg hy.1
  have e2 : y.tdiv 25 = y / 25 := Int.tdiv_eq_ediv_of_nonneg hy.1
  have c := Int.tmod_nonneg (a := y.tdiv 5) 5 (by omega)
  have d := Int.tmod_lt_of_pos (y.tdiv 5) (b := 5) (by decide)
  have e := Int.tmod_nonneg (a := y.tdiv 25) 5 (by omega)
  have f := Int.tmod_lt_of_pos (y.tdiv 25) (b := 5) (by decide)
  exact ⟨⟨a, by omega⟩, ⟨c, by omega⟩, ⟨e, by omega⟩, Fit.of (by omega) (by omega), Fit.of (by omega) (by omega)⟩
theorem mt_val (x : Nat) (p : Pq) : ((x &&& cbN p : Nat) : Int) ≠ 0 ↔ mtB (cbN p) x = true := by
  rw [mtB_symm]
  unfold mtB
  rw [decide_eq_true_eq]
  omega
theorem bt_bit {x : Nat} (h : x < 32768) : btL (bitL x 15) = x := btL_bitL (n := 15) h

theorem boilBlamed_f (ts : List Tq) (x y : Int) (hx : 0 ≤ x ∧ x ≤ 255) (hy : 0 ≤ y ∧ y ≤ 255) (V : View) (v : Value) (hs : Sl V tqe 4 v ts) : Fnc Try.prog 8 [v, .int .u8 x, .int .u8 y] V fun r _ => r = .bool true := by
  obtain ⟨d1, d2, d3, hf5, hf25⟩ := digs hy
  obtain ⟨a, c, rfl, k1, k2, _⟩ := id hs
  clear k1 k2
  have hxm := Int.tmod_nonneg 15 hx.1
  have hxl := Int.tmod_lt_of_pos x (b := 15) (by decide)
  obtain ⟨cN, hcN⟩ : ∃ n : Nat, x.tmod 15 = (n : Int) := ⟨(x.tmod 15).toNat, by omega⟩
  have hc15 : cN < 15 := by omega
  obtain ⟨p, e1, e2, e3⟩ : ∃ p : Pq, y.tmod 5 = p.m ∧ (y.tdiv 5).tmod 5 = p.o ∧ (y.tdiv 25).tmod 5 = p.h := ⟨⟨_, _, _⟩, rfl, rfl, rfl⟩
  have hp : sndB p = true := decide_eq_true (by omega)
  have hcb := cbN_lt hp
  refine fn_of Try.func8 rfl Try.ntmps8 (Nat.le_of_ble_eq_true rfl) ?_
  intro w0 hw0
  refine At.nrm ?_
  refine At.ktext (.q 0 .done) ?_
  refine AtT.kassign ?_
  refine AtT.done ?_
  refine At.nrm ?_
  by_cases g0 : trE ts = 0
  rotate_left
  · refine At.ktext (.q 0 (.n false 1 (.q 2 .done))) ?_
    refine AtT.kmove ?_
    refine AtT.kcallP rfl rfl ok37 (fine_f ts _ _ hs) ?_
    rintro _ rfl
    refine AtT.setF (d := 23) rfl (g0) ?_
    refine AtT.knot ?_
    refine AtT.setB (d := 24) rfl ((show (!false) = true from rfl)) ?_
    refine AtT.done ?_
    refine At.nrm ?_
    refine At.condT rfl rfl ?_
    refine At.nrm ?_
    refine At.ktext (.n false 0 (.q 1 .done)) ?_
    refine AtT.kcallP rfl rfl ok16 (works_f _) ?_
    rintro _ rfl
    refine AtT.kassign ?_
    refine AtT.done ?_
    refine At.nrm ?_
    exact At.ret1 rfl (.tmp rfl) rfl
  refine At.ktext (.q 0 (.n false 1 (.q 2 .done))) ?_
  refine AtT.kmove ?_
  refine AtT.kcallP rfl rfl ok37 (fine_f ts _ _ hs) ?_
  rintro _ rfl
  refine AtT.setT (d := 23) rfl (g0) ?_
  refine AtT.knot ?_
  refine AtT.setB (d := 24) rfl ((show (!true) = false from rfl)) ?_
  refine AtT.done ?_
  refine At.nrm ?_
  refine At.condF rfl rfl ?_
  obtain ⟨h16, ht⟩ := trE_ok g0
  have hcl : clA ts < 32768 := clN_lt ht _
  by_cases he : alE ts = 0
  rotate_left
  · have h26 := (alE_26 g0 he).1
    refine At.nrm ?_
    refine At.ktext (.q 0 (.n false 1 (.q 2 (.q 3 (.q 4 (.q 5 (.q 6 (.q 7 (.q 8 .done))))))))) ?_
    refine AtT.kmove ?_
    refine AtT.kcallP rfl rfl ok38 (sets_no ts g0 he _ _ hs) ?_
    rintro _ rfl
    refine AtT.kmove ?_
    refine AtT.kextract ?_
    refine AtT.kextract ?_
    refine AtT.kextract ?_
    refine AtT.kassign ?_
    refine AtT.kassign ?_
    refine AtT.kassign ?_
    refine AtT.done ?_
    refine At.nrm ?_
    refine At.ktext (.q 0 (.q 1 (.q 2 (.q 3 .done)))) ?_
    refine AtT.kmove ?_
    refine AtT.kconv un5 Try.underlying3 ?_
    rw [wrap_fit (Fit.of (by omega) (by omega))]
    refine AtT.krem ?_
    rw [hcN]
    refine AtT.kassign ?_
    refine AtT.done ?_
    refine At.nrm ?_
    refine At.ktext (.q 0 (.q 1 (.q 2 (.q 3 (.q 4 (.q 5 (.q 6 (.q 7 (.q 8 (.q 9 (.q 10 (.n false 11 (.n false 12 (.n true 13 .done)))))))))))))) ?_
    refine AtT.kmove ?_
    refine AtT.kconv un5 Try.underlying3 ?_
    rw [wrap_fit (Fit.of (by omega) (by omega))]
    refine AtT.krem ?_
    rw [e1]
    refine AtT.kmove ?_
    refine AtT.kconv un5 Try.underlying3 ?_
    rw [wrap_fit (Fit.of (by omega) (by omega))]
    refine AtT.kquo ?_
    refine AtT.krem ?_
    rw [e2]
    refine AtT.kmove ?_
    refine AtT.kconv un5 Try.underlying3 ?_
    rw [wrap_fit (Fit.of (by omega) (by omega))]
    refine AtT.kquo ?_
    refine AtT.krem ?_
    rw [e3]
    refine AtT.kcallP rfl rfl ok44 (panelP_f p _) ?_
    rintro _ rfl
    refine AtT.kalloc z24 ?_
    intro b11
    refine AtT.kstoreA tk24 ?_
    refine AtT.done ?_
    refine At.nrm ?_
    refine At.ktext (.q 0 (.q 1 (.n false 2 (.q 3 (.q 4 (.q 5 (.q 6 (.q 7 .done)))))))) ?_
    refine AtT.kmove ?_
    refine AtT.kmove ?_
    refine AtT.kcallP rfl rfl ok45 (blame_no ts g0 he cN (by omega) _ _ hs) ?_
    rintro _ rfl; rw [h26]
    refine AtT.kmove ?_
    refine AtT.kextract ?_
    refine AtT.kextract ?_
    refine AtT.kassign ?_
    refine AtT.kassign ?_
    refine AtT.done ?_
    refine At.nrm ?_
    refine At.ktext (.q 0 (.q 1 (.n false 2 (.q 3 (.q 4 (.q 5 (.q 6 (.q 7 .done)))))))) ?_
    refine AtT.kmove ?_
    first | refine AtT.kloadOA tk24 ?_ | refine AtT.kloadA tk24 ?_ | refine AtT.kloadOP tk24 ?_
    refine AtT.kcallP rfl rfl ok46 (failsF_no ts g0 he p hp _ _ hs) ?_
    rintro _ rfl; rw [h26]
    refine AtT.kmove ?_
    refine AtT.kextract ?_
    refine AtT.kextract ?_
    refine AtT.kassign ?_
    refine AtT.kassign ?_
    refine AtT.done ?_
    refine At.nrm ?_
    refine At.ktext (.q 0 (.n false 1 (.q 2 (.q 3 (.q 4 (.q 5 (.q 6 .done))))))) ?_
    refine AtT.kmove ?_
    refine AtT.kcall rfl rfl ok20 (rclear_f ts _ _ hs) ?_
    rintro _ V61 hV61 ⟨u61, rfl, hu61⟩; rw [g0]
    refine AtT.kmove ?_
    refine AtT.kextract ?_
    refine AtT.kextract ?_
    refine AtT.kassign ?_
    refine AtT.kassign ?_
    refine AtT.done ?_
    refine At.nrm ?_
    refine At.ktext (.q 0 (.q 1 (.q 2 (.q 3 (.q 4 (.q 5 .done)))))) ?_
    refine AtT.kmove ?_
    refine AtT.knot ?_
    refine AtT.setB (d := 65) rfl ((show (!true) = false from rfl)) ?_
    refine AtT.kmove ?_
    all_goals (first | refine AtT.kL 66 ?_ | refine AtT.pcase (d := 66) rfl (fun hg66 => ?_) (fun hg66 => ?_) | refine AtT.bcase (d := 66) rfl (fun hg66 => ?_) (fun hg66 => ?_))
    all_goals (first | refine AtT.kpass ?_ | refine AtT.kpassU ?_ | ((refine AtT.kmove ?_)))
    all_goals (first | refine AtT.kpass ?_ | refine AtT.kpassU ?_ | ((refine AtT.kneI ?_)))
    all_goals (refine AtT.setF (d := 68) rfl ((by simp)) ?_)
    all_goals (refine AtT.kpick ?_)
    all_goals refine AtT.done ?_
    all_goals (refine At.nrm ?_)
    refine At.condF rfl rfl ?_
    refine At.nrm ?_
    refine At.ktext (.q 0 (.q 1 .done)) ?_
    refine AtT.kmove ?_
    refine AtT.knot ?_
    refine AtT.setB (d := 71) rfl ((show (!false) = true from rfl)) ?_
    refine AtT.done ?_
    refine At.nrm ?_
    refine At.condT rfl rfl ?_
    refine At.nrm ?_
    refine At.ktext (.q 0 (.q 1 (.q 2 (.q 3 (.q 4 (.q 5 (.q 6 (.n false 7 (.q 8 (.q 9 .done)))))))))) ?_
    refine AtT.kmove ?_
    refine AtT.keqI ?_
    refine AtT.setT (d := 73) rfl (rfl) ?_
    refine AtT.kmove ?_
    all_goals (first | refine AtT.kL 74 ?_ | refine AtT.pcase (d := 74) rfl (fun hg74 => ?_) (fun hg74 => ?_) | refine AtT.bcase (d := 74) rfl (fun hg74 => ?_) (fun hg74 => ?_))
    all_goals (first | refine AtT.kpass ?_ | refine AtT.kpassU ?_ | ((refine AtT.kmove ?_)))
    all_goals (first | refine AtT.kpass ?_ | refine AtT.kpassU ?_ | ((refine AtT.keqI ?_)))
    all_goals (refine AtT.setT (d := 76) rfl (rfl) ?_)
    all_goals (refine AtT.kpick ?_)
    all_goals (refine AtT.kmove ?_)
    all_goals (first | refine AtT.kL 78 ?_ | refine AtT.pcase (d := 78) rfl (fun hg78 => ?_) (fun hg78 => ?_) | refine AtT.bcase (d := 78) rfl (fun hg78 => ?_) (fun hg78 => ?_))
    all_goals (first | refine AtT.kpassN ?_ | refine AtT.kpassNU ?_ | ((refine AtT.kcallP rfl rfl ok16 (works_f _) ?_) ; (rintro _ rfl)))
    all_goals (refine AtT.kpick ?_)
    all_goals (refine AtT.kassign ?_)
    all_goals refine AtT.done ?_
    all_goals (refine At.nrm ?_)
    exact At.ret1 rfl (.tmp rfl) rfl
  refine At.nrm ?_
  refine At.ktext (.q 0 (.n false 1 (.q 2 (.q 3 (.q 4 (.q 5 (.q 6 (.q 7 (.q 8 .done))))))))) ?_
  refine AtT.kmove ?_
  refine AtT.kcall rfl rfl ok38 (sets_ok ts he _ _ hs) ?_
  rintro _ V28 hV28 ⟨u, L, rfl, hal, hu⟩
  refine AtT.kmove ?_
  refine AtT.kextract ?_
  refine AtT.kextract ?_
  refine AtT.kextract ?_
  refine AtT.kassign ?_
  refine AtT.kassign ?_
  refine AtT.kassign ?_
  refine AtT.done ?_
  refine At.nrm ?_
  replace hs := hs.le hV28
  obtain ⟨qs, aq, cq, rfl, hq, hql, hqs⟩ := hu.at
  have hne := als_ne he hal
  have hlen := als_len hal
  have hlt := als_lt hal
  have hpos : 0 < L.length := List.length_pos_iff.2 hne
  refine At.ktext (.q 0 (.q 1 (.q 2 (.q 3 .done)))) ?_
  refine AtT.kmove ?_
  refine AtT.kconv un5 Try.underlying3 ?_
  rw [wrap_fit (Fit.of (by omega) (by omega))]
  refine AtT.krem ?_
  rw [hcN]
  refine AtT.kassign ?_
  refine AtT.done ?_
  refine At.nrm ?_
  refine At.ktext (.q 0 (.q 1 (.q 2 (.q 3 (.q 4 (.q 5 (.q 6 (.q 7 (.q 8 (.q 9 (.q 10 (.n false 11 (.n false 12 (.n true 13 .done)))))))))))))) ?_
  refine AtT.kmove ?_
  refine AtT.kconv un5 Try.underlying3 ?_
  rw [wrap_fit (Fit.of (by omega) (by omega))]
  refine AtT.krem ?_
  rw [e1]
  refine AtT.kmove ?_
  refine AtT.kconv un5 Try.underlying3 ?_
  rw [wrap_fit (Fit.of (by omega) (by omega))]
  refine AtT.kquo ?_
  refine AtT.krem ?_
  rw [e2]
  refine AtT.kmove ?_
  refine AtT.kconv un5 Try.underlying3 ?_
  rw [wrap_fit (Fit.of (by omega) (by omega))]
  refine AtT.kquo ?_
  refine AtT.krem ?_
  rw [e3]
  refine AtT.kcallP rfl rfl ok44 (panelP_f p _) ?_
  rintro _ rfl
  refine AtT.kalloc z24 ?_
  intro b11
  refine AtT.kstoreA tk24 ?_
  refine AtT.done ?_
  refine At.nrm ?_
  refine At.ktext (.q 0 (.q 1 (.n false 2 (.q 3 (.q 4 (.q 5 (.q 6 (.q 7 .done)))))))) ?_
  refine AtT.kmove ?_
  refine AtT.kmove ?_
  refine AtT.kcallP rfl rfl ok45 (blame_ok ts he cN hc15 _ _ hs) ?_
  rintro _ ⟨L50, hal50, rfl⟩; obtain rfl := alS_uniq hal50 hal
  refine AtT.kmove ?_
  refine AtT.kextract ?_
  refine AtT.kextract ?_
  refine AtT.kassign ?_
  refine AtT.kassign ?_
  refine AtT.done ?_
  refine At.nrm ?_
  refine At.ktext (.q 0 (.q 1 (.n false 2 (.q 3 (.q 4 (.q 5 (.q 6 (.q 7 .done)))))))) ?_
  refine AtT.kmove ?_
  first | refine AtT.kloadOA tk24 ?_ | refine AtT.kloadA tk24 ?_ | refine AtT.kloadOP tk24 ?_
  refine AtT.kcallP rfl rfl ok46 (failsF_ok ts he p hp _ _ hs) ?_
  rintro _ ⟨L56, hal56, rfl⟩; obtain rfl := alS_uniq hal56 hal50
  refine AtT.kmove ?_
  refine AtT.kextract ?_
  refine AtT.kextract ?_
  refine AtT.kassign ?_
  refine AtT.kassign ?_
  refine AtT.done ?_
  refine At.nrm ?_
  refine At.ktext (.q 0 (.n false 1 (.q 2 (.q 3 (.q 4 (.q 5 (.q 6 .done))))))) ?_
  refine AtT.kmove ?_
  refine AtT.kcall rfl rfl ok20 (rclear_f ts _ _ hs) ?_
  rintro _ V61 hV61 ⟨u61, rfl, hu61⟩; rw [g0]
  refine AtT.kmove ?_
  refine AtT.kextract ?_
  refine AtT.kextract ?_
  refine AtT.kassign ?_
  refine AtT.kassign ?_
  refine AtT.done ?_
  refine At.nrm ?_
  replace hq := hq.le hV61
  replace hqs := fun i q x h1 h2 => (hqs i q x h1 h2).le hV61
  refine At.ktext (.q 0 (.q 1 (.q 2 (.q 3 (.q 4 (.q 5 .done)))))) ?_
  refine AtT.kmove ?_
  refine AtT.knot ?_
  refine AtT.setB (d := 65) rfl ((show (!true) = false from rfl)) ?_
  refine AtT.kmove ?_
  all_goals (first | refine AtT.kL 66 ?_ | refine AtT.pcase (d := 66) rfl (fun hg66 => ?_) (fun hg66 => ?_) | refine AtT.bcase (d := 66) rfl (fun hg66 => ?_) (fun hg66 => ?_))
  all_goals (first | refine AtT.kpass ?_ | refine AtT.kpassU ?_ | ((refine AtT.kmove ?_)))
  all_goals (first | refine AtT.kpass ?_ | refine AtT.kpassU ?_ | ((refine AtT.kneI ?_)))
  all_goals (refine AtT.setF (d := 68) rfl ((by simp)) ?_)
  all_goals (refine AtT.kpick ?_)
  all_goals refine AtT.done ?_
  all_goals (refine At.nrm ?_)
  refine At.condF rfl rfl ?_
  refine At.nrm ?_
  refine At.ktext (.q 0 (.q 1 .done)) ?_
  refine AtT.kmove ?_
  refine AtT.knot ?_
  refine AtT.setB (d := 71) rfl ((show (!true) = false from rfl)) ?_
  refine AtT.done ?_
  refine At.nrm ?_
  refine At.condF rfl rfl ?_
  refine At.nrm ?_
  refine At.ktext (.q 0 (.q 1 .done)) ?_
  refine AtT.kassign ?_
  refine AtT.kassign ?_
  refine AtT.done ?_
  refine At.nrm ?_
  refine At.ktext (.q 0 .done) ?_
  refine AtT.kassign ?_
  refine AtT.done ?_
  refine At.nrm ?_
  refine At.lp (ι := Nat) (KS := fun k => [(7, .slice aq qs.length cq), (10, iv cN), (11, .pointer (some ⟨b11, 0, none⟩)), (12, iv (bmN L56 cN)), (13, iv 0), (14, iv (flN L56 p)), (15, iv 0), (16, u61), (18, iv (tN (L56.take k) cN)), (19, iv (flN (L56.take k) p)), (20, iv k)]) (OS := fun _ => [.blk b11 (LC (pqe p) 24)])
    (VS := fun k V' => Le V61 V' ∧ k ≤ L56.length) (μ := fun k => L56.length - k) 0 ?_ ?_ ?_ ?_
  · exact ⟨rfl, rfl, rfl, rfl, rfl, rfl, rfl, rfl, rfl, rfl, rfl, trivial⟩
  · exact Pt.auto
  · exact ⟨Le.refl _, Nat.zero_le _⟩
  rintro k V' ks' O' ⟨hVV, hkl⟩ hk hO hl2
  subst hk hO
  have hq' := hq.le hVV
  refine At.nrm ?_
  refine At.ktext (.q 0 (.q 1 (.q 2 (.q 3 .done)))) ?_
  refine AtT.kmove ?_
  refine AtT.kmove ?_
  first | refine AtT.klenS Try.underlying39 ?_ | refine AtT.klenR Try.underlying39 ?_
  refine AtT.klss ?_
  refine AtT.done ?_
  refine At.nrm ?_
  refine At.condP rfl (fun hp' => ?_) (fun hp' => ?_)
  · have hk1 : k < L56.length := by omega
    obtain ⟨q, hqk⟩ : ∃ x, qs[k]? = some x := ⟨_, List.getElem?_eq_getElem (by omega)⟩
    obtain ⟨z, hz⟩ : ∃ l, L56[k]? = some l := ⟨_, List.getElem?_eq_getElem (by omega)⟩
    have hs1 := (hqs k q z hqk hz).le hVV
    have hzl := hlt z (List.mem_of_getElem? hz)
    have ht1 := tN_le (L56.take k) cN
    have ht2 := flN_le (L56.take k) p
    have htk : (L56.take k).length ≤ 32768 := by rw [List.length_take]; omega
    have hbv := bit_val z cN
    have hbt : z >>> cN &&& 1 ≤ 1 := Nat.and_le_right
    have hn1 : ((tN (L56.take k) cN : Nat) : Int) + ((z >>> cN &&& 1 : Nat) : Int) = ((tN (L56.take (k + 1)) cN : Nat) : Int) := by
      rw [hbv, tN_take hz]; split <;> simp
    have hshr : z >>> cN < 32768 := Nat.lt_of_le_of_lt (Nat.shiftRight_le _ _) hzl
    refine At.nrmB ?_
    refine At.cutG (ι := Unit) (fun _ => [(7, .slice aq qs.length cq), (10, iv cN), (11, .pointer (some ⟨b11, 0, none⟩)), (12, iv (bmN L56 cN)), (13, iv 0), (14, iv (flN L56 p)), (15, iv 0), (16, u61), (18, iv (tN (L56.take (k + 1)) cN)), (19, iv (flN (L56.take (k + 1)) p)), (20, iv k)]) (fun _ => [.blk b11 (LC (pqe p) 24)])
      (fun _ V'' => Le V' V'') ?_ ?_
    · refine At.nrm ?_
      refine At.ktext (.q 0 (.q 1 (.q 2 (.q 3 (.n false 4 (.q 5 .done)))))) ?_
      refine AtT.kmove ?_
      refine AtT.kmove ?_
      refine AtT.kidx Try.underlying39 tk25 ?_
      intro p89 e89 he89 hc89
      obtain rfl : q = e89 := by have : qs[k]? = some e89 := (by simpa using he89); rw [hqk] at this; simpa using this
      first | refine AtT.kloadO tk25 ?_ | refine AtT.kload tk25 ?_
      refine AtT.kcallP rfl rfl ok42 (bitsOf_f (bitL z 15) (bit_in z) _ _ hs1) ?_
      rintro _ rfl; rw [bt_bit hzl]
      refine AtT.kassign ?_
      refine AtT.done ?_
      refine At.nrm ?_
      refine At.ktext (.q 0 (.q 1 (.q 2 (.q 3 (.q 4 (.q 5 (.q 6 .done))))))) ?_
      refine AtT.kmove ?_
      refine AtT.kmove ?_
      refine AtT.kmove ?_
      refine AtT.shrN rfl trivial rfl rfl rfl rfl (by omega) (by decide) (A := z) (N := cN) ?_
      refine AtT.andN rfl trivial rfl rfl rfl rfl (by omega) (by decide) (by decide) (A := z >>> cN) (B := 1) ?_
      first | refine AtT.kadd ?_ | refine AtT.kaddW ?_
      rw [hn1]
      refine AtT.kassign ?_
      refine AtT.done ?_
      refine At.nrm ?_
      by_cases hm : mtB (cbN p) z = true
      · refine At.ktext (.q 0 (.q 1 (.n false 2 (.n false 3 (.q 4 (.q 5 .done)))))) ?_
        refine AtT.kmove ?_
        first | refine AtT.kloadOA tk24 ?_ | refine AtT.kloadA tk24 ?_ | refine AtT.kloadOP tk24 ?_
        refine AtT.kcall rfl rfl ok43 (causesOf_f p hp _) ?_
        rintro v100 V100 hV100 hs100
        refine AtT.kcallP rfl rfl ok42 (bitsOf_f _ (caL_in hp) _ _ hs100) ?_
        rintro _ rfl
        refine AtT.andN rfl trivial rfl rfl rfl rfl (by omega) (by show btL (caL p) < _; have : btL (caL p) < 32768 := hcb; omega) (by decide) (A := z) (B := cbN p) ?_
        refine AtT.kneI ?_
        refine AtT.setT (d := 103) rfl (((mt_val z p).2 hm)) ?_
        refine AtT.done ?_
        refine At.nrm ?_
        refine At.condT rfl rfl ?_
        refine At.nrm ?_
        refine At.ktext (.q 0 (.q 1 (.q 2 .done))) ?_
        refine AtT.kmove ?_
        first | refine AtT.kadd ?_ | refine AtT.kaddW ?_
        refine AtT.kassign ?_
        refine AtT.done ?_
        refine At.nrm ?_
        exact At.meetG () hV100 ⟨rfl, rfl, rfl, rfl, rfl, rfl, rfl, rfl, rfl, ivs (by rw [flN_take hz, if_pos hm]; simp), rfl, trivial⟩ Pt.auto
      · refine At.ktext (.q 0 (.q 1 (.n false 2 (.n false 3 (.q 4 (.q 5 .done)))))) ?_
        refine AtT.kmove ?_
        first | refine AtT.kloadOA tk24 ?_ | refine AtT.kloadA tk24 ?_ | refine AtT.kloadOP tk24 ?_
        refine AtT.kcall rfl rfl ok43 (causesOf_f p hp _) ?_
        rintro v100 V100 hV100 hs100
        refine AtT.kcallP rfl rfl ok42 (bitsOf_f _ (caL_in hp) _ _ hs100) ?_
        rintro _ rfl
        refine AtT.andN rfl trivial rfl rfl rfl rfl (by omega) (by show btL (caL p) < _; have : btL (caL p) < 32768 := hcb; omega) (by decide) (A := z) (B := cbN p) ?_
        refine AtT.kneI ?_
        refine AtT.setF (d := 103) rfl ((fun h => hm ((mt_val z p).1 h))) ?_
        refine AtT.done ?_
        refine At.nrm ?_
        refine At.condF rfl rfl ?_
        refine At.nrm ?_
        exact At.meetG () hV100 ⟨rfl, rfl, rfl, rfl, rfl, rfl, rfl, rfl, rfl, ivs (by rw [flN_take hz, if_neg hm]; simp), rfl, trivial⟩ Pt.auto
    rintro _ V3 ks' O' hV3 hk hO hl4
    subst hk hO
    refine At.nrm ?_
    refine At.ktext (.q 0 (.q 1 (.q 2 .done))) ?_
    refine AtT.kmove ?_
    first | refine AtT.kadd ?_ | refine AtT.kaddW ?_
    refine AtT.kassign ?_
    refine AtT.done ?_
    refine At.nrm ?_
    refine At.round (k + 1) ?_ ?_ ?_ ?_
    · show L56.length - (k + 1) < L56.length - k; omega
    · exact ⟨hVV.trans hV3, by omega⟩
    · exact ⟨rfl, rfl, rfl, rfl, rfl, rfl, rfl, rfl, rfl, rfl, ivs (by omega), trivial⟩
    · exact Pt.auto
  · obtain rfl : k = L56.length := by omega
    rw [List.take_length]
    have htl := tN_le L56 cN
    have hfl := flN_le L56 p
    have hu61' := hu61.le hVV
    refine At.nrm ?_
    refine At.cutG (ι := Unit) (fun _ => [(10, iv cN), (16, u61), (18, iv (tN L56 cN)), (140, .bool false)]) (fun _ => []) (fun _ V'' => V'' = V') ?_ ?_
    · by_cases c0 : tN L56 cN = 0
      · have hb : bmN L56 cN = 0 := by unfold bmN; rw [if_pos c0]
        refine At.ktext (.q 0 (.q 1 (.q 2 (.q 3 (.q 4 (.q 5 (.q 6 (.q 7 (.q 8 (.q 9 (.q 10 (.q 11 (.q 12 (.q 13 (.q 14 (.q 15 (.q 16 (.q 17 (.q 18 (.q 19 (.q 20 (.q 21 (.q 22 (.q 23 (.q 24 (.q 25 (.q 26 (.q 27 (.q 28 (.q 29 (.q 30 (.q 31 (.q 32 (.q 33 (.q 34 .done))))))))))))))))))))))))))))))))))) ?_
        refine AtT.kmove ?_
        refine AtT.kneI ?_
        refine AtT.setF (d := 107) rfl ((by simp)) ?_
        refine AtT.kmove ?_
        all_goals (first | refine AtT.kL 108 ?_ | refine AtT.pcase (d := 108) rfl (fun hg108 => ?_) (fun hg108 => ?_) | refine AtT.bcase (d := 108) rfl (fun hg108 => ?_) (fun hg108 => ?_))
        all_goals (first | refine AtT.kpass ?_ | refine AtT.kpassU ?_ | ((refine AtT.kmove ?_)))
        all_goals (first | refine AtT.kpass ?_ | refine AtT.kpassU ?_ | ((refine AtT.kneI ?_)))
        all_goals (refine AtT.setF (d := 110) rfl ((by simp)) ?_)
        all_goals (refine AtT.kpick ?_)
        all_goals (refine AtT.kmove ?_)
        all_goals (first | refine AtT.kL 112 ?_ | refine AtT.pcase (d := 112) rfl (fun hg112 => ?_) (fun hg112 => ?_) | refine AtT.bcase (d := 112) rfl (fun hg112 => ?_) (fun hg112 => ?_))
        all_goals (first | refine AtT.kpass ?_ | refine AtT.kpassU ?_ | ((refine AtT.kmove ?_)))
        all_goals (first | refine AtT.kpass ?_ | refine AtT.kpassU ?_ | ((refine AtT.kmove ?_)))
        all_goals (first | refine AtT.kpass ?_ | refine AtT.kpassU ?_ | ((refine AtT.kneI ?_)))
        all_goals (refine AtT.setF (d := 115) rfl ((by simp)) ?_)
        all_goals (refine AtT.kpick ?_)
        all_goals (refine AtT.kmove ?_)
        all_goals (first | refine AtT.kL 117 ?_ | refine AtT.pcase (d := 117) rfl (fun hg117 => ?_) (fun hg117 => ?_) | refine AtT.bcase (d := 117) rfl (fun hg117 => ?_) (fun hg117 => ?_))
        all_goals (first | refine AtT.kpass ?_ | refine AtT.kpassU ?_ | ((refine AtT.kmove ?_)))
        all_goals (first | refine AtT.kpass ?_ | refine AtT.kpassU ?_ | ((refine AtT.keqI ?_)))
        all_goals (refine AtT.setF (d := 119) rfl ((by rw [hb]; decide)) ?_)
        all_goals (first | refine AtT.kpass ?_ | refine AtT.kpassU ?_ | ((refine AtT.kmove ?_)))
        all_goals (first | refine AtT.kpass ?_ | refine AtT.kpassU ?_ | ((refine AtT.kmove ?_)))
        all_goals (first | refine AtT.kpass ?_ | refine AtT.kpassU ?_ | ((first | refine AtT.klenS Try.underlying39 ?_ | refine AtT.klenR Try.underlying39 ?_)))
        all_goals (first | refine AtT.kpass ?_ | refine AtT.kpassU ?_ | ((refine AtT.keqI ?_)))
        all_goals (refine AtT.setF (d := 123) rfl ((by omega)) ?_)
        all_goals (first | refine AtT.kpass ?_ | refine AtT.kpassU ?_ | ((refine AtT.neB rfl ⟨_, _, rfl, rfl, rfl⟩ Try.underlying4 rfl rfl (by decide) ?_)))
        all_goals (refine AtT.setB (d := 124) rfl ((show (false != false) = false from rfl)) ?_)
        all_goals (refine AtT.kpick ?_)
        all_goals (refine AtT.kmove ?_)
        all_goals (first | refine AtT.kL 126 ?_ | refine AtT.pcase (d := 126) rfl (fun hg126 => ?_) (fun hg126 => ?_) | refine AtT.bcase (d := 126) rfl (fun hg126 => ?_) (fun hg126 => ?_))
        all_goals (first | refine AtT.kpass ?_ | refine AtT.kpassU ?_ | ((refine AtT.kmove ?_)))
        all_goals (first | refine AtT.kpass ?_ | refine AtT.kpassU ?_ | ((refine AtT.keqI ?_)))
        all_goals (refine AtT.setT (d := 128) rfl (hb) ?_)
        all_goals (first | refine AtT.kpass ?_ | refine AtT.kpassU ?_ | ((refine AtT.kmove ?_)))
        all_goals (first | refine AtT.kpass ?_ | refine AtT.kpassU ?_ | ((refine AtT.keqI ?_)))
        all_goals (refine AtT.setT (d := 130) rfl ((by omega)) ?_)
        all_goals (first | refine AtT.kpass ?_ | refine AtT.kpassU ?_ | ((refine AtT.neB rfl ⟨_, _, rfl, rfl, rfl⟩ Try.underlying4 rfl rfl (by decide) ?_)))
        all_goals (refine AtT.setB (d := 131) rfl ((show (true != true) = false from rfl)) ?_)
        all_goals (refine AtT.kpick ?_)
        all_goals (refine AtT.kmove ?_)
        all_goals (first | refine AtT.kL 133 ?_ | refine AtT.pcase (d := 133) rfl (fun hg133 => ?_) (fun hg133 => ?_) | refine AtT.bcase (d := 133) rfl (fun hg133 => ?_) (fun hg133 => ?_))
        all_goals (first | refine AtT.kpass ?_ | refine AtT.kpassU ?_ | ((refine AtT.kmove ?_)))
        all_goals (first | refine AtT.kpass ?_ | refine AtT.kpassU ?_ | ((refine AtT.klss ?_)))
        all_goals (refine AtT.setF (d := 135) rfl ((by omega)) ?_)
        all_goals (refine AtT.kpick ?_)
        all_goals (refine AtT.kmove ?_)
        all_goals (first | refine AtT.kL 137 ?_ | refine AtT.pcase (d := 137) rfl (fun hg137 => ?_) (fun hg137 => ?_) | refine AtT.bcase (d := 137) rfl (fun hg137 => ?_) (fun hg137 => ?_))
        all_goals (first | refine AtT.kpass ?_ | refine AtT.kpassU ?_ | ((refine AtT.kmove ?_)))
        all_goals (first | refine AtT.kpass ?_ | refine AtT.kpassU ?_ | ((refine AtT.kgtr ?_)))
        all_goals (refine AtT.setF (d := 139) rfl ((by omega)) ?_)
        all_goals (refine AtT.kpick ?_)
        all_goals refine AtT.done ?_
        all_goals (refine At.nrm ?_)
        exact At.meetG () rfl ⟨rfl, rfl, rfl, rfl, trivial⟩ Pt.auto
      · by_cases c1 : tN L56 cN = L56.length
        · have hb : bmN L56 cN = 2 := by unfold bmN; rw [if_neg c0, if_pos c1]
          refine At.ktext (.q 0 (.q 1 (.q 2 (.q 3 (.q 4 (.q 5 (.q 6 (.q 7 (.q 8 (.q 9 (.q 10 (.q 11 (.q 12 (.q 13 (.q 14 (.q 15 (.q 16 (.q 17 (.q 18 (.q 19 (.q 20 (.q 21 (.q 22 (.q 23 (.q 24 (.q 25 (.q 26 (.q 27 (.q 28 (.q 29 (.q 30 (.q 31 (.q 32 (.q 33 (.q 34 .done))))))))))))))))))))))))))))))))))) ?_
          refine AtT.kmove ?_
          refine AtT.kneI ?_
          refine AtT.setF (d := 107) rfl ((by simp)) ?_
          refine AtT.kmove ?_
          all_goals (first | refine AtT.kL 108 ?_ | refine AtT.pcase (d := 108) rfl (fun hg108 => ?_) (fun hg108 => ?_) | refine AtT.bcase (d := 108) rfl (fun hg108 => ?_) (fun hg108 => ?_))
          all_goals (first | refine AtT.kpass ?_ | refine AtT.kpassU ?_ | ((refine AtT.kmove ?_)))
          all_goals (first | refine AtT.kpass ?_ | refine AtT.kpassU ?_ | ((refine AtT.kneI ?_)))
          all_goals (refine AtT.setF (d := 110) rfl ((by simp)) ?_)
          all_goals (refine AtT.kpick ?_)
          all_goals (refine AtT.kmove ?_)
          all_goals (first | refine AtT.kL 112 ?_ | refine AtT.pcase (d := 112) rfl (fun hg112 => ?_) (fun hg112 => ?_) | refine AtT.bcase (d := 112) rfl (fun hg112 => ?_) (fun hg112 => ?_))
          all_goals (first | refine AtT.kpass ?_ | refine AtT.kpassU ?_ | ((refine AtT.kmove ?_)))
          all_goals (first | refine AtT.kpass ?_ | refine AtT.kpassU ?_ | ((refine AtT.kmove ?_)))
          all_goals (first | refine AtT.kpass ?_ | refine AtT.kpassU ?_ | ((refine AtT.kneI ?_)))
          all_goals (refine AtT.setF (d := 115) rfl ((by simp)) ?_)
          all_goals (refine AtT.kpick ?_)
          all_goals (refine AtT.kmove ?_)
          all_goals (first | refine AtT.kL 117 ?_ | refine AtT.pcase (d := 117) rfl (fun hg117 => ?_) (fun hg117 => ?_) | refine AtT.bcase (d := 117) rfl (fun hg117 => ?_) (fun hg117 => ?_))
          all_goals (first | refine AtT.kpass ?_ | refine AtT.kpassU ?_ | ((refine AtT.kmove ?_)))
          all_goals (first | refine AtT.kpass ?_ | refine AtT.kpassU ?_ | ((refine AtT.keqI ?_)))
          all_goals (refine AtT.setT (d := 119) rfl (hb) ?_)
          all_goals (first | refine AtT.kpass ?_ | refine AtT.kpassU ?_ | ((refine AtT.kmove ?_)))
          all_goals (first | refine AtT.kpass ?_ | refine AtT.kpassU ?_ | ((refine AtT.kmove ?_)))
          all_goals (first | refine AtT.kpass ?_ | refine AtT.kpassU ?_ | ((first | refine AtT.klenS Try.underlying39 ?_ | refine AtT.klenR Try.underlying39 ?_)))
          all_goals (first | refine AtT.kpass ?_ | refine AtT.kpassU ?_ | ((refine AtT.keqI ?_)))
          all_goals (refine AtT.setT (d := 123) rfl ((by omega)) ?_)
          all_goals (first | refine AtT.kpass ?_ | refine AtT.kpassU ?_ | ((refine AtT.neB rfl ⟨_, _, rfl, rfl, rfl⟩ Try.underlying4 rfl rfl (by decide) ?_)))
          all_goals (refine AtT.setB (d := 124) rfl ((show (true != true) = false from rfl)) ?_)
          all_goals (refine AtT.kpick ?_)
          all_goals (refine AtT.kmove ?_)
          all_goals (first | refine AtT.kL 126 ?_ | refine AtT.pcase (d := 126) rfl (fun hg126 => ?_) (fun hg126 => ?_) | refine AtT.bcase (d := 126) rfl (fun hg126 => ?_) (fun hg126 => ?_))
          all_goals (first | refine AtT.kpass ?_ | refine AtT.kpassU ?_ | ((refine AtT.kmove ?_)))
          all_goals (first | refine AtT.kpass ?_ | refine AtT.kpassU ?_ | ((refine AtT.keqI ?_)))
          all_goals (refine AtT.setF (d := 128) rfl ((by rw [hb]; decide)) ?_)
          all_goals (first | refine AtT.kpass ?_ | refine AtT.kpassU ?_ | ((refine AtT.kmove ?_)))
          all_goals (first | refine AtT.kpass ?_ | refine AtT.kpassU ?_ | ((refine AtT.keqI ?_)))
          all_goals (refine AtT.setF (d := 130) rfl ((by omega)) ?_)
          all_goals (first | refine AtT.kpass ?_ | refine AtT.kpassU ?_ | ((refine AtT.neB rfl ⟨_, _, rfl, rfl, rfl⟩ Try.underlying4 rfl rfl (by decide) ?_)))
          all_goals (refine AtT.setB (d := 131) rfl ((show (false != false) = false from rfl)) ?_)
          all_goals (refine AtT.kpick ?_)
          all_goals (refine AtT.kmove ?_)
          all_goals (first | refine AtT.kL 133 ?_ | refine AtT.pcase (d := 133) rfl (fun hg133 => ?_) (fun hg133 => ?_) | refine AtT.bcase (d := 133) rfl (fun hg133 => ?_) (fun hg133 => ?_))
          all_goals (first | refine AtT.kpass ?_ | refine AtT.kpassU ?_ | ((refine AtT.kmove ?_)))
          all_goals (first | refine AtT.kpass ?_ | refine AtT.kpassU ?_ | ((refine AtT.klss ?_)))
          all_goals (refine AtT.setF (d := 135) rfl ((by omega)) ?_)
          all_goals (refine AtT.kpick ?_)
          all_goals (refine AtT.kmove ?_)
          all_goals (first | refine AtT.kL 137 ?_ | refine AtT.pcase (d := 137) rfl (fun hg137 => ?_) (fun hg137 => ?_) | refine AtT.bcase (d := 137) rfl (fun hg137 => ?_) (fun hg137 => ?_))
          all_goals (first | refine AtT.kpass ?_ | refine AtT.kpassU ?_ | ((refine AtT.kmove ?_)))
          all_goals (first | refine AtT.kpass ?_ | refine AtT.kpassU ?_ | ((refine AtT.kgtr ?_)))
          all_goals (refine AtT.setF (d := 139) rfl ((by omega)) ?_)
          all_goals (refine AtT.kpick ?_)
          all_goals refine AtT.done ?_
          all_goals (refine At.nrm ?_)
          exact At.meetG () rfl ⟨rfl, rfl, rfl, rfl, trivial⟩ Pt.auto
        · have hb : bmN L56 cN = 1 := by unfold bmN; rw [if_neg c0, if_neg c1]
          refine At.ktext (.q 0 (.q 1 (.q 2 (.q 3 (.q 4 (.q 5 (.q 6 (.q 7 (.q 8 (.q 9 (.q 10 (.q 11 (.q 12 (.q 13 (.q 14 (.q 15 (.q 16 (.q 17 (.q 18 (.q 19 (.q 20 (.q 21 (.q 22 (.q 23 (.q 24 (.q 25 (.q 26 (.q 27 (.q 28 (.q 29 (.q 30 (.q 31 (.q 32 (.q 33 (.q 34 .done))))))))))))))))))))))))))))))))))) ?_
          refine AtT.kmove ?_
          refine AtT.kneI ?_
          refine AtT.setF (d := 107) rfl ((by simp)) ?_
          refine AtT.kmove ?_
          all_goals (first | refine AtT.kL 108 ?_ | refine AtT.pcase (d := 108) rfl (fun hg108 => ?_) (fun hg108 => ?_) | refine AtT.bcase (d := 108) rfl (fun hg108 => ?_) (fun hg108 => ?_))
          all_goals (first | refine AtT.kpass ?_ | refine AtT.kpassU ?_ | ((refine AtT.kmove ?_)))
          all_goals (first | refine AtT.kpass ?_ | refine AtT.kpassU ?_ | ((refine AtT.kneI ?_)))
          all_goals (refine AtT.setF (d := 110) rfl ((by simp)) ?_)
          all_goals (refine AtT.kpick ?_)
          all_goals (refine AtT.kmove ?_)
          all_goals (first | refine AtT.kL 112 ?_ | refine AtT.pcase (d := 112) rfl (fun hg112 => ?_) (fun hg112 => ?_) | refine AtT.bcase (d := 112) rfl (fun hg112 => ?_) (fun hg112 => ?_))
          all_goals (first | refine AtT.kpass ?_ | refine AtT.kpassU ?_ | ((refine AtT.kmove ?_)))
          all_goals (first | refine AtT.kpass ?_ | refine AtT.kpassU ?_ | ((refine AtT.kmove ?_)))
          all_goals (first | refine AtT.kpass ?_ | refine AtT.kpassU ?_ | ((refine AtT.kneI ?_)))
          all_goals (refine AtT.setF (d := 115) rfl ((by simp)) ?_)
          all_goals (refine AtT.kpick ?_)
          all_goals (refine AtT.kmove ?_)
          all_goals (first | refine AtT.kL 117 ?_ | refine AtT.pcase (d := 117) rfl (fun hg117 => ?_) (fun hg117 => ?_) | refine AtT.bcase (d := 117) rfl (fun hg117 => ?_) (fun hg117 => ?_))
          all_goals (first | refine AtT.kpass ?_ | refine AtT.kpassU ?_ | ((refine AtT.kmove ?_)))
          all_goals (first | refine AtT.kpass ?_ | refine AtT.kpassU ?_ | ((refine AtT.keqI ?_)))
          all_goals (refine AtT.setF (d := 119) rfl ((by rw [hb]; decide)) ?_)
          all_goals (first | refine AtT.kpass ?_ | refine AtT.kpassU ?_ | ((refine AtT.kmove ?_)))
          all_goals (first | refine AtT.kpass ?_ | refine AtT.kpassU ?_ | ((refine AtT.kmove ?_)))
          all_goals (first | refine AtT.kpass ?_ | refine AtT.kpassU ?_ | ((first | refine AtT.klenS Try.underlying39 ?_ | refine AtT.klenR Try.underlying39 ?_)))
          all_goals (first | refine AtT.kpass ?_ | refine AtT.kpassU ?_ | ((refine AtT.keqI ?_)))
          all_goals (refine AtT.setF (d := 123) rfl ((by omega)) ?_)
          all_goals (first | refine AtT.kpass ?_ | refine AtT.kpassU ?_ | ((refine AtT.neB rfl ⟨_, _, rfl, rfl, rfl⟩ Try.underlying4 rfl rfl (by decide) ?_)))
          all_goals (refine AtT.setB (d := 124) rfl ((show (false != false) = false from rfl)) ?_)
          all_goals (refine AtT.kpick ?_)
          all_goals (refine AtT.kmove ?_)
          all_goals (first | refine AtT.kL 126 ?_ | refine AtT.pcase (d := 126) rfl (fun hg126 => ?_) (fun hg126 => ?_) | refine AtT.bcase (d := 126) rfl (fun hg126 => ?_) (fun hg126 => ?_))
          all_goals (first | refine AtT.kpass ?_ | refine AtT.kpassU ?_ | ((refine AtT.kmove ?_)))
          all_goals (first | refine AtT.kpass ?_ | refine AtT.kpassU ?_ | ((refine AtT.keqI ?_)))
          all_goals (refine AtT.setF (d := 128) rfl ((by rw [hb]; decide)) ?_)
          all_goals (first | refine AtT.kpass ?_ | refine AtT.kpassU ?_ | ((refine AtT.kmove ?_)))
          all_goals (first | refine AtT.kpass ?_ | refine AtT.kpassU ?_ | ((refine AtT.keqI ?_)))
          all_goals (refine AtT.setF (d := 130) rfl ((by omega)) ?_)
          all_goals (first | refine AtT.kpass ?_ | refine AtT.kpassU ?_ | ((refine AtT.neB rfl ⟨_, _, rfl, rfl, rfl⟩ Try.underlying4 rfl rfl (by decide) ?_)))
          all_goals (refine AtT.setB (d := 131) rfl ((show (false != false) = false from rfl)) ?_)
          all_goals (refine AtT.kpick ?_)
          all_goals (refine AtT.kmove ?_)
          all_goals (first | refine AtT.kL 133 ?_ | refine AtT.pcase (d := 133) rfl (fun hg133 => ?_) (fun hg133 => ?_) | refine AtT.bcase (d := 133) rfl (fun hg133 => ?_) (fun hg133 => ?_))
          all_goals (first | refine AtT.kpass ?_ | refine AtT.kpassU ?_ | ((refine AtT.kmove ?_)))
          all_goals (first | refine AtT.kpass ?_ | refine AtT.kpassU ?_ | ((refine AtT.klss ?_)))
          all_goals (refine AtT.setF (d := 135) rfl ((by omega)) ?_)
          all_goals (refine AtT.kpick ?_)
          all_goals (refine AtT.kmove ?_)
          all_goals (first | refine AtT.kL 137 ?_ | refine AtT.pcase (d := 137) rfl (fun hg137 => ?_) (fun hg137 => ?_) | refine AtT.bcase (d := 137) rfl (fun hg137 => ?_) (fun hg137 => ?_))
          all_goals (first | refine AtT.kpass ?_ | refine AtT.kpassU ?_ | ((refine AtT.kmove ?_)))
          all_goals (first | refine AtT.kpass ?_ | refine AtT.kpassU ?_ | ((refine AtT.kgtr ?_)))
          all_goals (refine AtT.setF (d := 139) rfl ((by omega)) ?_)
          all_goals (refine AtT.kpick ?_)
          all_goals refine AtT.done ?_
          all_goals (refine At.nrm ?_)
          exact At.meetG () rfl ⟨rfl, rfl, rfl, rfl, trivial⟩ Pt.auto
    rintro _ V3 ks' O' rfl hk hO hl4
    subst hk hO
    refine At.condF rfl rfl ?_
    have hshr : clA ts >>> cN < 32768 := Nat.lt_of_le_of_lt (Nat.shiftRight_le _ _) hcl
    refine At.nrm ?_
    by_cases hb : (clA ts).testBit cN = true
    · have h0 : tN L56 cN = 0 := tN_zero.2 fun z hz => by
        have hT := (((als_alt g0 hal56).mem z).1 hz).1
        cases d : z.testBit cN with
        | false => rfl
        | true => rw [ext_cl hT d] at hb; cases hb
      refine At.ktext (.q 0 (.n false 1 (.q 2 (.q 3 (.q 4 (.q 5 (.q 6 (.q 7 (.q 8 (.q 9 (.q 10 (.n false 11 (.q 12 (.q 13 .done)))))))))))))) ?_
      refine AtT.kmove ?_
      refine AtT.kcallP rfl rfl ok42 (bitsOf_f (clR ts) (clR_in g0) _ _ hu61') ?_
      rintro _ rfl; rw [clR_bt g0]
      refine AtT.kmove ?_
      refine AtT.shrN rfl trivial rfl rfl rfl rfl (by omega) (by decide) (A := clA ts) (N := cN) ?_
      refine AtT.andN rfl trivial rfl rfl rfl rfl (by omega) (by decide) (by decide) (A := clA ts >>> cN) (B := 1) ?_
      refine AtT.keqI ?_
      refine AtT.setF (d := 146) rfl ((by rw [bit_val, if_pos hb]; decide)) ?_
      refine AtT.kmove ?_
      all_goals (first | refine AtT.kL 147 ?_ | refine AtT.pcase (d := 147) rfl (fun hg147 => ?_) (fun hg147 => ?_) | refine AtT.bcase (d := 147) rfl (fun hg147 => ?_) (fun hg147 => ?_))
      all_goals (first | refine AtT.kpass ?_ | refine AtT.kpassU ?_ | ((refine AtT.kmove ?_)))
      all_goals (first | refine AtT.kpass ?_ | refine AtT.kpassU ?_ | ((refine AtT.keqI ?_)))
      all_goals (refine AtT.setT (d := 149) rfl ((by omega)) ?_)
      all_goals (refine AtT.kpick ?_)
      all_goals (refine AtT.kmove ?_)
      all_goals (first | refine AtT.kL 151 ?_ | refine AtT.pcase (d := 151) rfl (fun hg151 => ?_) (fun hg151 => ?_) | refine AtT.bcase (d := 151) rfl (fun hg151 => ?_) (fun hg151 => ?_))
      all_goals (first | refine AtT.kpassN ?_ | refine AtT.kpassNU ?_ | ((refine AtT.kcallP rfl rfl ok16 (works_f _) ?_) ; (rintro _ rfl)))
      all_goals (refine AtT.kpick ?_)
      all_goals (refine AtT.kassign ?_)
      all_goals refine AtT.done ?_
      all_goals (refine At.nrm ?_)
      exact At.ret1 rfl (.tmp rfl) rfl
    · refine At.ktext (.q 0 (.n false 1 (.q 2 (.q 3 (.q 4 (.q 5 (.q 6 (.q 7 (.q 8 (.q 9 (.q 10 (.n false 11 (.q 12 (.q 13 .done)))))))))))))) ?_
      refine AtT.kmove ?_
      refine AtT.kcallP rfl rfl ok42 (bitsOf_f (clR ts) (clR_in g0) _ _ hu61') ?_
      rintro _ rfl; rw [clR_bt g0]
      refine AtT.kmove ?_
      refine AtT.shrN rfl trivial rfl rfl rfl rfl (by omega) (by decide) (A := clA ts) (N := cN) ?_
      refine AtT.andN rfl trivial rfl rfl rfl rfl (by omega) (by decide) (by decide) (A := clA ts >>> cN) (B := 1) ?_
      refine AtT.keqI ?_
      refine AtT.setT (d := 146) rfl ((by rw [bit_val, if_neg hb])) ?_
      refine AtT.kmove ?_
      all_goals (first | refine AtT.kL 147 ?_ | refine AtT.pcase (d := 147) rfl (fun hg147 => ?_) (fun hg147 => ?_) | refine AtT.bcase (d := 147) rfl (fun hg147 => ?_) (fun hg147 => ?_))
      all_goals (first | refine AtT.kpass ?_ | refine AtT.kpassU ?_ | ((refine AtT.kmove ?_)))
      all_goals (first | refine AtT.kpass ?_ | refine AtT.kpassU ?_ | ((refine AtT.keqI ?_)))
      all_goals (refine AtT.kpick ?_)
      all_goals (refine AtT.kmove ?_)
      all_goals (first | refine AtT.kL 151 ?_ | refine AtT.pcase (d := 151) rfl (fun hg151 => ?_) (fun hg151 => ?_) | refine AtT.bcase (d := 151) rfl (fun hg151 => ?_) (fun hg151 => ?_))
      all_goals (first | refine AtT.kpassN ?_ | refine AtT.kpassNU ?_ | ((refine AtT.kcallP rfl rfl ok16 (works_f _) ?_) ; (rintro _ rfl)))
      all_goals (refine AtT.kpick ?_)
      all_goals (refine AtT.kassign ?_)
      all_goals refine AtT.done ?_
      all_goals (refine At.nrm ?_)
      exact At.ret1 rfl (.tmp rfl) rfl
end Go.Proofs.Ytfcpmblmklibjaa
set_option linter.unusedVariables false
namespace Go.Proofs.Ytfcpmblmklibjaa.c6
open Go.Lw Go.Gl Go.Bl Go.RowKit Go.ChangeShapes Go.WideShapes Go.ChangeAt

set_option maxRecDepth 100000 in
theorem lifted (os : Os) (started : os.Started) (H : Type) (enc : TypeId × Value → H) :
    ReturnsInHanded {} Try.checked os 8 .any (Rows.boilBlamedSpec.pre6 enc Try.prog Try.f8 Rows.boilBlamedRow.domain false) (Rows.boilBlamedSpec.post enc Try.prog Try.f8 false true false false) := by
  refine law_lift (tb := 4) (fun ds hd => by match ds, hd with | [d0, d1, d2], _ => rfl) rfl (by kernel_rfl) Try.underlying4 laidOut (by kernel_rfl) own started (by kernel_rfl) Try.func8
    (ChangeSpec.witness6 (enc := enc) (C := Try.checked) false ⟨#[], #[.slice none 0 0, .int .u8 0, .int .u8 0], []⟩ 8 (by kernel_rfl) (by kernel_rfl) (by kernel_rfl) (by kernel_rfl)) ?_
  intro W base args ds ps hval hA
  rw [Try.params8] at hA hval
  obtain ⟨v0, vs0, d0, ds0, p0, q0, hargs, rfl, rfl, h0, r0⟩ := trodAll_cons hA
  obtain ⟨v1, vs1, d1, ds1, p1, q1, rfl, rfl, rfl, h1, r1⟩ := trodAll_cons r0
  obtain ⟨v2, vs2, d2, ds2, p2, q2, rfl, rfl, rfl, h2, r2⟩ := trodAll_cons r1
  obtain ⟨rfl, rfl, rfl⟩ := trodAll_nil r2
  obtain rfl : args = #[v0, v1, v2] := by cases args; simp_all
  obtain ⟨l0, a0, c0, rfl, s0⟩ := rd_trials (hval 0 22 v0 rfl rfl) h0
  obtain ⟨x1, rfl, _, _, w1⟩ := open_int Try.underlying5 (hval 1 5 v1 rfl rfl) h1
  have b1 := bd_u8 w1
  obtain ⟨x2, rfl, _, _, w2⟩ := open_int Try.underlying5 (hval 2 5 v2 rfl rfl) h2
  have b2 := bd_u8 w2
  exact ⟨[.slice a0 l0.length c0, .int .u8 x1, .int .u8 x2], rfl, boilBlamed_f l0 x1 x2 b1 b2 _ _ s0⟩

theorem over : Rows.boilBlamedRow.holds Try.pinned (OpenSpec.ofChange Rows.boilBlamedSpec) :=
  OpenClaim.holds_of_wide 8 Try.f8 rfl rfl rfl rfl rfl rfl rfl ⟨rfl, rfl, rfl, rfl, rfl⟩ rfl rfl rfl rfl rfl (by kernel_rfl) Try.func8 (by kernel_rfl)
    (of_decide_eq_true (by kernel_rfl)) (by unfold Func.isWrapper; first | (rw [if_pos (by decide +kernel)]; kernel_rfl) | (rw [if_neg (by decide +kernel)]; exact ⟨rfl, rfl⟩))
    (fun os started H enc _ => lifted os started H enc)

theorem proved : Rows.BoilBlamedSaid := over
#print axioms proved
end Go.Proofs.Ytfcpmblmklibjaa.c6
