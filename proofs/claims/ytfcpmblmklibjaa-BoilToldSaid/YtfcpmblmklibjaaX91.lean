/- The panel that is returned tells as much as is said, more than each one before it, and at least as much as a given one; boiled, it leaves at most all smallest explanations but so many: for all valid trials, a panel by a number, whether it fails. No condition. -/
import Derived.Test.YtfcpmblmklibjaaB6
set_option linter.unusedVariables false
set_option linter.unusedSimpArgs false
set_option linter.unusedSectionVars false
set_option linter.unusedVariables false
namespace Go.Bl
open Go.Gl Go.Lw
theorem tel_nn (L : List Nat) (p : Pq) : 0 ≤ tel L p := by
  have := flN_le L p
  unfold tel; omega
/-- So many sets stay. -/
theorem fil_len (L : List Nat) (p : Pq) (f : Bool) : ((L.filter fun z => mtB z (cbN p) == f).length : Int) = if f = true then (flN L p : Int) else (L.length : Int) - flN L p := by
  have key : ∀ L : List Nat, (L.filter fun z => mtB z (cbN p) == true).length = flN L p ∧ (L.filter fun z => mtB z (cbN p) == false).length + flN L p = L.length := by
    intro L
    induction L with
    | nil => exact ⟨rfl, rfl⟩
    | cons z L ih =>
      obtain ⟨h1, h2⟩ := ih
      unfold flN at *
      cases c : mtB z (cbN p) with
      | true =>
        have c' : mtB (cbN p) z = true := by rw [mtB_symm]; exact c
        simp only [List.filter_cons, c, c', beq_self_eq_true, if_true, List.length_cons]
        rw [show (true == false) = false from rfl]
        simp only [Bool.false_eq_true, if_false]
        omega
      | false =>
        have c' : mtB (cbN p) z = false := by rw [mtB_symm]; exact c
        simp only [List.filter_cons, c, c', beq_self_eq_true, if_true, List.length_cons]
        rw [show (false == true) = false from rfl]
        simp only [Bool.false_eq_true, if_false]
        omega
  obtain ⟨h1, h2⟩ := key L
  cases f with
  | true => rw [if_pos rfl]; omega
  | false => rw [if_neg (by decide)]; omega
theorem fil_tel (L : List Nat) (p : Pq) (f : Bool) : tel L p ≤ ((L.filter fun z => mtB z (cbN p) == f).length : Int) ∧ ((L.filter fun z => mtB z (cbN p) == f).length : Int) ≤ (L.length : Int) - tel L p := by
  rw [fil_len]
  have := flN_le L p
  unfold tel
  split <;> omega
end Go.Bl
namespace Go.Proofs.Ytfcpmblmklibjaa
open Go.Lw Go.Gl Go.Bl Go.RowKit

set_option maxHeartbeats 3200000 in
/-- The panel that tells most. -/
theorem boilTold_f (ts : List Tq) (x : Int) (f : Bool) (hx : 0 ≤ x ∧ x ≤ 255) (V : View) (v : Value) (hs : Sl V tqe 4 v ts) : Fnc Try.prog 11 [v, .int .u8 x, .bool f] V fun r _ => r = .bool true := by
  obtain ⟨d1, d2, d3, hf5, hf25⟩ := digs hx
  obtain ⟨a, c, rfl, k1, k2, _⟩ := id hs
  clear k1 k2
  obtain ⟨p, e1, e2, e3⟩ : ∃ p : Pq, (x.tdiv 25).tmod 5 = p.m ∧ (x.tdiv 5).tmod 5 = p.o ∧ x.tmod 5 = p.h := ⟨⟨_, _, _⟩, rfl, rfl, rfl⟩
  have hpb : 0 ≤ p.m ∧ p.m ≤ 4 ∧ 0 ≤ p.o ∧ p.o ≤ 4 ∧ 0 ≤ p.h ∧ p.h ≤ 4 := by omega
  have hp : sndB p = true := decide_eq_true hpb
  refine fn_of Try.func11 rfl Try.ntmps11 (Nat.le_of_ble_eq_true rfl) ?_
  intro w0 hw0
  refine At.nrm ?_
  refine At.ktext (.q 0 .done) ?_
  refine AtT.kassign ?_
  refine AtT.done ?_
  refine At.nrm ?_
  by_cases g0 : trE ts = 0
  rotate_left
  · refine At.ktext (.q 0 (.n false 1 (.q 2 (.q 3 (.q 4 (.q 5 (.q 6 (.q 7 .done)))))))) ?_
    refine AtT.kmove ?_
    refine AtT.kcallP rfl rfl ok37 (fine_f ts _ _ hs) ?_
    rintro _ rfl
    refine AtT.setF (d := 21) rfl (g0) ?_
    refine AtT.knot ?_
    refine AtT.setB (d := 22) rfl ((show (!false) = true from rfl)) ?_
    refine AtT.kmove ?_
    all_goals (first | refine AtT.kL 23 ?_ | refine AtT.pcase (d := 23) rfl (fun hg23 => ?_) (fun hg23 => ?_) | refine AtT.bcase (d := 23) rfl (fun hg23 => ?_) (fun hg23 => ?_))
    all_goals (first | refine AtT.kpass ?_ | refine AtT.kpassU ?_ | ((refine AtT.kmove ?_)))
    all_goals (first | refine AtT.kpass ?_ | refine AtT.kpassU ?_ | ((first | refine AtT.klenS Try.underlying22 ?_ | refine AtT.klenR Try.underlying22 ?_)))
    all_goals (first | refine AtT.kpass ?_ | refine AtT.kpassU ?_ | ((refine AtT.kgeq ?_)))
    all_goals (refine AtT.kpick ?_)
    all_goals refine AtT.done ?_
    all_goals (refine At.nrm ?_)
    refine At.condT rfl rfl ?_
    refine At.nrm ?_
    refine At.ktext (.n false 0 (.q 1 .done)) ?_
    refine AtT.kcallP rfl rfl ok16 (works_f _) ?_
    rintro _ rfl
    refine AtT.kassign ?_
    refine AtT.done ?_
    refine At.nrm ?_
    exact At.ret1 rfl (.tmp rfl) rfl
  obtain ⟨h16, ht⟩ := trE_ok g0
  by_cases g2 : 16 ≤ (ts.length : Int)
  · refine At.ktext (.q 0 (.n false 1 (.q 2 (.q 3 (.q 4 (.q 5 (.q 6 (.q 7 .done)))))))) ?_
    refine AtT.kmove ?_
    refine AtT.kcallP rfl rfl ok37 (fine_f ts _ _ hs) ?_
    rintro _ rfl
    refine AtT.setT (d := 21) rfl (g0) ?_
    refine AtT.knot ?_
    refine AtT.setB (d := 22) rfl ((show (!true) = false from rfl)) ?_
    refine AtT.kmove ?_
    all_goals (first | refine AtT.kL 23 ?_ | refine AtT.pcase (d := 23) rfl (fun hg23 => ?_) (fun hg23 => ?_) | refine AtT.bcase (d := 23) rfl (fun hg23 => ?_) (fun hg23 => ?_))
    all_goals (first | refine AtT.kpass ?_ | refine AtT.kpassU ?_ | ((refine AtT.kmove ?_)))
    all_goals (first | refine AtT.kpass ?_ | refine AtT.kpassU ?_ | ((first | refine AtT.klenS Try.underlying22 ?_ | refine AtT.klenR Try.underlying22 ?_)))
    all_goals (first | refine AtT.kpass ?_ | refine AtT.kpassU ?_ | ((refine AtT.kgeq ?_)))
    all_goals (refine AtT.setT (d := 26) rfl (g2) ?_)
    all_goals (refine AtT.kpick ?_)
    all_goals refine AtT.done ?_
    all_goals (refine At.nrm ?_)
    refine At.condT rfl rfl ?_
    refine At.nrm ?_
    refine At.ktext (.n false 0 (.q 1 .done)) ?_
    refine AtT.kcallP rfl rfl ok16 (works_f _) ?_
    rintro _ rfl
    refine AtT.kassign ?_
    refine AtT.done ?_
    refine At.nrm ?_
    exact At.ret1 rfl (.tmp rfl) rfl
  refine At.ktext (.q 0 (.n false 1 (.q 2 (.q 3 (.q 4 (.q 5 (.q 6 (.q 7 .done)))))))) ?_
  refine AtT.kmove ?_
  refine AtT.kcallP rfl rfl ok37 (fine_f ts _ _ hs) ?_
  rintro _ rfl
  refine AtT.setT (d := 21) rfl (g0) ?_
  refine AtT.knot ?_
  refine AtT.setB (d := 22) rfl ((show (!true) = false from rfl)) ?_
  refine AtT.kmove ?_
  all_goals (first | refine AtT.kL 23 ?_ | refine AtT.pcase (d := 23) rfl (fun hg23 => ?_) (fun hg23 => ?_) | refine AtT.bcase (d := 23) rfl (fun hg23 => ?_) (fun hg23 => ?_))
  all_goals (first | refine AtT.kpass ?_ | refine AtT.kpassU ?_ | ((refine AtT.kmove ?_)))
  all_goals (first | refine AtT.kpass ?_ | refine AtT.kpassU ?_ | ((first | refine AtT.klenS Try.underlying22 ?_ | refine AtT.klenR Try.underlying22 ?_)))
  all_goals (first | refine AtT.kpass ?_ | refine AtT.kpassU ?_ | ((refine AtT.kgeq ?_)))
  all_goals (refine AtT.setF (d := 26) rfl (g2) ?_)
  all_goals (refine AtT.kpick ?_)
  all_goals refine AtT.done ?_
  all_goals (refine At.nrm ?_)
  refine At.condF rfl rfl ?_
  refine At.nrm ?_
  refine At.ktext (.q 0 (.q 1 (.q 2 (.q 3 (.q 4 (.q 5 (.q 6 (.q 7 (.q 8 (.q 9 (.q 10 (.n false 11 (.n false 12 (.n true 13 .done)))))))))))))) ?_
  refine AtT.kmove ?_
  refine AtT.kconv un5 Try.underlying3 ?_
  rw [wrap_fit (Fit.of (by omega) (by omega))]
  refine AtT.kquo ?_
  refine AtT.krem ?_
  rw [e1]
  refine AtT.kmove ?_
  refine AtT.kconv un5 Try.underlying3 ?_
  rw [wrap_fit (Fit.of (by omega) (by omega))]
  refine AtT.kquo ?_
  refine AtT.krem ?_
  rw [e2]
  refine AtT.kmove ?_
  refine AtT.kconv un5 Try.underlying3 ?_
  rw [wrap_fit (Fit.of (by omega) (by omega))]
  refine AtT.krem ?_
  rw [e3]
  refine AtT.kcallP rfl rfl ok44 (panelP_f p _) ?_
  rintro _ rfl
  refine AtT.kalloc z24 ?_
  intro b7
  refine AtT.kstoreA tk24 ?_
  refine AtT.done ?_
  refine At.nrm ?_
  by_cases he : alE ts = 0
  rotate_left
  · have h26 := (alE_26 g0 he).1
    refine At.ktext (.q 0 (.n false 1 (.q 2 (.q 3 (.q 4 (.q 5 (.q 6 (.q 7 (.q 8 .done))))))))) ?_
    refine AtT.kmove ?_
    refine AtT.kcallP rfl rfl ok38 (sets_no ts g0 he _ _ hs) ?_
    rintro _ rfl
    refine AtT.kmove ?_
    refine AtT.kextract ?_
    refine AtT.kextract ?_
    refine AtT.kextract ?_
    refine AtT.kassign ?_
    refine AtT.kassign ?_
    refine AtT.kassign ?_
    refine AtT.done ?_
    refine At.nrm ?_
    refine At.ktext (.q 0 (.n false 1 (.q 2 (.q 3 (.q 4 (.q 5 (.n false 6 (.n true 7 (.q 8 (.q 9 .done)))))))))) ?_
    refine AtT.kmove ?_
    refine AtT.kcallP rfl rfl ok47 (next_bad ts he _ _ hs) ?_
    rintro _ rfl; rw [h26]
    refine AtT.kmove ?_
    refine AtT.kextract ?_
    refine AtT.kextract ?_
    refine AtT.kextract ?_
    refine AtT.kalloc z24 ?_
    intro b11
    refine AtT.kstoreA tk24 ?_
    refine AtT.kassign ?_
    refine AtT.kassign ?_
    refine AtT.done ?_
    refine At.nrm ?_
    refine At.ktext (.q 0 (.q 1 .done)) ?_
    refine AtT.kmove ?_
    refine AtT.knot ?_
    refine AtT.setB (d := 54) rfl ((show (!true) = false from rfl)) ?_
    refine AtT.done ?_
    refine At.nrm ?_
    refine At.condF rfl rfl ?_
    refine At.nrm ?_
    refine At.ktext (.q 0 (.q 1 .done)) ?_
    refine AtT.kmove ?_
    refine AtT.knot ?_
    refine AtT.setB (d := 56) rfl ((show (!false) = true from rfl)) ?_
    refine AtT.done ?_
    refine At.nrm ?_
    refine At.condT rfl rfl ?_
    refine At.nrm ?_
    refine At.ktext (.q 0 (.q 1 (.q 2 (.n false 3 (.q 4 (.q 5 .done)))))) ?_
    refine AtT.kmove ?_
    refine AtT.keqI ?_
    refine AtT.setT (d := 58) rfl (rfl) ?_
    refine AtT.kmove ?_
    all_goals (first | refine AtT.kL 59 ?_ | refine AtT.pcase (d := 59) rfl (fun hg59 => ?_) (fun hg59 => ?_) | refine AtT.bcase (d := 59) rfl (fun hg59 => ?_) (fun hg59 => ?_))
    all_goals (first | refine AtT.kpassN ?_ | refine AtT.kpassNU ?_ | ((refine AtT.kcallP rfl rfl ok16 (works_f _) ?_) ; (rintro _ rfl)))
    all_goals (refine AtT.kpick ?_)
    all_goals (refine AtT.kassign ?_)
    all_goals refine AtT.done ?_
    all_goals (refine At.nrm ?_)
    exact At.ret1 rfl (.tmp rfl) rfl
  refine At.ktext (.q 0 (.n false 1 (.q 2 (.q 3 (.q 4 (.q 5 (.q 6 (.q 7 (.q 8 .done))))))))) ?_
  refine AtT.kmove ?_
  refine AtT.kcall rfl rfl ok38 (sets_ok ts he _ _ hs) ?_
  rintro _ V43 hV43 ⟨u, L, rfl, hal, hu⟩
  refine AtT.kmove ?_
  refine AtT.kextract ?_
  refine AtT.kextract ?_
  refine AtT.kextract ?_
  refine AtT.kassign ?_
  refine AtT.kassign ?_
  refine AtT.kassign ?_
  refine AtT.done ?_
  refine At.nrm ?_
  have halt := als_alt g0 hal
  have hlt := als_lt hal
  have hlen := als_len hal
  replace hs := hs.le hV43
  obtain ⟨qs, aq, cq, rfl, hq, hql, hqs⟩ := hu.at
  have hfo := flN_le L p
  have htel : min (flN L p : Int) ((qs.length : Int) - (flN L p : Int)) = tel L p := by unfold tel; rw [hql]
  have htn := tel_nn L p
  have hnx : ∀ V' v', Sl V' tqe 4 v' ts → Fnc Try.prog 47 [v'] V' fun r _ => r = .tuple #[pqv (nxR L).1, iv (nxR L).2.1, iv (nxR L).2.2] := fun V' v' h => (next_ok ts he V' v' h).mono fun r V'' _ ⟨L', h1, h2⟩ => by obtain rfl := alS_uniq h1 hal; exact h2
  by_cases hz : tel L (mostP L) = 0
  · have hn : nxR L = (⟨0, 0, 0⟩, 0, 5) := by unfold nxR; rw [if_pos hz]
    have hbest := (most_best L hp).1
    have hnb : Fnc Try.prog 47 [.slice a ts.length c] V43 fun r _ => r = .tuple #[pqv ⟨0, 0, 0⟩, iv 0, iv 5] := by
      have h := hnx _ _ hs
      rw [hn] at h
      exact h
    refine At.ktext (.q 0 (.n false 1 (.q 2 (.q 3 (.q 4 (.q 5 (.n false 6 (.n true 7 (.q 8 (.q 9 .done)))))))))) ?_
    refine AtT.kmove ?_
    refine AtT.kcallP rfl rfl ok47 (hnb) ?_
    rintro _ rfl
    refine AtT.kmove ?_
    refine AtT.kextract ?_
    refine AtT.kextract ?_
    refine AtT.kextract ?_
    refine AtT.kalloc z24 ?_
    intro b11
    refine AtT.kstoreA tk24 ?_
    refine AtT.kassign ?_
    refine AtT.kassign ?_
    refine AtT.done ?_
    refine At.nrm ?_
    refine At.ktext (.q 0 (.q 1 .done)) ?_
    refine AtT.kmove ?_
    refine AtT.knot ?_
    refine AtT.setB (d := 54) rfl ((show (!true) = false from rfl)) ?_
    refine AtT.done ?_
    refine At.nrm ?_
    refine At.condF rfl rfl ?_
    refine At.nrm ?_
    refine At.ktext (.q 0 (.q 1 .done)) ?_
    refine AtT.kmove ?_
    refine AtT.knot ?_
    refine AtT.setB (d := 56) rfl ((show (!true) = false from rfl)) ?_
    refine AtT.done ?_
    refine At.nrm ?_
    refine At.condF rfl rfl ?_
    refine At.nrm ?_
    refine At.ktext (.q 0 (.q 1 (.n false 2 (.q 3 (.q 4 (.q 5 (.q 6 (.q 7 .done)))))))) ?_
    refine AtT.kmove ?_
    first | refine AtT.kloadOA tk24 ?_ | refine AtT.kloadA tk24 ?_ | refine AtT.kloadOP tk24 ?_
    refine AtT.kcallP rfl rfl ok46 (failsF_ok ts he p hp _ _ hs) ?_
    rintro _ ⟨L65, hal65, rfl⟩; obtain rfl := alS_uniq hal65 hal
    refine AtT.kmove ?_
    refine AtT.kextract ?_
    refine AtT.kextract ?_
    refine AtT.kassign ?_
    refine AtT.kassign ?_
    refine AtT.done ?_
    refine At.nrm ?_
    refine At.ktext (.q 0 (.q 1 (.q 2 (.q 3 (.q 4 (.q 5 (.q 6 (.q 7 (.q 8 (.q 9 (.q 10 (.q 11 .done)))))))))))) ?_
    refine AtT.kmove ?_
    refine AtT.kneI ?_
    refine AtT.setF (d := 69) rfl ((by simp)) ?_
    refine AtT.kmove ?_
    all_goals (first | refine AtT.kL 70 ?_ | refine AtT.pcase (d := 70) rfl (fun hg70 => ?_) (fun hg70 => ?_) | refine AtT.bcase (d := 70) rfl (fun hg70 => ?_) (fun hg70 => ?_))
    all_goals (first | refine AtT.kpass ?_ | refine AtT.kpassU ?_ | ((refine AtT.kmove ?_)))
    all_goals (first | refine AtT.kpass ?_ | refine AtT.kpassU ?_ | ((refine AtT.klss ?_)))
    all_goals (refine AtT.setF (d := 72) rfl ((by omega)) ?_)
    all_goals (refine AtT.kpick ?_)
    all_goals (refine AtT.kmove ?_)
    all_goals (first | refine AtT.kL 74 ?_ | refine AtT.pcase (d := 74) rfl (fun hg74 => ?_) (fun hg74 => ?_) | refine AtT.bcase (d := 74) rfl (fun hg74 => ?_) (fun hg74 => ?_))
    all_goals (first | refine AtT.kpass ?_ | refine AtT.kpassU ?_ | ((refine AtT.kmove ?_)))
    all_goals (first | refine AtT.kpass ?_ | refine AtT.kpassU ?_ | ((refine AtT.kmove ?_)))
    all_goals (first | refine AtT.kpass ?_ | refine AtT.kpassU ?_ | ((first | refine AtT.klenS Try.underlying39 ?_ | refine AtT.klenR Try.underlying39 ?_)))
    all_goals (first | refine AtT.kpass ?_ | refine AtT.kpassU ?_ | ((refine AtT.kgtr ?_)))
    all_goals (refine AtT.setF (d := 78) rfl ((by omega)) ?_)
    all_goals (refine AtT.kpick ?_)
    all_goals refine AtT.done ?_
    all_goals (refine At.nrm ?_)
    refine At.condF rfl rfl ?_
    refine At.nrm ?_
    refine At.ktext (.q 0 (.q 1 (.q 2 (.q 3 (.q 4 (.q 5 (.q 6 .done))))))) ?_
    refine AtT.kmove ?_
    refine AtT.kmove ?_
    first | refine AtT.klenS Try.underlying39 ?_ | refine AtT.klenR Try.underlying39 ?_
    refine AtT.kmove ?_
    first | refine AtT.ksubt ?_ | refine AtT.ksubW ?_
    refine AtT.kmin2 ?_
    rw [htel]
    refine AtT.kassign ?_
    refine AtT.done ?_
    refine At.nrm ?_
    refine At.ktext (.q 0 (.q 1 .done)) ?_
    refine AtT.kmove ?_
    refine AtT.kneI ?_
    refine AtT.setT (d := 87) rfl ((by simp)) ?_
    refine AtT.done ?_
    refine At.nrm ?_
    refine At.condT rfl rfl ?_
    refine At.nrm ?_
    refine At.ktext (.q 0 (.q 1 (.q 2 (.q 3 (.q 4 (.q 5 (.q 6 (.n false 7 (.q 8 (.q 9 .done)))))))))) ?_
    refine AtT.kmove ?_
    refine AtT.keqI ?_
    refine AtT.setT (d := 89) rfl (rfl) ?_
    refine AtT.kmove ?_
    all_goals (first | refine AtT.kL 90 ?_ | refine AtT.pcase (d := 90) rfl (fun hg90 => ?_) (fun hg90 => ?_) | refine AtT.bcase (d := 90) rfl (fun hg90 => ?_) (fun hg90 => ?_))
    all_goals (first | refine AtT.kpass ?_ | refine AtT.kpassU ?_ | ((refine AtT.kmove ?_)))
    all_goals (first | refine AtT.kpass ?_ | refine AtT.kpassU ?_ | ((refine AtT.keqI ?_)))
    all_goals (refine AtT.setT (d := 92) rfl ((by omega)) ?_)
    all_goals (refine AtT.kpick ?_)
    all_goals (refine AtT.kmove ?_)
    all_goals (first | refine AtT.kL 94 ?_ | refine AtT.pcase (d := 94) rfl (fun hg94 => ?_) (fun hg94 => ?_) | refine AtT.bcase (d := 94) rfl (fun hg94 => ?_) (fun hg94 => ?_))
    all_goals (first | refine AtT.kpassN ?_ | refine AtT.kpassNU ?_ | ((refine AtT.kcallP rfl rfl ok16 (works_f _) ?_) ; (rintro _ rfl)))
    all_goals (refine AtT.kpick ?_)
    all_goals (refine AtT.kassign ?_)
    all_goals refine AtT.done ?_
    all_goals (refine At.nrm ?_)
    exact At.ret1 rfl (.tmp rfl) rfl
  obtain ⟨q, hqe⟩ : ∃ q, q = mostP L := ⟨_, rfl⟩
  have hqs2 : sndB q = true := panL_snd q (by rw [hqe]; exact mostP_mem L)
  have hqb : 0 ≤ q.m ∧ q.m ≤ 4 ∧ 0 ≤ q.o ∧ q.o ≤ 4 ∧ 0 ≤ q.h ∧ q.h ≤ 4 := by unfold sndB at hqs2; exact of_decide_eq_true hqs2
  rw [← hqe] at hz
  have hn : nxR L = (q, tel L q, 0) := by unfold nxR; rw [← hqe, if_neg hz]
  have hbest := most_best L hp
  rw [← hqe] at hbest
  have hqn := tel_nn L q
  have hfq := flN_le L q
  have htelq : min (flN L q : Int) ((qs.length : Int) - (flN L q : Int)) = tel L q := by unfold tel; rw [hql]
  have hnb : Fnc Try.prog 47 [.slice a ts.length c] V43 fun r _ => r = .tuple #[pqv q, iv (tel L q), iv 0] := by
    have h := hnx _ _ hs
    rw [hn] at h
    exact h
  have hxl : (ts ++ [(⟨q, f⟩ : Tq)]).length = ts.length + 1 := by simp
  have g1 : trE (ts ++ [(⟨q, f⟩ : Tq)]) = 0 := trE_snoc ht (by omega) hqs2
  obtain ⟨hm1, hm2⟩ := fil_tel L q f
  obtain ⟨w, hw⟩ := List.exists_mem_of_ne_nil (L.filter fun z => mtB z (cbN q) == f) (fun h => by rw [h] at hm1; simp at hm1; omega)
  have hflt := alt_filter (t := (⟨q, f⟩ : Tq)) halt ⟨w, (List.mem_filter.1 hw).1, by have := (List.mem_filter.1 hw).2; simpa using this⟩
  have he' : alE (ts ++ [(⟨q, f⟩ : Tq)]) = 0 := (alE_ext g1).2 ⟨w, ((hflt.mem w).1 hw).1⟩
  have hqtl : tel L q ≤ (L.length : Int) := by unfold tel; omega
  refine At.ktext (.q 0 (.n false 1 (.q 2 (.q 3 (.q 4 (.q 5 (.n false 6 (.n true 7 (.q 8 (.q 9 .done)))))))))) ?_
  refine AtT.kmove ?_
  refine AtT.kcallP rfl rfl ok47 (hnb) ?_
  rintro _ rfl
  refine AtT.kmove ?_
  refine AtT.kextract ?_
  refine AtT.kextract ?_
  refine AtT.kextract ?_
  refine AtT.kalloc z24 ?_
  intro b11
  refine AtT.kstoreA tk24 ?_
  refine AtT.kassign ?_
  refine AtT.kassign ?_
  refine AtT.done ?_
  refine At.nrm ?_
  refine At.ktext (.q 0 (.q 1 .done)) ?_
  refine AtT.kmove ?_
  refine AtT.knot ?_
  refine AtT.setB (d := 54) rfl ((show (!true) = false from rfl)) ?_
  refine AtT.done ?_
  refine At.nrm ?_
  refine At.condF rfl rfl ?_
  refine At.nrm ?_
  refine At.ktext (.q 0 (.q 1 .done)) ?_
  refine AtT.kmove ?_
  refine AtT.knot ?_
  refine AtT.setB (d := 56) rfl ((show (!true) = false from rfl)) ?_
  refine AtT.done ?_
  refine At.nrm ?_
  refine At.condF rfl rfl ?_
  refine At.nrm ?_
  refine At.ktext (.q 0 (.q 1 (.n false 2 (.q 3 (.q 4 (.q 5 (.q 6 (.q 7 .done)))))))) ?_
  refine AtT.kmove ?_
  first | refine AtT.kloadOA tk24 ?_ | refine AtT.kloadA tk24 ?_ | refine AtT.kloadOP tk24 ?_
  refine AtT.kcallP rfl rfl ok46 (failsF_ok ts he p hp _ _ hs) ?_
  rintro _ ⟨L65, hal65, rfl⟩; obtain rfl := alS_uniq hal65 hal
  refine AtT.kmove ?_
  refine AtT.kextract ?_
  refine AtT.kextract ?_
  refine AtT.kassign ?_
  refine AtT.kassign ?_
  refine AtT.done ?_
  refine At.nrm ?_
  refine At.ktext (.q 0 (.q 1 (.q 2 (.q 3 (.q 4 (.q 5 (.q 6 (.q 7 (.q 8 (.q 9 (.q 10 (.q 11 .done)))))))))))) ?_
  refine AtT.kmove ?_
  refine AtT.kneI ?_
  refine AtT.setF (d := 69) rfl ((by simp)) ?_
  refine AtT.kmove ?_
  all_goals (first | refine AtT.kL 70 ?_ | refine AtT.pcase (d := 70) rfl (fun hg70 => ?_) (fun hg70 => ?_) | refine AtT.bcase (d := 70) rfl (fun hg70 => ?_) (fun hg70 => ?_))
  all_goals (first | refine AtT.kpass ?_ | refine AtT.kpassU ?_ | ((refine AtT.kmove ?_)))
  all_goals (first | refine AtT.kpass ?_ | refine AtT.kpassU ?_ | ((refine AtT.klss ?_)))
  all_goals (refine AtT.setF (d := 72) rfl ((by omega)) ?_)
  all_goals (refine AtT.kpick ?_)
  all_goals (refine AtT.kmove ?_)
  all_goals (first | refine AtT.kL 74 ?_ | refine AtT.pcase (d := 74) rfl (fun hg74 => ?_) (fun hg74 => ?_) | refine AtT.bcase (d := 74) rfl (fun hg74 => ?_) (fun hg74 => ?_))
  all_goals (first | refine AtT.kpass ?_ | refine AtT.kpassU ?_ | ((refine AtT.kmove ?_)))
  all_goals (first | refine AtT.kpass ?_ | refine AtT.kpassU ?_ | ((refine AtT.kmove ?_)))
  all_goals (first | refine AtT.kpass ?_ | refine AtT.kpassU ?_ | ((first | refine AtT.klenS Try.underlying39 ?_ | refine AtT.klenR Try.underlying39 ?_)))
  all_goals (first | refine AtT.kpass ?_ | refine AtT.kpassU ?_ | ((refine AtT.kgtr ?_)))
  all_goals (refine AtT.setF (d := 78) rfl ((by omega)) ?_)
  all_goals (refine AtT.kpick ?_)
  all_goals refine AtT.done ?_
  all_goals (refine At.nrm ?_)
  refine At.condF rfl rfl ?_
  refine At.nrm ?_
  refine At.ktext (.q 0 (.q 1 (.q 2 (.q 3 (.q 4 (.q 5 (.q 6 .done))))))) ?_
  refine AtT.kmove ?_
  refine AtT.kmove ?_
  first | refine AtT.klenS Try.underlying39 ?_ | refine AtT.klenR Try.underlying39 ?_
  refine AtT.kmove ?_
  first | refine AtT.ksubt ?_ | refine AtT.ksubW ?_
  refine AtT.kmin2 ?_
  rw [htel]
  refine AtT.kassign ?_
  refine AtT.done ?_
  refine At.nrm ?_
  refine At.ktext (.q 0 (.q 1 .done)) ?_
  refine AtT.kmove ?_
  refine AtT.kneI ?_
  refine AtT.setF (d := 87) rfl ((by simp)) ?_
  refine AtT.done ?_
  refine At.nrm ?_
  refine At.condF rfl rfl ?_
  refine At.nrm ?_
  refine At.ktext (.q 0 (.q 1 (.n false 2 (.q 3 (.q 4 (.q 5 (.q 6 (.q 7 .done)))))))) ?_
  refine AtT.kmove ?_
  first | refine AtT.kloadOA tk24 ?_ | refine AtT.kloadA tk24 ?_ | refine AtT.kloadOP tk24 ?_
  refine AtT.kcallP rfl rfl ok46 (failsF_ok ts he q hqs2 _ _ hs) ?_
  rintro _ ⟨L100, hal100, rfl⟩; obtain rfl := alS_uniq hal100 hal65
  refine AtT.kmove ?_
  refine AtT.kextract ?_
  refine AtT.kextract ?_
  refine AtT.kassign ?_
  refine AtT.kassign ?_
  refine AtT.done ?_
  refine At.nrm ?_
  refine At.ktext (.q 0 (.q 1 (.q 2 (.q 3 (.n false 4 (.q 5 (.q 6 (.q 7 (.q 8 (.q 9 (.q 10 (.q 11 (.q 12 (.q 13 (.q 14 (.q 15 (.q 16 (.q 17 (.q 18 (.q 19 (.q 20 (.q 21 (.q 22 (.q 23 (.q 24 (.q 25 .done)))))))))))))))))))))))))) ?_
  refine AtT.kmove ?_
  refine AtT.kneI ?_
  refine AtT.setF (d := 104) rfl ((by simp)) ?_
  refine AtT.kmove ?_
  all_goals (first | refine AtT.kL 105 ?_ | refine AtT.pcase (d := 105) rfl (fun hg105 => ?_) (fun hg105 => ?_) | refine AtT.bcase (d := 105) rfl (fun hg105 => ?_) (fun hg105 => ?_))
  all_goals (first | refine AtT.kpass ?_ | refine AtT.kpassU ?_ | ((first | refine AtT.kloadOA tk24 ?_ | refine AtT.kloadA tk24 ?_ | refine AtT.kloadOP tk24 ?_)))
  all_goals (first | refine AtT.kpassN ?_ | refine AtT.kpassNU ?_ | ((refine AtT.kcallP rfl rfl ok48 (isPanel_f q _) ?_) ; (rintro _ rfl; rw [hqs2])))
  all_goals (first | refine AtT.kpass ?_ | refine AtT.kpassU ?_ | ((refine AtT.knot ?_)))
  all_goals (refine AtT.setB (d := 108) rfl ((show (!true) = false from rfl)) ?_)
  all_goals (refine AtT.kpick ?_)
  all_goals (refine AtT.kmove ?_)
  all_goals (first | refine AtT.kL 110 ?_ | refine AtT.pcase (d := 110) rfl (fun hg110 => ?_) (fun hg110 => ?_) | refine AtT.bcase (d := 110) rfl (fun hg110 => ?_) (fun hg110 => ?_))
  all_goals (first | refine AtT.kpass ?_ | refine AtT.kpassU ?_ | ((refine AtT.kmove ?_)))
  all_goals (first | refine AtT.kpass ?_ | refine AtT.kpassU ?_ | ((refine AtT.klss ?_)))
  all_goals (refine AtT.setF (d := 112) rfl ((by omega)) ?_)
  all_goals (refine AtT.kpick ?_)
  all_goals (refine AtT.kmove ?_)
  all_goals (first | refine AtT.kL 114 ?_ | refine AtT.pcase (d := 114) rfl (fun hg114 => ?_) (fun hg114 => ?_) | refine AtT.bcase (d := 114) rfl (fun hg114 => ?_) (fun hg114 => ?_))
  all_goals (first | refine AtT.kpass ?_ | refine AtT.kpassU ?_ | ((refine AtT.kmove ?_)))
  all_goals (first | refine AtT.kpass ?_ | refine AtT.kpassU ?_ | ((refine AtT.kmove ?_)))
  all_goals (first | refine AtT.kpass ?_ | refine AtT.kpassU ?_ | ((first | refine AtT.klenS Try.underlying39 ?_ | refine AtT.klenR Try.underlying39 ?_)))
  all_goals (first | refine AtT.kpass ?_ | refine AtT.kpassU ?_ | ((refine AtT.kmove ?_)))
  all_goals (first | refine AtT.kpass ?_ | refine AtT.kpassU ?_ | ((first | refine AtT.ksubt ?_ | refine AtT.ksubW ?_)))
  all_goals (first | refine AtT.kpass ?_ | refine AtT.kpassU ?_ | ((refine AtT.kmin2 ?_)))
  all_goals (rw [htelq])
  all_goals (first | refine AtT.kpass ?_ | refine AtT.kpassU ?_ | ((refine AtT.kmove ?_)))
  all_goals (first | refine AtT.kpass ?_ | refine AtT.kpassU ?_ | ((refine AtT.kneI ?_)))
  all_goals (refine AtT.setF (d := 122) rfl ((by simp)) ?_)
  all_goals (refine AtT.kpick ?_)
  all_goals (refine AtT.kmove ?_)
  all_goals (first | refine AtT.kL 124 ?_ | refine AtT.pcase (d := 124) rfl (fun hg124 => ?_) (fun hg124 => ?_) | refine AtT.bcase (d := 124) rfl (fun hg124 => ?_) (fun hg124 => ?_))
  all_goals (first | refine AtT.kpass ?_ | refine AtT.kpassU ?_ | ((refine AtT.kmove ?_)))
  all_goals (first | refine AtT.kpass ?_ | refine AtT.kpassU ?_ | ((refine AtT.kmove ?_)))
  all_goals (first | refine AtT.kpass ?_ | refine AtT.kpassU ?_ | ((refine AtT.kgtr ?_)))
  all_goals (refine AtT.setF (d := 127) rfl ((by omega)) ?_)
  all_goals (refine AtT.kpick ?_)
  all_goals refine AtT.done ?_
  all_goals (refine At.nrm ?_)
  refine At.condF rfl rfl ?_
  refine At.nrm ?_
  refine At.cutG (ι := Unit) (fun _ => [(0, .slice a ts.length c), (2, .bool f), (8, .slice aq qs.length cq), (11, .pointer (some ⟨b11, 0, none⟩)), (12, iv (tel L100 q)), (154, .bool false)]) (fun _ => [.blk b11 (LC (pqe q) 24)]) (fun _ V'' => V'' = V43) ?_ ?_
  · by_cases ht1 : tel L100 p = tel L100 q
    · have hcode := hbest.2 ht1
      refine At.ktext (.q 0 (.q 1 (.q 2 (.q 3 (.q 4 (.q 5 (.q 6 (.q 7 (.q 8 (.q 9 (.q 10 (.q 11 (.q 12 (.q 13 (.q 14 (.q 15 (.q 16 (.q 17 (.q 18 (.q 19 (.q 20 (.q 21 (.q 22 (.q 23 (.q 24 (.q 25 .done)))))))))))))))))))))))))) ?_
      refine AtT.kmove ?_
      refine AtT.kmove ?_
      refine AtT.keqI ?_
      refine AtT.setT (d := 131) rfl (ht1) ?_
      refine AtT.kmove ?_
      all_goals (first | refine AtT.kL 132 ?_ | refine AtT.pcase (d := 132) rfl (fun hg132 => ?_) (fun hg132 => ?_) | refine AtT.bcase (d := 132) rfl (fun hg132 => ?_) (fun hg132 => ?_))
      all_goals (first | refine AtT.kpass ?_ | refine AtT.kpassU ?_ | ((first | refine AtT.kfieldO fo24_0 ?_ | with_reducible refine AtT.kfield2 fo24_0 ?_ | refine AtT.kfield fo24_0 ?_)))
      all_goals (first | refine AtT.kpass ?_ | refine AtT.kpassU ?_ | ((first | refine AtT.kloadO tk3 ?_ | refine AtT.kload tk3 ?_)))
      all_goals (first | refine AtT.kpass ?_ | refine AtT.kpassU ?_ | ((first | refine AtT.kmul ?_ | refine AtT.kmulW ?_)))
      all_goals (first | refine AtT.kpass ?_ | refine AtT.kpassU ?_ | ((first | refine AtT.kfieldO fo24_1 ?_ | with_reducible refine AtT.kfield2 fo24_1 ?_ | refine AtT.kfield fo24_1 ?_)))
      all_goals (first | refine AtT.kpass ?_ | refine AtT.kpassU ?_ | ((first | refine AtT.kloadO tk3 ?_ | refine AtT.kload tk3 ?_)))
      all_goals (first | refine AtT.kpass ?_ | refine AtT.kpassU ?_ | ((first | refine AtT.kmul ?_ | refine AtT.kmulW ?_)))
      all_goals (first | refine AtT.kpass ?_ | refine AtT.kpassU ?_ | ((first | refine AtT.kadd ?_ | refine AtT.kaddW ?_)))
      all_goals (first | refine AtT.kpass ?_ | refine AtT.kpassU ?_ | ((first | refine AtT.kfieldO fo24_2 ?_ | with_reducible refine AtT.kfield2 fo24_2 ?_ | refine AtT.kfield fo24_2 ?_)))
      all_goals (first | refine AtT.kpass ?_ | refine AtT.kpassU ?_ | ((first | refine AtT.kloadO tk3 ?_ | refine AtT.kload tk3 ?_)))
      all_goals (first | refine AtT.kpass ?_ | refine AtT.kpassU ?_ | ((first | refine AtT.kadd ?_ | refine AtT.kaddW ?_)))
      all_goals (first | refine AtT.kpass ?_ | refine AtT.kpassU ?_ | ((first | refine AtT.kfieldO fo24_0 ?_ | with_reducible refine AtT.kfield2 fo24_0 ?_ | refine AtT.kfield fo24_0 ?_)))
      all_goals (first | refine AtT.kpass ?_ | refine AtT.kpassU ?_ | ((first | refine AtT.kloadO tk3 ?_ | refine AtT.kload tk3 ?_)))
      all_goals (first | refine AtT.kpass ?_ | refine AtT.kpassU ?_ | ((first | refine AtT.kmul ?_ | refine AtT.kmulW ?_)))
      all_goals (first | refine AtT.kpass ?_ | refine AtT.kpassU ?_ | ((first | refine AtT.kfieldO fo24_1 ?_ | with_reducible refine AtT.kfield2 fo24_1 ?_ | refine AtT.kfield fo24_1 ?_)))
      all_goals (first | refine AtT.kpass ?_ | refine AtT.kpassU ?_ | ((first | refine AtT.kloadO tk3 ?_ | refine AtT.kload tk3 ?_)))
      all_goals (first | refine AtT.kpass ?_ | refine AtT.kpassU ?_ | ((first | refine AtT.kmul ?_ | refine AtT.kmulW ?_)))
      all_goals (first | refine AtT.kpass ?_ | refine AtT.kpassU ?_ | ((first | refine AtT.kadd ?_ | refine AtT.kaddW ?_)))
      all_goals (first | refine AtT.kpass ?_ | refine AtT.kpassU ?_ | ((first | refine AtT.kfieldO fo24_2 ?_ | with_reducible refine AtT.kfield2 fo24_2 ?_ | refine AtT.kfield fo24_2 ?_)))
      all_goals (first | refine AtT.kpass ?_ | refine AtT.kpassU ?_ | ((first | refine AtT.kloadO tk3 ?_ | refine AtT.kload tk3 ?_)))
      all_goals (first | refine AtT.kpass ?_ | refine AtT.kpassU ?_ | ((first | refine AtT.kadd ?_ | refine AtT.kaddW ?_)))
      all_goals (first | refine AtT.kpass ?_ | refine AtT.kpassU ?_ | ((refine AtT.klss ?_)))
      all_goals (refine AtT.setF (d := 153) rfl ((by omega)) ?_)
      all_goals (refine AtT.kpick ?_)
      all_goals refine AtT.done ?_
      all_goals (refine At.nrm ?_)
      all_goals (exact At.meetG () rfl ⟨rfl, rfl, rfl, rfl, rfl, rfl, trivial⟩ Pt.auto)
    · refine At.ktext (.q 0 (.q 1 (.q 2 (.q 3 (.q 4 (.q 5 (.q 6 (.q 7 (.q 8 (.q 9 (.q 10 (.q 11 (.q 12 (.q 13 (.q 14 (.q 15 (.q 16 (.q 17 (.q 18 (.q 19 (.q 20 (.q 21 (.q 22 (.q 23 (.q 24 (.q 25 .done)))))))))))))))))))))))))) ?_
      refine AtT.kmove ?_
      refine AtT.kmove ?_
      refine AtT.keqI ?_
      refine AtT.setF (d := 131) rfl (ht1) ?_
      refine AtT.kmove ?_
      all_goals (first | refine AtT.kL 132 ?_ | refine AtT.pcase (d := 132) rfl (fun hg132 => ?_) (fun hg132 => ?_) | refine AtT.bcase (d := 132) rfl (fun hg132 => ?_) (fun hg132 => ?_))
      all_goals (first | refine AtT.kpass ?_ | refine AtT.kpassU ?_ | ((first | refine AtT.kfieldO fo24_0 ?_ | with_reducible refine AtT.kfield2 fo24_0 ?_ | refine AtT.kfield fo24_0 ?_)))
      all_goals (first | refine AtT.kpass ?_ | refine AtT.kpassU ?_ | ((first | refine AtT.kloadO tk3 ?_ | refine AtT.kload tk3 ?_)))
      all_goals (first | refine AtT.kpass ?_ | refine AtT.kpassU ?_ | ((first | refine AtT.kmul ?_ | refine AtT.kmulW ?_)))
      all_goals (first | refine AtT.kpass ?_ | refine AtT.kpassU ?_ | ((first | refine AtT.kfieldO fo24_1 ?_ | with_reducible refine AtT.kfield2 fo24_1 ?_ | refine AtT.kfield fo24_1 ?_)))
      all_goals (first | refine AtT.kpass ?_ | refine AtT.kpassU ?_ | ((first | refine AtT.kloadO tk3 ?_ | refine AtT.kload tk3 ?_)))
      all_goals (first | refine AtT.kpass ?_ | refine AtT.kpassU ?_ | ((first | refine AtT.kmul ?_ | refine AtT.kmulW ?_)))
      all_goals (first | refine AtT.kpass ?_ | refine AtT.kpassU ?_ | ((first | refine AtT.kadd ?_ | refine AtT.kaddW ?_)))
      all_goals (first | refine AtT.kpass ?_ | refine AtT.kpassU ?_ | ((first | refine AtT.kfieldO fo24_2 ?_ | with_reducible refine AtT.kfield2 fo24_2 ?_ | refine AtT.kfield fo24_2 ?_)))
      all_goals (first | refine AtT.kpass ?_ | refine AtT.kpassU ?_ | ((first | refine AtT.kloadO tk3 ?_ | refine AtT.kload tk3 ?_)))
      all_goals (first | refine AtT.kpass ?_ | refine AtT.kpassU ?_ | ((first | refine AtT.kadd ?_ | refine AtT.kaddW ?_)))
      all_goals (first | refine AtT.kpass ?_ | refine AtT.kpassU ?_ | ((first | refine AtT.kfieldO fo24_0 ?_ | with_reducible refine AtT.kfield2 fo24_0 ?_ | refine AtT.kfield fo24_0 ?_)))
      all_goals (first | refine AtT.kpass ?_ | refine AtT.kpassU ?_ | ((first | refine AtT.kloadO tk3 ?_ | refine AtT.kload tk3 ?_)))
      all_goals (first | refine AtT.kpass ?_ | refine AtT.kpassU ?_ | ((first | refine AtT.kmul ?_ | refine AtT.kmulW ?_)))
      all_goals (first | refine AtT.kpass ?_ | refine AtT.kpassU ?_ | ((first | refine AtT.kfieldO fo24_1 ?_ | with_reducible refine AtT.kfield2 fo24_1 ?_ | refine AtT.kfield fo24_1 ?_)))
      all_goals (first | refine AtT.kpass ?_ | refine AtT.kpassU ?_ | ((first | refine AtT.kloadO tk3 ?_ | refine AtT.kload tk3 ?_)))
      all_goals (first | refine AtT.kpass ?_ | refine AtT.kpassU ?_ | ((first | refine AtT.kmul ?_ | refine AtT.kmulW ?_)))
      all_goals (first | refine AtT.kpass ?_ | refine AtT.kpassU ?_ | ((first | refine AtT.kadd ?_ | refine AtT.kaddW ?_)))
      all_goals (first | refine AtT.kpass ?_ | refine AtT.kpassU ?_ | ((first | refine AtT.kfieldO fo24_2 ?_ | with_reducible refine AtT.kfield2 fo24_2 ?_ | refine AtT.kfield fo24_2 ?_)))
      all_goals (first | refine AtT.kpass ?_ | refine AtT.kpassU ?_ | ((first | refine AtT.kloadO tk3 ?_ | refine AtT.kload tk3 ?_)))
      all_goals (first | refine AtT.kpass ?_ | refine AtT.kpassU ?_ | ((first | refine AtT.kadd ?_ | refine AtT.kaddW ?_)))
      all_goals (first | refine AtT.kpass ?_ | refine AtT.kpassU ?_ | ((refine AtT.klss ?_)))
      all_goals (refine AtT.kpick ?_)
      all_goals refine AtT.done ?_
      all_goals (refine At.nrm ?_)
      all_goals (exact At.meetG () rfl ⟨rfl, rfl, rfl, rfl, rfl, rfl, trivial⟩ Pt.auto)
  rintro _ V6 ks' O' rfl hk hO hl6
  subst hk hO
  refine At.condF rfl rfl ?_
  refine At.nrm ?_
  refine At.cutG (ι := Option Addr × Nat × List (Option Addr × Nat × Nat)) (fun g => [(8, .slice aq qs.length cq), (10, .bool true), (12, iv (tel L100 q)), (18, .slice g.1 g.2.2.length g.2.1), (19, .bool true)]) (fun _ => [])
    (fun g V'' => Le V6 V'' ∧ Sl V'' sle 1 (.slice g.1 g.2.2.length g.2.1) g.2.2 ∧ g.2.2.length = (L100.filter fun z => mtB z (cbN q) == f).length) ?_ ?_
  · refine At.drawC [.blk b11 (LC (pqe q) 24)] (.q 1 (.q 3 (.q 4 (.q 5 (.two 0 (.two 2 (.n false 6 (.n false 7 (.n false 8 (.q 9 (.q 10 (.q 11 (.q 12 (.q 13 (.q 14 (.q 15 .done)))))))))) 6 (.n false 2 (.n false 7 (.n false 8 (.q 9 (.q 10 (.q 11 (.q 12 (.q 13 (.q 14 (.q 15 .done))))))))))) 6 (.n false 0 (.n false 2 (.n false 7 (.n false 8 (.q 9 (.q 10 (.q 11 (.q 12 (.q 13 (.q 14 (.q 15 .done)))))))))))))))) ffm (by kernel_rfl) Pt.auto ?_
    refine AtC.pre (fun hle0 => ?_)
    refine AtC.kq (by (refine AtT.kmove ?_); exact At.knows) ?_
    refine AtC.kq (by (first | refine AtT.kloadOA tk24 ?_ | refine AtT.kloadA tk24 ?_ | refine AtT.kloadOP tk24 ?_); exact At.knows) ?_
    refine AtC.kq (by (refine AtT.kmove ?_); exact At.knows) ?_
    refine AtC.kq (by (refine AtT.kbuild (bd53_0_1 _ _ _ _) ?_); exact At.knows) ?_
    refine AtC.two ?_ ?_
    focus
      refine AtC.nz ?_
      refine AtT.bsliceR0 rfl trivial rfl bs22_0 (by decide) (s := 4) (fun b156 => ?_)
      refine AtC.kgo ?_
      refine AtC.two ?_ ?_
      focus
        refine AtC.nz ?_
        refine AtT.appendRS rfl trivial Try.underlying22 rw53 rfl (by decide) rfl rfl Pick.auto (enc := tqe) (m := ts) (by first | exact hs | exact hs.le (by assumption)) tqe_len (fun _ => rfl) (by unfold maxLen; omega) (by omega) (by decide) (fun a158 c158 => ?_)
        refine AtC.kgo ?_
        rw [Nat.zero_add, List.nil_append]
        refine AtC.nz ?_
        refine AtT.kbsliceG (bs22_1_0 _ _ _ _) ?_
        intro q162 V162 hV162 hq162
        have g162 : Le V V162 := by first | exact hV162 | exact Le.trans (by assumption) hV162
        refine AtC.kgo ?_
        refine AtC.nz ?_
        first | refine AtT.kappend Try.underlying22 rw53 ?_
        intro a163 c163
        refine AtC.kgo ?_
        refine AtC.giveSl (l := ts ++ [(⟨q, f⟩ : Tq)]) tqe_len (flat_snoc _ _ _).symm hxl.symm Pick.auto (fun V163 hV163 hs163 => ?_)
        have hVV163 : Le V6 V163 := Le.trans (by assumption) hV163
        refine AtC.nz ?_
        refine AtT.kcall rfl rfl ok38 (sets_ok (ts ++ [(⟨q, f⟩ : Tq)]) he' _ _ hs163) ?_
        rintro _ V164 hV164 ⟨u164, M, rfl, hal2, hu2⟩; obtain rfl := alt_uniq (fun _ => Iff.rfl) (als_alt g1 hal2) hflt; obtain ⟨qm, aqm, cqm, rfl, hqm, hqml, _⟩ := hu2.at
        refine AtC.kgo ?_
        refine AtC.kq (by (refine AtT.kmove ?_); exact At.knows) ?_
        refine AtC.kq (by (refine AtT.kextract ?_); exact At.knows) ?_
        refine AtC.kq (by (refine AtT.kextract ?_); exact At.knows) ?_
        refine AtC.kq (by (refine AtT.kextract ?_); exact At.knows) ?_
        refine AtC.kq (by (refine AtT.kassign ?_); exact At.knows) ?_
        refine AtC.kq (by (refine AtT.kassign ?_); exact At.knows) ?_
        refine AtC.kq (by (refine AtT.kassign ?_); exact At.knows) ?_
        refine AtC.done ?_
      rotate_right
      focus
        refine AtC.nz ?_
        refine AtT.kbsliceG (bs22_1_0 _ _ _ _) ?_
        intro q162 V162 hV162 hq162
        have g162 : Le V V162 := by first | exact hV162 | exact Le.trans (by assumption) hV162
        refine AtC.kgo ?_
        refine AtC.nz ?_
        refine AtT.appendRS rfl trivial Try.underlying22 rw53 rfl (by decide) rfl rfl Pick.auto (enc := tqe) (m := ts) (by first | exact hs | exact hs.le (by assumption)) tqe_len (fun _ => rfl) (by unfold maxLen; omega) (by omega) (by decide) (fun a158 c158 => ?_)
        refine AtC.kgo ?_
        rw [Nat.zero_add, List.nil_append]
        refine AtC.nz ?_
        first | refine AtT.kappend Try.underlying22 rw53 ?_
        intro a163 c163
        refine AtC.kgo ?_
        refine AtC.giveSl (l := ts ++ [(⟨q, f⟩ : Tq)]) tqe_len (flat_snoc _ _ _).symm hxl.symm Pick.auto (fun V163 hV163 hs163 => ?_)
        have hVV163 : Le V6 V163 := Le.trans (by assumption) hV163
        refine AtC.nz ?_
        refine AtT.kcall rfl rfl ok38 (sets_ok (ts ++ [(⟨q, f⟩ : Tq)]) he' _ _ hs163) ?_
        rintro _ V164 hV164 ⟨u164, M, rfl, hal2, hu2⟩; obtain rfl := alt_uniq (fun _ => Iff.rfl) (als_alt g1 hal2) hflt; obtain ⟨qm, aqm, cqm, rfl, hqm, hqml, _⟩ := hu2.at
        refine AtC.kgo ?_
        refine AtC.kq (by (refine AtT.kmove ?_); exact At.knows) ?_
        refine AtC.kq (by (refine AtT.kextract ?_); exact At.knows) ?_
        refine AtC.kq (by (refine AtT.kextract ?_); exact At.knows) ?_
        refine AtC.kq (by (refine AtT.kextract ?_); exact At.knows) ?_
        refine AtC.kq (by (refine AtT.kassign ?_); exact At.knows) ?_
        refine AtC.kq (by (refine AtT.kassign ?_); exact At.knows) ?_
        refine AtC.kq (by (refine AtT.kassign ?_); exact At.knows) ?_
        refine AtC.done ?_
    rotate_right
    focus
      refine AtC.nz ?_
      refine AtT.kbsliceG (bs22_1_0 _ _ _ _) ?_
      intro q162 V162 hV162 hq162
      have g162 : Le V V162 := by first | exact hV162 | exact Le.trans (by assumption) hV162
      refine AtC.kgo ?_
      refine AtC.nz ?_
      refine AtT.bsliceR0 rfl trivial rfl bs22_0 (by decide) (s := 4) (fun b156 => ?_)
      refine AtC.kgo ?_
      refine AtC.nz ?_
      refine AtT.appendRS rfl trivial Try.underlying22 rw53 rfl (by decide) rfl rfl Pick.auto (enc := tqe) (m := ts) (by first | exact hs | exact hs.le (by assumption)) tqe_len (fun _ => rfl) (by unfold maxLen; omega) (by omega) (by decide) (fun a158 c158 => ?_)
      refine AtC.kgo ?_
      rw [Nat.zero_add, List.nil_append]
      refine AtC.nz ?_
      first | refine AtT.kappend Try.underlying22 rw53 ?_
      intro a163 c163
      refine AtC.kgo ?_
      refine AtC.giveSl (l := ts ++ [(⟨q, f⟩ : Tq)]) tqe_len (flat_snoc _ _ _).symm hxl.symm Pick.auto (fun V163 hV163 hs163 => ?_)
      have hVV163 : Le V6 V163 := Le.trans (by assumption) hV163
      refine AtC.nz ?_
      refine AtT.kcall rfl rfl ok38 (sets_ok (ts ++ [(⟨q, f⟩ : Tq)]) he' _ _ hs163) ?_
      rintro _ V164 hV164 ⟨u164, M, rfl, hal2, hu2⟩; obtain rfl := alt_uniq (fun _ => Iff.rfl) (als_alt g1 hal2) hflt; obtain ⟨qm, aqm, cqm, rfl, hqm, hqml, _⟩ := hu2.at
      refine AtC.kgo ?_
      refine AtC.kq (by (refine AtT.kmove ?_); exact At.knows) ?_
      refine AtC.kq (by (refine AtT.kextract ?_); exact At.knows) ?_
      refine AtC.kq (by (refine AtT.kextract ?_); exact At.knows) ?_
      refine AtC.kq (by (refine AtT.kextract ?_); exact At.knows) ?_
      refine AtC.kq (by (refine AtT.kassign ?_); exact At.knows) ?_
      refine AtC.kq (by (refine AtT.kassign ?_); exact At.knows) ?_
      refine AtC.kq (by (refine AtT.kassign ?_); exact At.knows) ?_
      refine AtC.done ?_
    all_goals (refine At.nrm ?_)
    all_goals (exact At.meetG (aqm, cqm, qm) ⟨hVV163.trans hV164, hqm, hqml⟩ ⟨rfl, rfl, rfl, rfl, rfl, trivial⟩ Pt.auto)
  rintro ⟨ax, cx', qm⟩ V7 ks' O' ⟨hV7, hqm, hqml⟩ hk hO hl7
  dsimp only at hqm hqml hk hO
  subst hk hO
  have hq7 := hq.le hV7
  refine At.nrm ?_
  refine At.ktext (.q 0 (.q 1 (.q 2 (.q 3 (.q 4 (.q 5 (.q 6 (.q 7 (.q 8 (.q 9 (.q 10 (.q 11 (.q 12 (.q 13 (.q 14 (.q 15 (.q 16 (.q 17 (.q 18 (.q 19 (.n false 20 (.q 21 (.q 22 .done))))))))))))))))))))))) ?_
  refine AtT.kmove ?_
  refine AtT.kmove ?_
  all_goals (first | refine AtT.kL 169 ?_ | refine AtT.pcase (d := 169) rfl (fun hg169 => ?_) (fun hg169 => ?_) | refine AtT.bcase (d := 169) rfl (fun hg169 => ?_) (fun hg169 => ?_))
  all_goals (first | refine AtT.kpass ?_ | refine AtT.kpassU ?_ | ((refine AtT.kmove ?_)))
  all_goals (refine AtT.kpick ?_)
  all_goals (refine AtT.kmove ?_)
  all_goals (first | refine AtT.kL 172 ?_ | refine AtT.pcase (d := 172) rfl (fun hg172 => ?_) (fun hg172 => ?_) | refine AtT.bcase (d := 172) rfl (fun hg172 => ?_) (fun hg172 => ?_))
  all_goals (first | refine AtT.kpass ?_ | refine AtT.kpassU ?_ | ((refine AtT.kmove ?_)))
  all_goals (first | refine AtT.kpass ?_ | refine AtT.kpassU ?_ | ((first | refine AtT.klenS Try.underlying39 ?_ | refine AtT.klenR Try.underlying39 ?_)))
  all_goals (first | refine AtT.kpass ?_ | refine AtT.kpassU ?_ | ((refine AtT.kmove ?_)))
  all_goals (first | refine AtT.kpass ?_ | refine AtT.kpassU ?_ | ((first | refine AtT.klenS Try.underlying39 ?_ | refine AtT.klenR Try.underlying39 ?_)))
  all_goals (first | refine AtT.kpass ?_ | refine AtT.kpassU ?_ | ((refine AtT.kmove ?_)))
  all_goals (first | refine AtT.kpass ?_ | refine AtT.kpassU ?_ | ((first | refine AtT.ksubt ?_ | refine AtT.ksubW ?_)))
  all_goals (first | refine AtT.kpass ?_ | refine AtT.kpassU ?_ | ((refine AtT.kleq ?_)))
  all_goals (refine AtT.setT (d := 179) rfl ((by omega)) ?_)
  all_goals (refine AtT.kpick ?_)
  all_goals (refine AtT.kmove ?_)
  all_goals (first | refine AtT.kL 181 ?_ | refine AtT.pcase (d := 181) rfl (fun hg181 => ?_) (fun hg181 => ?_) | refine AtT.bcase (d := 181) rfl (fun hg181 => ?_) (fun hg181 => ?_))
  all_goals (first | refine AtT.kpass ?_ | refine AtT.kpassU ?_ | ((refine AtT.kmove ?_)))
  all_goals (first | refine AtT.kpass ?_ | refine AtT.kpassU ?_ | ((first | refine AtT.klenS Try.underlying39 ?_ | refine AtT.klenR Try.underlying39 ?_)))
  all_goals (first | refine AtT.kpass ?_ | refine AtT.kpassU ?_ | ((refine AtT.kmove ?_)))
  all_goals (first | refine AtT.kpass ?_ | refine AtT.kpassU ?_ | ((refine AtT.kgeq ?_)))
  all_goals (refine AtT.setT (d := 185) rfl ((by omega)) ?_)
  all_goals (refine AtT.kpick ?_)
  all_goals (refine AtT.kmove ?_)
  all_goals (first | refine AtT.kL 187 ?_ | refine AtT.pcase (d := 187) rfl (fun hg187 => ?_) (fun hg187 => ?_) | refine AtT.bcase (d := 187) rfl (fun hg187 => ?_) (fun hg187 => ?_))
  all_goals (first | refine AtT.kpassN ?_ | refine AtT.kpassNU ?_ | ((refine AtT.kcallP rfl rfl ok16 (works_f _) ?_) ; (rintro _ rfl)))
  all_goals (refine AtT.kpick ?_)
  all_goals (refine AtT.kassign ?_)
  all_goals refine AtT.done ?_
  all_goals (refine At.nrm ?_)
  exact At.ret1 rfl (.tmp rfl) rfl
end Go.Proofs.Ytfcpmblmklibjaa
set_option linter.unusedVariables false
namespace Go.Proofs.Ytfcpmblmklibjaa.c9
open Go.Lw Go.Gl Go.Bl Go.RowKit Go.ChangeShapes Go.WideShapes Go.ChangeAt

set_option maxRecDepth 100000 in
theorem lifted (os : Os) (started : os.Started) (H : Type) (enc : TypeId × Value → H) :
    ReturnsInHanded {} Try.checked os 11 .any (Rows.boilToldSpec.pre6 enc Try.prog Try.f11 Rows.boilToldRow.domain false) (Rows.boilToldSpec.post enc Try.prog Try.f11 false true false false) := by
  refine law_lift (tb := 4) (fun ds hd => by match ds, hd with | [d0, d1, d2], _ => rfl) rfl (by kernel_rfl) Try.underlying4 laidOut (by kernel_rfl) own started (by kernel_rfl) Try.func11
    (ChangeSpec.witness6 (enc := enc) (C := Try.checked) false ⟨#[], #[.slice none 0 0, .int .u8 0, .bool false], []⟩ 8 (by kernel_rfl) (by kernel_rfl) (by kernel_rfl) (by kernel_rfl)) ?_
  intro W base args ds ps hval hA
  rw [Try.params11] at hA hval
  obtain ⟨v0, vs0, d0, ds0, p0, q0, hargs, rfl, rfl, h0, r0⟩ := trodAll_cons hA
  obtain ⟨v1, vs1, d1, ds1, p1, q1, rfl, rfl, rfl, h1, r1⟩ := trodAll_cons r0
  obtain ⟨v2, vs2, d2, ds2, p2, q2, rfl, rfl, rfl, h2, r2⟩ := trodAll_cons r1
  obtain ⟨rfl, rfl, rfl⟩ := trodAll_nil r2
  obtain rfl : args = #[v0, v1, v2] := by cases args; simp_all
  obtain ⟨l0, a0, c0, rfl, s0⟩ := rd_trials (hval 0 22 v0 rfl rfl) h0
  obtain ⟨x1, rfl, _, _, w1⟩ := open_int Try.underlying5 (hval 1 5 v1 rfl rfl) h1
  have b1 := bd_u8 w1
  obtain ⟨x2, rfl, _, _⟩ := open_bool Try.underlying4 (hval 2 4 v2 rfl rfl) h2
  exact ⟨[.slice a0 l0.length c0, .int .u8 x1, .bool x2], rfl, boilTold_f l0 x1 x2 b1 _ _ s0⟩

theorem over : Rows.boilToldRow.holds Try.pinned (OpenSpec.ofChange Rows.boilToldSpec) :=
  OpenClaim.holds_of_wide 11 Try.f11 rfl rfl rfl rfl rfl rfl rfl ⟨rfl, rfl, rfl, rfl, rfl⟩ rfl rfl rfl rfl rfl (by kernel_rfl) Try.func11 (by kernel_rfl)
    (of_decide_eq_true (by kernel_rfl)) (by unfold Func.isWrapper; first | (rw [if_pos (by decide +kernel)]; kernel_rfl) | (rw [if_neg (by decide +kernel)]; exact ⟨rfl, rfl⟩))
    (fun os started H enc _ => lifted os started H enc)

theorem proved : Rows.BoilToldSaid := over
#print axioms proved
end Go.Proofs.Ytfcpmblmklibjaa.c9
