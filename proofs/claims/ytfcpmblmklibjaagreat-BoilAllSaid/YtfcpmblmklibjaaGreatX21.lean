/- Each of the smallest explanations is an explanation; none of its causes is clear, and of each there is a panel that failed which has, of the set, this cause alone; a given explanation that has as few causes is one of them: for all valid trials, causes by numbers. No condition. -/
import Derived.Test.YtfcpmblmklibjaaGreatB6
set_option linter.unusedVariables false
set_option linter.unusedSimpArgs false
set_option linter.unusedSectionVars false
set_option linter.unusedVariables false
namespace Go.Bl
open Go.Gl Go.Lw
/-- A trial that failed has, of a set, one cause alone. -/
def alB (lf : List Int) (z y j : Nat) : Bool := (lf.take j).any fun x => decide (0 < x ∧ x.toNat &&& z = 2 ^ y)
theorem alB_at {lf : List Int} {z y j : Nat} {x : Int} (h : lf[j]? = some x) : alB lf z y (j + 1) = (alB lf z y j || decide (0 < x ∧ x.toNat &&& z = 2 ^ y)) := by
  unfold alB; rw [take_snoc' h, List.any_append]; simp
end Go.Bl
namespace Go.Proofs.YtfcpmblmklibjaaGreat
open Go.Lw Go.Gl Go.Bl Go.RowKit
theorem alB_end {ts : List Tq} {L : List Nat} (g0 : trE ts = 0) (hal : AlS ts L) {z y : Nat} (hz : z ∈ L) (hy : z.testBit y = true) : alB (lfL ts) z y (lfL ts).length = true := by
  obtain ⟨s, hs, he⟩ := alone_ex (trE_ok g0).2 (als_alt g0 hal) hz hy
  obtain ⟨k, hk⟩ := lf_ls.2 hs
  unfold alB
  rw [List.take_length, List.any_eq_true]
  refine ⟨(s : Int), List.mem_of_getElem? hk, ?_⟩
  rw [decide_eq_true_eq]
  refine ⟨?_, by simpa using he⟩
  have h0 : s ≠ 0 := fun e => by
    rw [e, Nat.zero_and] at he
    have := Nat.two_pow_pos y
    omega
  omega

set_option maxHeartbeats 3200000 in
/-- Each of the smallest explanations. -/
theorem boilAll_f (ts : List Tq) (by' : List U8) (V : View) (v vb : Value) (hs : Sl V tqe 4 v ts) (hy : Sl V e8 1 vb by') : Fnc Tryz.prog 4 [v, vb] V fun r _ => r = .bool true := by
  obtain ⟨a, c, rfl, k1, k2, _⟩ := id hs
  obtain ⟨ab, cb, rfl, k3, k4, _⟩ := id hy
  clear k1 k2 k3 k4
  refine fn_of Tryz.func4 rfl Tryz.ntmps4 (Nat.le_of_ble_eq_true rfl) ?_
  intro w0 hw0
  refine At.nrm ?_
  refine At.ktext (.q 0 .done) ?_
  refine AtT.kassign ?_
  refine AtT.done ?_
  refine At.nrm ?_
  by_cases g0 : trE ts = 0
  rotate_left
  · refine At.ktext (.q 0 (.n false 1 (.q 2 (.q 3 (.q 4 (.q 5 (.q 6 (.q 7 .done)))))))) ?_
    refine AtT.kmove ?_
    refine AtT.kcallP rfl rfl ok13 (fine_f ts _ _ hs) ?_
    rintro _ rfl
    refine AtT.setF (d := 15) rfl (g0) ?_
    refine AtT.knot ?_
    refine AtT.setB (d := 16) rfl ((show (!false) = true from rfl)) ?_
    refine AtT.kmove ?_
    all_goals (first | refine AtT.kL 17 ?_ | refine AtT.pcase (d := 17) rfl (fun hg17 => ?_) (fun hg17 => ?_) | refine AtT.bcase (d := 17) rfl (fun hg17 => ?_) (fun hg17 => ?_))
    all_goals (first | refine AtT.kpass ?_ | refine AtT.kpassU ?_ | ((refine AtT.kmove ?_)))
    all_goals (first | refine AtT.kpass ?_ | refine AtT.kpassU ?_ | ((first | refine AtT.klenS Tryz.underlying34 ?_ | refine AtT.klenR Tryz.underlying34 ?_)))
    all_goals (first | refine AtT.kpass ?_ | refine AtT.kpassU ?_ | ((refine AtT.kgtr ?_)))
    all_goals (refine AtT.kpick ?_)
    all_goals refine AtT.done ?_
    all_goals (refine At.nrm ?_)
    refine At.condT rfl rfl ?_
    refine At.nrm ?_
    refine At.ktext (.n false 0 (.q 1 .done)) ?_
    refine AtT.kcallP rfl rfl ok6 (works_f _) ?_
    rintro _ rfl
    refine AtT.kassign ?_
    refine AtT.done ?_
    refine At.nrm ?_
    exact At.ret1 rfl (.tmp rfl) rfl
  by_cases g1 : 20 < (by'.length : Int)
  · refine At.ktext (.q 0 (.n false 1 (.q 2 (.q 3 (.q 4 (.q 5 (.q 6 (.q 7 .done)))))))) ?_
    refine AtT.kmove ?_
    refine AtT.kcallP rfl rfl ok13 (fine_f ts _ _ hs) ?_
    rintro _ rfl
    refine AtT.setT (d := 15) rfl (g0) ?_
    refine AtT.knot ?_
    refine AtT.setB (d := 16) rfl ((show (!true) = false from rfl)) ?_
    refine AtT.kmove ?_
    all_goals (first | refine AtT.kL 17 ?_ | refine AtT.pcase (d := 17) rfl (fun hg17 => ?_) (fun hg17 => ?_) | refine AtT.bcase (d := 17) rfl (fun hg17 => ?_) (fun hg17 => ?_))
    all_goals (first | refine AtT.kpass ?_ | refine AtT.kpassU ?_ | ((refine AtT.kmove ?_)))
    all_goals (first | refine AtT.kpass ?_ | refine AtT.kpassU ?_ | ((first | refine AtT.klenS Tryz.underlying34 ?_ | refine AtT.klenR Tryz.underlying34 ?_)))
    all_goals (first | refine AtT.kpass ?_ | refine AtT.kpassU ?_ | ((refine AtT.kgtr ?_)))
    all_goals (refine AtT.setT (d := 20) rfl (g1) ?_)
    all_goals (refine AtT.kpick ?_)
    all_goals refine AtT.done ?_
    all_goals (refine At.nrm ?_)
    refine At.condT rfl rfl ?_
    refine At.nrm ?_
    refine At.ktext (.n false 0 (.q 1 .done)) ?_
    refine AtT.kcallP rfl rfl ok6 (works_f _) ?_
    rintro _ rfl
    refine AtT.kassign ?_
    refine AtT.done ?_
    refine At.nrm ?_
    exact At.ret1 rfl (.tmp rfl) rfl
  refine At.ktext (.q 0 (.n false 1 (.q 2 (.q 3 (.q 4 (.q 5 (.q 6 (.q 7 .done)))))))) ?_
  refine AtT.kmove ?_
  refine AtT.kcallP rfl rfl ok13 (fine_f ts _ _ hs) ?_
  rintro _ rfl
  refine AtT.setT (d := 15) rfl (g0) ?_
  refine AtT.knot ?_
  refine AtT.setB (d := 16) rfl ((show (!true) = false from rfl)) ?_
  refine AtT.kmove ?_
  all_goals (first | refine AtT.kL 17 ?_ | refine AtT.pcase (d := 17) rfl (fun hg17 => ?_) (fun hg17 => ?_) | refine AtT.bcase (d := 17) rfl (fun hg17 => ?_) (fun hg17 => ?_))
  all_goals (first | refine AtT.kpass ?_ | refine AtT.kpassU ?_ | ((refine AtT.kmove ?_)))
  all_goals (first | refine AtT.kpass ?_ | refine AtT.kpassU ?_ | ((first | refine AtT.klenS Tryz.underlying34 ?_ | refine AtT.klenR Tryz.underlying34 ?_)))
  all_goals (first | refine AtT.kpass ?_ | refine AtT.kpassU ?_ | ((refine AtT.kgtr ?_)))
  all_goals (refine AtT.setF (d := 20) rfl (g1) ?_)
  all_goals (refine AtT.kpick ?_)
  all_goals refine AtT.done ?_
  all_goals (refine At.nrm ?_)
  refine At.condF rfl rfl ?_
  obtain ⟨h16, ht⟩ := trE_ok g0
  by_cases he : alE ts = 0
  rotate_left
  · refine At.nrm ?_
    refine At.ktext (.q 0 (.n false 1 (.q 2 (.q 3 (.q 4 (.q 5 (.q 6 (.q 7 (.q 8 .done))))))))) ?_
    refine AtT.kmove ?_
    refine AtT.kcallP rfl rfl ok14 (sets_no ts g0 he _ _ hs) ?_
    rintro _ rfl
    refine AtT.kmove ?_
    refine AtT.kextract ?_
    refine AtT.kextract ?_
    refine AtT.kextract ?_
    refine AtT.kassign ?_
    refine AtT.kassign ?_
    refine AtT.kassign ?_
    refine AtT.done ?_
    refine At.nrm ?_
    refine At.ktext (.q 0 (.q 1 (.q 2 (.q 3 (.q 4 (.q 5 .done)))))) ?_
    refine AtT.kmove ?_
    refine AtT.knot ?_
    refine AtT.setB (d := 30) rfl ((show (!true) = false from rfl)) ?_
    refine AtT.kmove ?_
    all_goals (first | refine AtT.kL 31 ?_ | refine AtT.pcase (d := 31) rfl (fun hg31 => ?_) (fun hg31 => ?_) | refine AtT.bcase (d := 31) rfl (fun hg31 => ?_) (fun hg31 => ?_))
    all_goals (first | refine AtT.kpass ?_ | refine AtT.kpassU ?_ | ((refine AtT.kmove ?_)))
    all_goals (first | refine AtT.kpass ?_ | refine AtT.kpassU ?_ | ((refine AtT.knot ?_)))
    all_goals (refine AtT.setB (d := 33) rfl ((show (!false) = true from rfl)) ?_)
    all_goals (refine AtT.kpick ?_)
    all_goals refine AtT.done ?_
    all_goals (refine At.nrm ?_)
    refine At.condT rfl rfl ?_
    refine At.nrm ?_
    refine At.ktext (.q 0 (.q 1 (.n false 2 (.q 3 (.q 4 .done))))) ?_
    refine AtT.kmove ?_
    refine AtT.kmove ?_
    all_goals (first | refine AtT.kL 36 ?_ | refine AtT.pcase (d := 36) rfl (fun hg36 => ?_) (fun hg36 => ?_) | refine AtT.bcase (d := 36) rfl (fun hg36 => ?_) (fun hg36 => ?_))
    all_goals (first | refine AtT.kpassN ?_ | refine AtT.kpassNU ?_ | ((refine AtT.kcallP rfl rfl ok6 (works_f _) ?_) ; (rintro _ rfl)))
    all_goals (refine AtT.kpick ?_)
    all_goals (refine AtT.kassign ?_)
    all_goals refine AtT.done ?_
    all_goals (refine At.nrm ?_)
    exact At.ret1 rfl (.tmp rfl) rfl
  refine At.nrm ?_
  refine At.ktext (.q 0 (.n false 1 (.q 2 (.q 3 (.q 4 (.q 5 (.q 6 (.q 7 (.q 8 .done))))))))) ?_
  refine AtT.kmove ?_
  refine AtT.kcall rfl rfl ok14 (sets_ok ts he _ _ hs) ?_
  rintro _ V25 hV25 ⟨u, L, rfl, hal, hu⟩
  refine AtT.kmove ?_
  refine AtT.kextract ?_
  refine AtT.kextract ?_
  refine AtT.kextract ?_
  refine AtT.kassign ?_
  refine AtT.kassign ?_
  refine AtT.kassign ?_
  refine AtT.done ?_
  refine At.nrm ?_
  replace hs := hs.le hV25
  replace hy := hy.le hV25
  have hne := als_ne he hal
  have hlen := als_len hal
  have hlt := als_lt hal
  obtain ⟨x0, hx0⟩ : ∃ x0, L[0]? = some x0 := by cases L with | nil => exact absurd rfl hne | cons z L => exact ⟨z, rfl⟩
  have hpos : 0 < L.length := (List.getElem?_eq_some_iff.1 hx0).1
  refine At.ktext (.q 0 (.q 1 (.q 2 (.q 3 (.q 4 (.q 5 .done)))))) ?_
  refine AtT.kmove ?_
  refine AtT.knot ?_
  refine AtT.setB (d := 30) rfl ((show (!true) = false from rfl)) ?_
  refine AtT.kmove ?_
  all_goals (first | refine AtT.kL 31 ?_ | refine AtT.pcase (d := 31) rfl (fun hg31 => ?_) (fun hg31 => ?_) | refine AtT.bcase (d := 31) rfl (fun hg31 => ?_) (fun hg31 => ?_))
  all_goals (first | refine AtT.kpass ?_ | refine AtT.kpassU ?_ | ((refine AtT.kmove ?_)))
  all_goals (first | refine AtT.kpass ?_ | refine AtT.kpassU ?_ | ((refine AtT.knot ?_)))
  all_goals (refine AtT.setB (d := 33) rfl ((show (!true) = false from rfl)) ?_)
  all_goals (refine AtT.kpick ?_)
  all_goals refine AtT.done ?_
  all_goals (refine At.nrm ?_)
  refine At.condF rfl rfl ?_
  refine At.nrm ?_
  refine At.ktext (.q 0 (.n false 1 (.q 2 .done))) ?_
  refine AtT.kmove ?_
  refine AtT.kcall rfl rfl ok15 (left_f ts ht (by omega) _ _ hs) ?_
  rintro v40 V40 hV40 hs40; obtain ⟨al, cl, rfl, _⟩ := id hs40
  refine AtT.kassign ?_
  refine AtT.done ?_
  refine At.nrm ?_
  replace hs := hs.le hV40
  replace hy := hy.le hV40
  replace hu := hu.le hV40
  obtain ⟨qs, aq, cq, rfl, hq, hql, hqs⟩ := hu.at
  obtain ⟨q0, hq0⟩ : ∃ q0, qs[0]? = some q0 := ⟨_, List.getElem?_eq_getElem (by omega)⟩
  have hs0 := hqs 0 q0 x0 hq0 hx0
  have hlfb := lf_bd ht
  have hll : (lfL ts).length = ts.length := by unfold lfL; rw [List.length_map]
  refine At.ktext (.q 0 .done) ?_
  refine AtT.kassign ?_
  refine AtT.done ?_
  refine At.nrm ?_
  refine At.lp (ι := Nat) (KS := fun k => [(0, .slice a ts.length c), (1, .slice ab by'.length cb), (5, .slice aq qs.length cq), (8, .slice al (lfL ts).length cl), (9, iv k)]) (OS := fun _ => []) (VS := fun k V' => V' = V40 ∧ k ≤ L.length) (μ := fun k => L.length - k) 0 ?_ ?_ ?_ ?_
  · exact ⟨rfl, rfl, rfl, rfl, rfl, trivial⟩
  · exact Pt.auto
  · exact ⟨rfl, Nat.zero_le _⟩
  rintro k V' ks' O' ⟨rfl, hkl⟩ hk hO hl2
  subst hk hO
  refine At.nrm ?_
  refine At.ktext (.q 0 (.q 1 (.q 2 (.q 3 .done)))) ?_
  refine AtT.kmove ?_
  refine AtT.kmove ?_
  first | refine AtT.klenS Tryz.underlying35 ?_ | refine AtT.klenR Tryz.underlying35 ?_
  refine AtT.klss ?_
  refine AtT.done ?_
  refine At.nrm ?_
  refine At.condP rfl (fun hp' => ?_) (fun hp' => ?_)
  rotate_left
  · refine At.nrm ?_
    refine At.ktext (.q 0 (.q 1 (.n false 2 (.q 3 .done)))) ?_
    refine AtT.kmove ?_
    refine AtT.kmove ?_
    refine AtT.kcall rfl rfl ok19 (given_f ts g0 by' 0 ⟨by decide, by decide⟩ _ _ _ hs hy (by omega)) ?_
    rintro v115 V115 hV115 ⟨A, hA1, hA2, hA3, hs115⟩; obtain ⟨a115, c115, rfl, _⟩ := id hs115
    refine AtT.kassign ?_
    refine AtT.done ?_
    refine At.nrm ?_
    have hEx := giv_ex he hA1 hA2 hA3
    have hmin := (hal.mem x0).1 (List.mem_of_getElem? hx0)
    have hle : (bitL x0 15).length ≤ (bitL A 15).length := hmin.2 A hEx
    replace hq := hq.le hV115
    replace hs0 := hs0.le hV115
    replace hu := hu.le hV115
    by_cases hg : (bitL x0 15).length < (bitL A 15).length
    · refine At.ktext (.q 0 (.q 1 (.q 2 (.q 3 (.q 4 (.q 5 (.q 6 (.q 7 (.q 8 (.q 9 (.n false 10 (.q 11 (.q 12 (.n false 13 (.q 14 (.q 15 .done)))))))))))))))) ?_
      refine AtT.kmove ?_
      first | refine AtT.klenS Tryz.underlying38 ?_ | refine AtT.klenR Tryz.underlying38 ?_
      refine AtT.kmove ?_
      refine AtT.kidx Tryz.underlying35 tk38 ?_
      intro p119 e119 he119 hc119
      obtain rfl : q0 = e119 := by have : qs[0]? = some e119 := (by simpa using he119); rw [hq0] at this; simpa using this
      first | refine AtT.kloadO tk38 ?_ | refine AtT.kload tk38 ?_
      first | refine AtT.klenS Tryz.underlying38 ?_ | refine AtT.klenR Tryz.underlying38 ?_
      refine AtT.kgtr ?_
      refine AtT.setT (d := 122) rfl ((by omega)) ?_
      refine AtT.kmove ?_
      all_goals (first | refine AtT.kL 123 ?_ | refine AtT.pcase (d := 123) rfl (fun hg123 => ?_) (fun hg123 => ?_) | refine AtT.bcase (d := 123) rfl (fun hg123 => ?_) (fun hg123 => ?_))
      all_goals (first | refine AtT.kpass ?_ | refine AtT.kpassU ?_ | ((refine AtT.kmove ?_)))
      all_goals (first | refine AtT.kpass ?_ | refine AtT.kpassU ?_ | ((refine AtT.kmove ?_)))
      all_goals (first | refine AtT.kpassN ?_ | refine AtT.kpassNU ?_ | ((fail)))
      all_goals (refine AtT.kpick ?_)
      all_goals (refine AtT.kmove ?_)
      all_goals (first | refine AtT.kL 128 ?_ | refine AtT.pcase (d := 128) rfl (fun hg128 => ?_) (fun hg128 => ?_) | refine AtT.bcase (d := 128) rfl (fun hg128 => ?_) (fun hg128 => ?_))
      all_goals (first | refine AtT.kpassN ?_ | refine AtT.kpassNU ?_ | ((refine AtT.kcallP rfl rfl ok6 (works_f _) ?_) ; (rintro _ rfl)))
      all_goals (refine AtT.kpick ?_)
      all_goals (refine AtT.kassign ?_)
      all_goals refine AtT.done ?_
      all_goals (refine At.nrm ?_)
      exact At.ret1 rfl (.tmp rfl) rfl
    · have hAL : A ∈ L := (hal.mem A).2 ⟨hEx, fun y hy2 => by
        have h1 := hmin.2 y hy2
        have h2 : cnt A = cnt x0 := show (bitL A 15).length = (bitL x0 15).length by omega
        omega⟩
      refine At.ktext (.q 0 (.q 1 (.q 2 (.q 3 (.q 4 (.q 5 (.q 6 (.q 7 (.q 8 (.q 9 (.n false 10 (.q 11 (.q 12 (.n false 13 (.q 14 (.q 15 .done)))))))))))))))) ?_
      refine AtT.kmove ?_
      first | refine AtT.klenS Tryz.underlying38 ?_ | refine AtT.klenR Tryz.underlying38 ?_
      refine AtT.kmove ?_
      refine AtT.kidx Tryz.underlying35 tk38 ?_
      intro p119 e119 he119 hc119
      obtain rfl : q0 = e119 := by have : qs[0]? = some e119 := (by simpa using he119); rw [hq0] at this; simpa using this
      first | refine AtT.kloadO tk38 ?_ | refine AtT.kload tk38 ?_
      first | refine AtT.klenS Tryz.underlying38 ?_ | refine AtT.klenR Tryz.underlying38 ?_
      refine AtT.kgtr ?_
      refine AtT.setF (d := 122) rfl ((by omega)) ?_
      refine AtT.kmove ?_
      all_goals (first | refine AtT.kL 123 ?_ | refine AtT.pcase (d := 123) rfl (fun hg123 => ?_) (fun hg123 => ?_) | refine AtT.bcase (d := 123) rfl (fun hg123 => ?_) (fun hg123 => ?_))
      all_goals (first | refine AtT.kpass ?_ | refine AtT.kpassU ?_ | ((refine AtT.kmove ?_)))
      all_goals (first | refine AtT.kpass ?_ | refine AtT.kpassU ?_ | ((refine AtT.kmove ?_)))
      all_goals (first | refine AtT.kpassN ?_ | refine AtT.kpassNU ?_ | ((refine AtT.kcallP rfl rfl ok20 (among_f (bL L) (bitL A 15) _ _ _ hu hs115) ?_) ; (rintro _ rfl)))
      all_goals (refine AtT.setT (d := 126) rfl ((List.mem_map.2 ⟨A, hAL, rfl⟩)) ?_)
      all_goals (refine AtT.kpick ?_)
      all_goals (refine AtT.kmove ?_)
      all_goals (first | refine AtT.kL 128 ?_ | refine AtT.pcase (d := 128) rfl (fun hg128 => ?_) (fun hg128 => ?_) | refine AtT.bcase (d := 128) rfl (fun hg128 => ?_) (fun hg128 => ?_))
      all_goals (first | refine AtT.kpassN ?_ | refine AtT.kpassNU ?_ | ((refine AtT.kcallP rfl rfl ok6 (works_f _) ?_) ; (rintro _ rfl)))
      all_goals (refine AtT.kpick ?_)
      all_goals (refine AtT.kassign ?_)
      all_goals refine AtT.done ?_
      all_goals (refine At.nrm ?_)
      exact At.ret1 rfl (.tmp rfl) rfl
  have hk1 : k < L.length := by omega
  obtain ⟨q, hqk⟩ : ∃ x, qs[k]? = some x := ⟨_, List.getElem?_eq_getElem (by omega)⟩
  obtain ⟨z, hz⟩ : ∃ l, L[k]? = some l := ⟨_, List.getElem?_eq_getElem (by omega)⟩
  have hs1 := hqs k q z hqk hz
  have hzm := List.mem_of_getElem? hz
  have hzl := hlt z hzm
  have hcc := cc_ex g0 ((hal.mem z).1 hzm).1
  have hz15 := bitL_len z 15
  refine At.nrmB ?_
  refine At.cutG (ι := Unit) (fun _ => [(0, .slice a ts.length c), (1, .slice ab by'.length cb), (5, .slice aq qs.length cq), (8, .slice al (lfL ts).length cl), (9, iv k)]) (fun _ => []) (fun _ V'' => V'' = V') ?_ ?_
  · refine At.nrm ?_
    refine At.cutG (ι := Unit) (fun _ => [(0, .slice a ts.length c), (1, .slice ab by'.length cb), (5, .slice aq qs.length cq), (8, .slice al (lfL ts).length cl), (9, iv k), (66, .bool false)]) (fun _ => []) (fun _ V'' => V'' = V') ?_ ?_
    · by_cases h10 : (k : Int) < 10
      · refine At.ktext (.q 0 (.q 1 (.q 2 (.q 3 (.q 4 (.n false 5 (.q 6 (.q 7 (.q 8 (.q 9 (.q 10 (.q 11 (.q 12 (.q 13 (.q 14 (.q 15 (.n false 16 (.q 17 (.q 18 (.q 19 .done)))))))))))))))))))) ?_
        refine AtT.kmove ?_
        refine AtT.kmove ?_
        refine AtT.kmove ?_
        refine AtT.kidx Tryz.underlying35 tk38 ?_
        intro p50 e50 he50 hc50
        obtain rfl : q = e50 := by have : qs[k]? = some e50 := (by simpa using he50); rw [hqk] at this; simpa using this
        first | refine AtT.kloadO tk38 ?_ | refine AtT.kload tk38 ?_
        refine AtT.kcallP rfl rfl ok16 (rcheckCauses_f ts (bitL z 15) _ _ _ hs hs1) ?_
        rintro _ rfl; rw [hcc]
        refine AtT.kneI ?_
        refine AtT.setF (d := 53) rfl ((by simp)) ?_
        refine AtT.kmove ?_
        all_goals (first | refine AtT.kL 54 ?_ | refine AtT.pcase (d := 54) rfl (fun hg54 => ?_) (fun hg54 => ?_) | refine AtT.bcase (d := 54) rfl (fun hg54 => ?_) (fun hg54 => ?_))
        all_goals (first | refine AtT.kpass ?_ | refine AtT.kpassU ?_ | ((refine AtT.kmove ?_)))
        all_goals (first | refine AtT.kpass ?_ | refine AtT.kpassU ?_ | ((refine AtT.klss ?_)))
        all_goals (refine AtT.setT (d := 56) rfl (h10) ?_)
        all_goals (first | refine AtT.kpass ?_ | refine AtT.kpassU ?_ | ((refine AtT.kmove ?_)))
        all_goals (first | refine AtT.kL 57 ?_ | refine AtT.pcase (d := 57) rfl (fun hg57 => ?_) (fun hg57 => ?_) | refine AtT.bcase (d := 57) rfl (fun hg57 => ?_) (fun hg57 => ?_))
        all_goals (first | refine AtT.kpass ?_ | refine AtT.kpassU ?_ | ((refine AtT.kmove ?_)))
        all_goals (first | refine AtT.kpass ?_ | refine AtT.kpassU ?_ | ((refine AtT.kmove ?_)))
        all_goals (first | refine AtT.kpass ?_ | refine AtT.kpassU ?_ | ((refine AtT.kmove ?_)))
        all_goals (first | refine AtT.kpass ?_ | refine AtT.kpassU ?_ | ((refine AtT.kidx Tryz.underlying35 tk38 ?_) ; (intro p61 e61 he61 hc61)))
        all_goals (obtain rfl : q = e61 := by have : qs[k]? = some e61 := (by simpa using he61); rw [hqk] at this; simpa using this)
        all_goals (first | refine AtT.kpass ?_ | refine AtT.kpassU ?_ | ((first | refine AtT.kloadO tk38 ?_ | refine AtT.kload tk38 ?_)))
        all_goals (first | refine AtT.kpassN ?_ | refine AtT.kpassNU ?_ | ((refine AtT.kcallP rfl rfl ok17 (checkCauses_f ts (bitL z 15) _ _ _ hs hs1) ?_) ; (rintro _ rfl; rw [hcc])))
        all_goals (first | refine AtT.kpass ?_ | refine AtT.kpassU ?_ | ((refine AtT.kneI ?_)))
        all_goals (refine AtT.setF (d := 64) rfl ((by simp)) ?_)
        all_goals (first | refine AtT.kpass ?_ | refine AtT.kpassU ?_ | ((refine AtT.kpick ?_)))
        all_goals (refine AtT.kpick ?_)
        all_goals refine AtT.done ?_
        all_goals (refine At.nrm ?_)
        exact At.meetG () rfl ⟨rfl, rfl, rfl, rfl, rfl, rfl, trivial⟩ Pt.auto
      · refine At.ktext (.q 0 (.q 1 (.q 2 (.q 3 (.q 4 (.n false 5 (.q 6 (.q 7 (.q 8 (.q 9 (.q 10 (.q 11 (.q 12 (.q 13 (.q 14 (.q 15 (.n false 16 (.q 17 (.q 18 (.q 19 .done)))))))))))))))))))) ?_
        refine AtT.kmove ?_
        refine AtT.kmove ?_
        refine AtT.kmove ?_
        refine AtT.kidx Tryz.underlying35 tk38 ?_
        intro p50 e50 he50 hc50
        obtain rfl : q = e50 := by have : qs[k]? = some e50 := (by simpa using he50); rw [hqk] at this; simpa using this
        first | refine AtT.kloadO tk38 ?_ | refine AtT.kload tk38 ?_
        refine AtT.kcallP rfl rfl ok16 (rcheckCauses_f ts (bitL z 15) _ _ _ hs hs1) ?_
        rintro _ rfl; rw [hcc]
        refine AtT.kneI ?_
        refine AtT.setF (d := 53) rfl ((by simp)) ?_
        refine AtT.kmove ?_
        all_goals (first | refine AtT.kL 54 ?_ | refine AtT.pcase (d := 54) rfl (fun hg54 => ?_) (fun hg54 => ?_) | refine AtT.bcase (d := 54) rfl (fun hg54 => ?_) (fun hg54 => ?_))
        all_goals (first | refine AtT.kpass ?_ | refine AtT.kpassU ?_ | ((refine AtT.kmove ?_)))
        all_goals (first | refine AtT.kpass ?_ | refine AtT.kpassU ?_ | ((refine AtT.klss ?_)))
        all_goals (refine AtT.setF (d := 56) rfl (h10) ?_)
        all_goals (first | refine AtT.kpass ?_ | refine AtT.kpassU ?_ | ((refine AtT.kmove ?_)))
        all_goals (first | refine AtT.kL 57 ?_ | refine AtT.pcase (d := 57) rfl (fun hg57 => ?_) (fun hg57 => ?_) | refine AtT.bcase (d := 57) rfl (fun hg57 => ?_) (fun hg57 => ?_))
        all_goals (first | refine AtT.kpass ?_ | refine AtT.kpassU ?_ | ((refine AtT.kmove ?_)))
        all_goals (first | refine AtT.kpass ?_ | refine AtT.kpassU ?_ | ((refine AtT.kmove ?_)))
        all_goals (first | refine AtT.kpass ?_ | refine AtT.kpassU ?_ | ((refine AtT.kmove ?_)))
        all_goals (first | refine AtT.kpass ?_ | refine AtT.kpassU ?_ | ((refine AtT.kidx Tryz.underlying35 tk38 ?_) ; (intro p61 e61 he61 hc61)))
        all_goals (first | refine AtT.kpass ?_ | refine AtT.kpassU ?_ | ((first | refine AtT.kloadO tk38 ?_ | refine AtT.kload tk38 ?_)))
        all_goals (first | refine AtT.kpassN ?_ | refine AtT.kpassNU ?_ | ((fail)))
        all_goals (first | refine AtT.kpass ?_ | refine AtT.kpassU ?_ | ((refine AtT.kneI ?_)))
        all_goals (first | refine AtT.kpass ?_ | refine AtT.kpassU ?_ | ((refine AtT.kpick ?_)))
        all_goals (refine AtT.kpick ?_)
        all_goals refine AtT.done ?_
        all_goals (refine At.nrm ?_)
        exact At.meetG () rfl ⟨rfl, rfl, rfl, rfl, rfl, rfl, trivial⟩ Pt.auto
    rintro _ V3 ks' O' rfl hk hO hl4
    subst hk hO
    refine At.condF rfl rfl ?_
    refine At.nrm ?_
    refine At.ktext (.q 0 .done) ?_
    refine AtT.kassign ?_
    refine AtT.done ?_
    refine At.nrm ?_
    refine At.lp (ι := Nat) (KS := fun m => [(0, .slice a ts.length c), (1, .slice ab by'.length cb), (5, .slice aq qs.length cq), (8, .slice al (lfL ts).length cl), (9, iv k), (10, iv m)]) (OS := fun _ => []) (VS := fun m V' => V' = V3 ∧ m ≤ (bitL z 15).length) (μ := fun m => (bitL z 15).length - m) 0 ?_ ?_ ?_ ?_
    · exact ⟨rfl, rfl, rfl, rfl, rfl, rfl, trivial⟩
    · exact Pt.auto
    · exact ⟨rfl, Nat.zero_le _⟩
    rintro m V' ks' O' ⟨rfl, hml⟩ hk hO hl5
    subst hk hO
    refine At.nrm ?_
    refine At.ktext (.q 0 (.q 1 (.q 2 (.q 3 (.q 4 (.q 5 (.q 6 .done))))))) ?_
    refine AtT.kmove ?_
    refine AtT.kmove ?_
    refine AtT.kmove ?_
    refine AtT.kidx Tryz.underlying35 tk38 ?_
    intro p70 e70 he70 hc70
    obtain rfl : q = e70 := by have : qs[k]? = some e70 := (by simpa using he70); rw [hqk] at this; simpa using this
    first | refine AtT.kloadO tk38 ?_ | refine AtT.kload tk38 ?_
    first | refine AtT.klenS Tryz.underlying38 ?_ | refine AtT.klenR Tryz.underlying38 ?_
    refine AtT.klss ?_
    refine AtT.done ?_
    refine At.nrm ?_
    refine At.condP rfl (fun hp2 => ?_) (fun hp2 => ?_)
    rotate_left
    · refine At.nrm ?_
      exact At.meetG () rfl ⟨rfl, rfl, rfl, rfl, rfl, trivial⟩ Pt.auto
    have hm1 : m < (bitL z 15).length := by omega
    obtain ⟨yi, hyi⟩ : ∃ y, (bitL z 15)[m]? = some y := ⟨_, List.getElem?_eq_getElem (by omega)⟩
    obtain ⟨y, hy15, rfl, hyb⟩ := bitL_mem.1 (List.mem_of_getElem? hyi)
    have hend := alB_end g0 hal hzm hyb
    have hpw : 2 ^ y < 32768 := Nat.pow_lt_pow_right (n := 15) (by decide) hy15
    refine At.nrmB ?_
    refine At.cutG (ι := Unit) (fun _ => [(0, .slice a ts.length c), (1, .slice ab by'.length cb), (5, .slice aq qs.length cq), (8, .slice al (lfL ts).length cl), (9, iv k), (10, iv m)]) (fun _ => []) (fun _ V'' => V'' = V') ?_ ?_
    · refine At.nrm ?_
      refine At.ktext (.q 0 .done) ?_
      refine AtT.kassign ?_
      refine AtT.done ?_
      refine At.nrm ?_
      refine At.ktext (.q 0 .done) ?_
      refine AtT.kassign ?_
      refine AtT.done ?_
      refine At.nrm ?_
      refine At.lp (ι := Nat) (KS := fun j => [(0, .slice a ts.length c), (1, .slice ab by'.length cb), (5, .slice aq qs.length cq), (8, .slice al (lfL ts).length cl), (9, iv k), (10, iv m), (11, .bool (alB (lfL ts) z y j)), (12, iv j)]) (OS := fun _ => []) (VS := fun j V'' => V'' = V' ∧ j ≤ (lfL ts).length) (μ := fun j => (lfL ts).length - j) 0 ?_ ?_ ?_ ?_
      · exact ⟨rfl, rfl, rfl, rfl, rfl, rfl, rfl, rfl, trivial⟩
      · exact Pt.auto
      · exact ⟨rfl, Nat.zero_le _⟩
      rintro j V5 ks' O' ⟨rfl, hjl⟩ hk hO hl6
      subst hk hO
      refine At.nrm ?_
      refine At.ktext (.q 0 (.q 1 (.q 2 (.q 3 .done)))) ?_
      refine AtT.kmove ?_
      refine AtT.kmove ?_
      first | refine AtT.klenS Tryz.underlying38 ?_ | refine AtT.klenR Tryz.underlying38 ?_
      refine AtT.klss ?_
      refine AtT.done ?_
      refine At.nrm ?_
      refine At.condP rfl (fun hp3 => ?_) (fun hp3 => ?_)
      rotate_left
      · obtain rfl : j = (lfL ts).length := by omega
        rw [hend]
        refine At.nrm ?_
        refine At.ktext (.q 0 (.q 1 .done)) ?_
        refine AtT.kmove ?_
        refine AtT.knot ?_
        refine AtT.setB (d := 112) rfl ((show (!true) = false from rfl)) ?_
        refine AtT.done ?_
        refine At.nrm ?_
        refine At.condF rfl rfl ?_
        refine At.nrm ?_
        exact At.meetG () rfl ⟨rfl, rfl, rfl, rfl, rfl, rfl, trivial⟩ Pt.auto
      obtain ⟨x, hx⟩ : ∃ x, (lfL ts)[j]? = some x := ⟨_, List.getElem?_eq_getElem (by omega)⟩
      have hxb := hlfb x (List.mem_of_getElem? hx)
      have hat := alB_at (z := z) (y := y) hx
      refine At.nrmB ?_
      refine At.cutG (ι := Unit) (fun _ => [(0, .slice a ts.length c), (1, .slice ab by'.length cb), (5, .slice aq qs.length cq), (8, .slice al (lfL ts).length cl), (9, iv k), (10, iv m), (11, .bool (alB (lfL ts) z y (j + 1))), (12, iv j)]) (fun _ => []) (fun _ V'' => V'' = V5) ?_ ?_
      · refine At.nrm ?_
        cases hb : alB (lfL ts) z y j with
        | true =>
          rw [hb, Bool.true_or] at hat
          refine At.draw (.q 0 (.q 1 (.q 2 (.q 3 (.q 4 (.q 5 (.q 6 (.q 7 (.q 8 (.q 9 (.q 10 (.q 11 (.q 12 (.q 13 (.q 14 (.q 15 (.q 18 (.q 19 (.q 20 (.q 21 (.q 22 (.q 23 (.q 24 (.q 25 (.n false 16 (.q 17 (.q 26 (.q 27 (.q 28 (.q 29 .done)))))))))))))))))))))))))))))) ffm (by kernel_rfl) ?_
          refine AtT.kmove ?_
          refine AtT.kmove ?_
          all_goals (first | refine AtT.kL 83 ?_ | refine AtT.pcase (d := 83) rfl (fun hg83 => ?_) (fun hg83 => ?_) | refine AtT.bcase (d := 83) rfl (fun hg83 => ?_) (fun hg83 => ?_))
          all_goals (first | refine AtT.kpass ?_ | refine AtT.kpassU ?_ | ((refine AtT.kmove ?_)))
          all_goals (first | refine AtT.kpass ?_ | refine AtT.kpassU ?_ | ((refine AtT.kmove ?_)))
          all_goals (first | refine AtT.kpass ?_ | refine AtT.kpassU ?_ | ((refine AtT.kidx Tryz.underlying38 tk3 ?_) ; (intro p86 e86 he86 hc86)))
          all_goals (first | refine AtT.kpass ?_ | refine AtT.kpassU ?_ | ((first | refine AtT.kloadO tk3 ?_ | refine AtT.kload tk3 ?_)))
          all_goals (first | refine AtT.kpass ?_ | refine AtT.kpassU ?_ | ((refine AtT.kgtr ?_)))
          all_goals (first | refine AtT.kpass ?_ | refine AtT.kpassU ?_ | ((refine AtT.kmove ?_)))
          all_goals (first | refine AtT.kL 89 ?_ | refine AtT.pcase (d := 89) rfl (fun hg89 => ?_) (fun hg89 => ?_) | refine AtT.bcase (d := 89) rfl (fun hg89 => ?_) (fun hg89 => ?_))
          all_goals (first | refine AtT.kpass ?_ | refine AtT.kpassU ?_ | ((refine AtT.kmove ?_)))
          all_goals (first | refine AtT.kpass ?_ | refine AtT.kpassU ?_ | ((refine AtT.kmove ?_)))
          all_goals (first | refine AtT.kpass ?_ | refine AtT.kpassU ?_ | ((refine AtT.kidx Tryz.underlying38 tk3 ?_) ; (intro p92 e92 he92 hc92)))
          all_goals (first | refine AtT.kpass ?_ | refine AtT.kpassU ?_ | ((first | refine AtT.kloadO tk3 ?_ | refine AtT.kload tk3 ?_)))
          all_goals (first | refine AtT.kpass ?_ | refine AtT.kpassU ?_ | ((refine AtT.kmove ?_)))
          all_goals (first | refine AtT.kpass ?_ | refine AtT.kpassU ?_ | ((refine AtT.kmove ?_)))
          all_goals (first | refine AtT.kpass ?_ | refine AtT.kpassU ?_ | ((refine AtT.kidx Tryz.underlying35 tk38 ?_) ; (intro p96 e96 he96 hc96)))
          all_goals (first | refine AtT.kpass ?_ | refine AtT.kpassU ?_ | ((first | refine AtT.kloadO tk38 ?_ | refine AtT.kload tk38 ?_)))
          all_goals (first | refine AtT.kpass ?_ | refine AtT.kpassU ?_ | ((refine AtT.kmove ?_)))
          all_goals (first | refine AtT.kpass ?_ | refine AtT.kpassU ?_ | ((refine AtT.kmove ?_)))
          all_goals (first | refine AtT.kpass ?_ | refine AtT.kpassU ?_ | ((refine AtT.kidx Tryz.underlying35 tk38 ?_) ; (intro p102 e102 he102 hc102)))
          all_goals (first | refine AtT.kpass ?_ | refine AtT.kpassU ?_ | ((first | refine AtT.kloadO tk38 ?_ | refine AtT.kload tk38 ?_)))
          all_goals (first | refine AtT.kpass ?_ | refine AtT.kpassU ?_ | ((refine AtT.kmove ?_)))
          all_goals (first | refine AtT.kpass ?_ | refine AtT.kpassU ?_ | ((refine AtT.kidx Tryz.underlying38 tk3 ?_) ; (intro p105 e105 he105 hc105)))
          all_goals (first | refine AtT.kpass ?_ | refine AtT.kpassU ?_ | ((first | refine AtT.kloadO tk3 ?_ | refine AtT.kload tk3 ?_)))
          all_goals (first | refine AtT.kpass ?_ | refine AtT.kpassU ?_ | ((fail)))
          all_goals (first | refine AtT.kpassN ?_ | refine AtT.kpassNU ?_ | ((fail)))
          all_goals (first | refine AtT.kpass ?_ | refine AtT.kpassU ?_ | ((fail)))
          all_goals (first | refine AtT.kpass ?_ | refine AtT.kpassU ?_ | ((refine AtT.keqI ?_)))
          all_goals (first | refine AtT.kpass ?_ | refine AtT.kpassU ?_ | ((refine AtT.kpick ?_)))
          all_goals (refine AtT.kpick ?_)
          all_goals (refine AtT.kassign ?_)
          all_goals refine AtT.done ?_
          all_goals (refine At.nrm ?_)
          all_goals (exact At.meetG () rfl (by rw [hat]; exact ⟨rfl, rfl, rfl, rfl, rfl, rfl, rfl, rfl, trivial⟩) Pt.auto)
        | false =>
          rw [hb, Bool.false_or] at hat
          by_cases hx0 : 0 < x
          rotate_left
          · rw [decide_eq_false (fun h => hx0 h.1)] at hat
            refine At.draw (.q 0 (.q 1 (.q 2 (.q 3 (.q 4 (.q 5 (.q 6 (.q 7 (.q 8 (.q 9 (.q 10 (.q 11 (.q 12 (.q 13 (.q 14 (.q 15 (.q 18 (.q 19 (.q 20 (.q 21 (.q 22 (.q 23 (.q 24 (.q 25 (.n false 16 (.q 17 (.q 26 (.q 27 (.q 28 (.q 29 .done)))))))))))))))))))))))))))))) ffm (by kernel_rfl) ?_
            refine AtT.kmove ?_
            refine AtT.kmove ?_
            all_goals (first | refine AtT.kL 83 ?_ | refine AtT.pcase (d := 83) rfl (fun hg83 => ?_) (fun hg83 => ?_) | refine AtT.bcase (d := 83) rfl (fun hg83 => ?_) (fun hg83 => ?_))
            all_goals (first | refine AtT.kpass ?_ | refine AtT.kpassU ?_ | ((refine AtT.kmove ?_)))
            all_goals (first | refine AtT.kpass ?_ | refine AtT.kpassU ?_ | ((refine AtT.kmove ?_)))
            all_goals (first | refine AtT.kpass ?_ | refine AtT.kpassU ?_ | ((refine AtT.kidx Tryz.underlying38 tk3 ?_) ; (intro p86 e86 he86 hc86)))
            all_goals (obtain rfl : x = e86 := by have : (lfL ts)[j]? = some e86 := (by simpa using he86); rw [hx] at this; simpa using this)
            all_goals (first | refine AtT.kpass ?_ | refine AtT.kpassU ?_ | ((first | refine AtT.kloadO tk3 ?_ | refine AtT.kload tk3 ?_)))
            all_goals (first | refine AtT.kpass ?_ | refine AtT.kpassU ?_ | ((refine AtT.kgtr ?_)))
            all_goals (refine AtT.setF (d := 88) rfl (hx0) ?_)
            all_goals (first | refine AtT.kpass ?_ | refine AtT.kpassU ?_ | ((refine AtT.kmove ?_)))
            all_goals (first | refine AtT.kL 89 ?_ | refine AtT.pcase (d := 89) rfl (fun hg89 => ?_) (fun hg89 => ?_) | refine AtT.bcase (d := 89) rfl (fun hg89 => ?_) (fun hg89 => ?_))
            all_goals (first | refine AtT.kpass ?_ | refine AtT.kpassU ?_ | ((refine AtT.kmove ?_)))
            all_goals (first | refine AtT.kpass ?_ | refine AtT.kpassU ?_ | ((refine AtT.kmove ?_)))
            all_goals (first | refine AtT.kpass ?_ | refine AtT.kpassU ?_ | ((refine AtT.kidx Tryz.underlying38 tk3 ?_) ; (intro p92 e92 he92 hc92)))
            all_goals (first | refine AtT.kpass ?_ | refine AtT.kpassU ?_ | ((first | refine AtT.kloadO tk3 ?_ | refine AtT.kload tk3 ?_)))
            all_goals (first | refine AtT.kpass ?_ | refine AtT.kpassU ?_ | ((refine AtT.kmove ?_)))
            all_goals (first | refine AtT.kpass ?_ | refine AtT.kpassU ?_ | ((refine AtT.kmove ?_)))
            all_goals (first | refine AtT.kpass ?_ | refine AtT.kpassU ?_ | ((refine AtT.kidx Tryz.underlying35 tk38 ?_) ; (intro p96 e96 he96 hc96)))
            all_goals (first | refine AtT.kpass ?_ | refine AtT.kpassU ?_ | ((first | refine AtT.kloadO tk38 ?_ | refine AtT.kload tk38 ?_)))
            all_goals (first | refine AtT.kpass ?_ | refine AtT.kpassU ?_ | ((refine AtT.kmove ?_)))
            all_goals (first | refine AtT.kpass ?_ | refine AtT.kpassU ?_ | ((refine AtT.kmove ?_)))
            all_goals (first | refine AtT.kpass ?_ | refine AtT.kpassU ?_ | ((refine AtT.kidx Tryz.underlying35 tk38 ?_) ; (intro p102 e102 he102 hc102)))
            all_goals (first | refine AtT.kpass ?_ | refine AtT.kpassU ?_ | ((first | refine AtT.kloadO tk38 ?_ | refine AtT.kload tk38 ?_)))
            all_goals (first | refine AtT.kpass ?_ | refine AtT.kpassU ?_ | ((refine AtT.kmove ?_)))
            all_goals (first | refine AtT.kpass ?_ | refine AtT.kpassU ?_ | ((refine AtT.kidx Tryz.underlying38 tk3 ?_) ; (intro p105 e105 he105 hc105)))
            all_goals (first | refine AtT.kpass ?_ | refine AtT.kpassU ?_ | ((first | refine AtT.kloadO tk3 ?_ | refine AtT.kload tk3 ?_)))
            all_goals (first | refine AtT.kpass ?_ | refine AtT.kpassU ?_ | ((fail)))
            all_goals (first | refine AtT.kpassN ?_ | refine AtT.kpassNU ?_ | ((fail)))
            all_goals (first | refine AtT.kpass ?_ | refine AtT.kpassU ?_ | ((fail)))
            all_goals (first | refine AtT.kpass ?_ | refine AtT.kpassU ?_ | ((refine AtT.keqI ?_)))
            all_goals (first | refine AtT.kpass ?_ | refine AtT.kpassU ?_ | ((refine AtT.kpick ?_)))
            all_goals (refine AtT.kpick ?_)
            all_goals (refine AtT.kassign ?_)
            all_goals refine AtT.done ?_
            all_goals (refine At.nrm ?_)
            all_goals (exact At.meetG () rfl (by rw [hat]; exact ⟨rfl, rfl, rfl, rfl, rfl, rfl, rfl, rfl, trivial⟩) Pt.auto)
          obtain ⟨s, rfl⟩ : ∃ s : Nat, x = (s : Int) := ⟨x.toNat, by omega⟩
          rw [Int.toNat_natCast] at hat
          by_cases hsz : s &&& z = 2 ^ y
          · rw [decide_eq_true ⟨hx0, hsz⟩] at hat
            refine At.draw (.q 0 (.q 1 (.q 2 (.q 3 (.q 4 (.q 5 (.q 6 (.q 7 (.q 8 (.q 9 (.q 10 (.q 11 (.q 12 (.q 13 (.q 14 (.q 15 (.q 18 (.q 19 (.q 20 (.q 21 (.q 22 (.q 23 (.q 24 (.q 25 (.n false 16 (.q 17 (.q 26 (.q 27 (.q 28 (.q 29 .done)))))))))))))))))))))))))))))) ffm (by kernel_rfl) ?_
            refine AtT.kmove ?_
            refine AtT.kmove ?_
            all_goals (first | refine AtT.kL 83 ?_ | refine AtT.pcase (d := 83) rfl (fun hg83 => ?_) (fun hg83 => ?_) | refine AtT.bcase (d := 83) rfl (fun hg83 => ?_) (fun hg83 => ?_))
            all_goals (first | refine AtT.kpass ?_ | refine AtT.kpassU ?_ | ((refine AtT.kmove ?_)))
            all_goals (first | refine AtT.kpass ?_ | refine AtT.kpassU ?_ | ((refine AtT.kmove ?_)))
            all_goals (first | refine AtT.kpass ?_ | refine AtT.kpassU ?_ | ((refine AtT.kidx Tryz.underlying38 tk3 ?_) ; (intro p86 e86 he86 hc86)))
            all_goals (obtain rfl : (s : Int) = e86 := by have : (lfL ts)[j]? = some e86 := (by simpa using he86); rw [hx] at this; simpa using this)
            all_goals (first | refine AtT.kpass ?_ | refine AtT.kpassU ?_ | ((first | refine AtT.kloadO tk3 ?_ | refine AtT.kload tk3 ?_)))
            all_goals (first | refine AtT.kpass ?_ | refine AtT.kpassU ?_ | ((refine AtT.kgtr ?_)))
            all_goals (refine AtT.setT (d := 88) rfl (hx0) ?_)
            all_goals (first | refine AtT.kpass ?_ | refine AtT.kpassU ?_ | ((refine AtT.kmove ?_)))
            all_goals (first | refine AtT.kL 89 ?_ | refine AtT.pcase (d := 89) rfl (fun hg89 => ?_) (fun hg89 => ?_) | refine AtT.bcase (d := 89) rfl (fun hg89 => ?_) (fun hg89 => ?_))
            all_goals (first | refine AtT.kpass ?_ | refine AtT.kpassU ?_ | ((refine AtT.kmove ?_)))
            all_goals (first | refine AtT.kpass ?_ | refine AtT.kpassU ?_ | ((refine AtT.kmove ?_)))
            all_goals (first | refine AtT.kpass ?_ | refine AtT.kpassU ?_ | ((refine AtT.kidx Tryz.underlying38 tk3 ?_) ; (intro p92 e92 he92 hc92)))
            all_goals (obtain rfl : (s : Int) = e92 := by have : (lfL ts)[j]? = some e92 := (by simpa using he92); rw [hx] at this; simpa using this)
            all_goals (first | refine AtT.kpass ?_ | refine AtT.kpassU ?_ | ((first | refine AtT.kloadO tk3 ?_ | refine AtT.kload tk3 ?_)))
            all_goals (first | refine AtT.kpass ?_ | refine AtT.kpassU ?_ | ((refine AtT.kmove ?_)))
            all_goals (first | refine AtT.kpass ?_ | refine AtT.kpassU ?_ | ((refine AtT.kmove ?_)))
            all_goals (first | refine AtT.kpass ?_ | refine AtT.kpassU ?_ | ((refine AtT.kidx Tryz.underlying35 tk38 ?_) ; (intro p96 e96 he96 hc96)))
            all_goals (obtain rfl : q = e96 := by have : qs[k]? = some e96 := (by simpa using he96); rw [hqk] at this; simpa using this)
            all_goals (first | refine AtT.kpass ?_ | refine AtT.kpassU ?_ | ((first | refine AtT.kloadO tk38 ?_ | refine AtT.kload tk38 ?_)))
            all_goals (first | refine AtT.kpass ?_ | refine AtT.kpassU ?_ | ((refine AtT.kmove ?_)))
            all_goals (first | refine AtT.kpass ?_ | refine AtT.kpassU ?_ | ((refine AtT.kmove ?_)))
            all_goals (first | refine AtT.kpass ?_ | refine AtT.kpassU ?_ | ((refine AtT.kidx Tryz.underlying35 tk38 ?_) ; (intro p102 e102 he102 hc102)))
            all_goals (obtain rfl : q = e102 := by have : qs[k]? = some e102 := (by simpa using he102); rw [hqk] at this; simpa using this)
            all_goals (first | refine AtT.kpass ?_ | refine AtT.kpassU ?_ | ((first | refine AtT.kloadO tk38 ?_ | refine AtT.kload tk38 ?_)))
            all_goals (first | refine AtT.kpass ?_ | refine AtT.kpassU ?_ | ((refine AtT.kmove ?_)))
            all_goals (first | refine AtT.kpass ?_ | refine AtT.kpassU ?_ | ((refine AtT.kidx Tryz.underlying38 tk3 ?_) ; (intro p105 e105 he105 hc105)))
            all_goals (obtain rfl : (y : Int) = e105 := by have : (bitL z 15)[m]? = some e105 := (by simpa using he105); rw [hyi] at this; simpa using this)
            all_goals (first | refine AtT.kpass ?_ | refine AtT.kpassU ?_ | ((first | refine AtT.kloadO tk3 ?_ | refine AtT.kload tk3 ?_)))
            all_goals (first | refine AtT.kpass ?_ | refine AtT.kpassU ?_ | ((refine AtT.shlN rfl ⟨_, _, rfl, rfl, rfl⟩ rfl rfl rfl (by omega) (by decide) (N := y) ?_)))
            all_goals (first | refine AtT.kpassN ?_ | refine AtT.kpassNU ?_ | ((refine AtT.kcallP rfl rfl ok18 (bitsOf_f (bitL z 15) (bit_in z) _ _ hs1) ?_) ; (rintro _ rfl; rw [bt_bit hzl])))
            all_goals (first | refine AtT.kpass ?_ | refine AtT.kpassU ?_ | ((refine AtT.andN rfl ⟨_, _, rfl, rfl, rfl⟩ rfl rfl rfl rfl (by omega) (by omega) (by decide) (A := s) (B := z) ?_)))
            all_goals (first | refine AtT.kpass ?_ | refine AtT.kpassU ?_ | ((refine AtT.keqI ?_)))
            all_goals (refine AtT.setT (d := 108) rfl ((congrArg (fun n : Nat => (n : Int)) hsz)) ?_)
            all_goals (first | refine AtT.kpass ?_ | refine AtT.kpassU ?_ | ((refine AtT.kpick ?_)))
            all_goals (refine AtT.kpick ?_)
            all_goals (refine AtT.kassign ?_)
            all_goals refine AtT.done ?_
            all_goals (refine At.nrm ?_)
            all_goals (exact At.meetG () rfl (by rw [hat]; exact ⟨rfl, rfl, rfl, rfl, rfl, rfl, rfl, rfl, trivial⟩) Pt.auto)
          · rw [decide_eq_false (fun h => hsz h.2)] at hat
            refine At.draw (.q 0 (.q 1 (.q 2 (.q 3 (.q 4 (.q 5 (.q 6 (.q 7 (.q 8 (.q 9 (.q 10 (.q 11 (.q 12 (.q 13 (.q 14 (.q 15 (.q 18 (.q 19 (.q 20 (.q 21 (.q 22 (.q 23 (.q 24 (.q 25 (.n false 16 (.q 17 (.q 26 (.q 27 (.q 28 (.q 29 .done)))))))))))))))))))))))))))))) ffm (by kernel_rfl) ?_
            refine AtT.kmove ?_
            refine AtT.kmove ?_
            all_goals (first | refine AtT.kL 83 ?_ | refine AtT.pcase (d := 83) rfl (fun hg83 => ?_) (fun hg83 => ?_) | refine AtT.bcase (d := 83) rfl (fun hg83 => ?_) (fun hg83 => ?_))
            all_goals (first | refine AtT.kpass ?_ | refine AtT.kpassU ?_ | ((refine AtT.kmove ?_)))
            all_goals (first | refine AtT.kpass ?_ | refine AtT.kpassU ?_ | ((refine AtT.kmove ?_)))
            all_goals (first | refine AtT.kpass ?_ | refine AtT.kpassU ?_ | ((refine AtT.kidx Tryz.underlying38 tk3 ?_) ; (intro p86 e86 he86 hc86)))
            all_goals (obtain rfl : (s : Int) = e86 := by have : (lfL ts)[j]? = some e86 := (by simpa using he86); rw [hx] at this; simpa using this)
            all_goals (first | refine AtT.kpass ?_ | refine AtT.kpassU ?_ | ((first | refine AtT.kloadO tk3 ?_ | refine AtT.kload tk3 ?_)))
            all_goals (first | refine AtT.kpass ?_ | refine AtT.kpassU ?_ | ((refine AtT.kgtr ?_)))
            all_goals (refine AtT.setT (d := 88) rfl (hx0) ?_)
            all_goals (first | refine AtT.kpass ?_ | refine AtT.kpassU ?_ | ((refine AtT.kmove ?_)))
            all_goals (first | refine AtT.kL 89 ?_ | refine AtT.pcase (d := 89) rfl (fun hg89 => ?_) (fun hg89 => ?_) | refine AtT.bcase (d := 89) rfl (fun hg89 => ?_) (fun hg89 => ?_))
            all_goals (first | refine AtT.kpass ?_ | refine AtT.kpassU ?_ | ((refine AtT.kmove ?_)))
            all_goals (first | refine AtT.kpass ?_ | refine AtT.kpassU ?_ | ((refine AtT.kmove ?_)))
            all_goals (first | refine AtT.kpass ?_ | refine AtT.kpassU ?_ | ((refine AtT.kidx Tryz.underlying38 tk3 ?_) ; (intro p92 e92 he92 hc92)))
            all_goals (obtain rfl : (s : Int) = e92 := by have : (lfL ts)[j]? = some e92 := (by simpa using he92); rw [hx] at this; simpa using this)
            all_goals (first | refine AtT.kpass ?_ | refine AtT.kpassU ?_ | ((first | refine AtT.kloadO tk3 ?_ | refine AtT.kload tk3 ?_)))
            all_goals (first | refine AtT.kpass ?_ | refine AtT.kpassU ?_ | ((refine AtT.kmove ?_)))
            all_goals (first | refine AtT.kpass ?_ | refine AtT.kpassU ?_ | ((refine AtT.kmove ?_)))
            all_goals (first | refine AtT.kpass ?_ | refine AtT.kpassU ?_ | ((refine AtT.kidx Tryz.underlying35 tk38 ?_) ; (intro p96 e96 he96 hc96)))
            all_goals (obtain rfl : q = e96 := by have : qs[k]? = some e96 := (by simpa using he96); rw [hqk] at this; simpa using this)
            all_goals (first | refine AtT.kpass ?_ | refine AtT.kpassU ?_ | ((first | refine AtT.kloadO tk38 ?_ | refine AtT.kload tk38 ?_)))
            all_goals (first | refine AtT.kpass ?_ | refine AtT.kpassU ?_ | ((refine AtT.kmove ?_)))
            all_goals (first | refine AtT.kpass ?_ | refine AtT.kpassU ?_ | ((refine AtT.kmove ?_)))
            all_goals (first | refine AtT.kpass ?_ | refine AtT.kpassU ?_ | ((refine AtT.kidx Tryz.underlying35 tk38 ?_) ; (intro p102 e102 he102 hc102)))
            all_goals (obtain rfl : q = e102 := by have : qs[k]? = some e102 := (by simpa using he102); rw [hqk] at this; simpa using this)
            all_goals (first | refine AtT.kpass ?_ | refine AtT.kpassU ?_ | ((first | refine AtT.kloadO tk38 ?_ | refine AtT.kload tk38 ?_)))
            all_goals (first | refine AtT.kpass ?_ | refine AtT.kpassU ?_ | ((refine AtT.kmove ?_)))
            all_goals (first | refine AtT.kpass ?_ | refine AtT.kpassU ?_ | ((refine AtT.kidx Tryz.underlying38 tk3 ?_) ; (intro p105 e105 he105 hc105)))
            all_goals (obtain rfl : (y : Int) = e105 := by have : (bitL z 15)[m]? = some e105 := (by simpa using he105); rw [hyi] at this; simpa using this)
            all_goals (first | refine AtT.kpass ?_ | refine AtT.kpassU ?_ | ((first | refine AtT.kloadO tk3 ?_ | refine AtT.kload tk3 ?_)))
            all_goals (first | refine AtT.kpass ?_ | refine AtT.kpassU ?_ | ((refine AtT.shlN rfl ⟨_, _, rfl, rfl, rfl⟩ rfl rfl rfl (by omega) (by decide) (N := y) ?_)))
            all_goals (first | refine AtT.kpassN ?_ | refine AtT.kpassNU ?_ | ((refine AtT.kcallP rfl rfl ok18 (bitsOf_f (bitL z 15) (bit_in z) _ _ hs1) ?_) ; (rintro _ rfl; rw [bt_bit hzl])))
            all_goals (first | refine AtT.kpass ?_ | refine AtT.kpassU ?_ | ((refine AtT.andN rfl ⟨_, _, rfl, rfl, rfl⟩ rfl rfl rfl rfl (by omega) (by omega) (by decide) (A := s) (B := z) ?_)))
            all_goals (first | refine AtT.kpass ?_ | refine AtT.kpassU ?_ | ((refine AtT.keqI ?_)))
            all_goals (refine AtT.setF (d := 108) rfl ((fun h => hsz (by omega))) ?_)
            all_goals (first | refine AtT.kpass ?_ | refine AtT.kpassU ?_ | ((refine AtT.kpick ?_)))
            all_goals (refine AtT.kpick ?_)
            all_goals (refine AtT.kassign ?_)
            all_goals refine AtT.done ?_
            all_goals (refine At.nrm ?_)
            all_goals (exact At.meetG () rfl (by rw [hat]; exact ⟨rfl, rfl, rfl, rfl, rfl, rfl, rfl, rfl, trivial⟩) Pt.auto)
      rintro _ V6 ks' O' rfl hk hO hl7
      subst hk hO
      refine At.nrm ?_
      refine At.ktext (.q 0 (.q 1 (.q 2 .done))) ?_
      refine AtT.kmove ?_
      first | refine AtT.kadd ?_ | refine AtT.kaddW ?_
      refine AtT.kassign ?_
      refine AtT.done ?_
      refine At.nrm ?_
      refine At.round (j + 1) ?_ ?_ ?_ ?_
      · show (lfL ts).length - (j + 1) < (lfL ts).length - j; omega
      · exact ⟨rfl, by omega⟩
      · exact ⟨rfl, rfl, rfl, rfl, rfl, rfl, rfl, ivs (by omega), trivial⟩
      · exact Pt.auto
    rintro _ V6 ks' O' rfl hk hO hl7
    subst hk hO
    refine At.nrm ?_
    refine At.ktext (.q 0 (.q 1 (.q 2 .done))) ?_
    refine AtT.kmove ?_
    first | refine AtT.kadd ?_ | refine AtT.kaddW ?_
    refine AtT.kassign ?_
    refine AtT.done ?_
    refine At.nrm ?_
    refine At.round (m + 1) ?_ ?_ ?_ ?_
    · show (bitL z 15).length - (m + 1) < (bitL z 15).length - m; omega
    · exact ⟨rfl, by omega⟩
    · exact ⟨rfl, rfl, rfl, rfl, rfl, ivs (by omega), trivial⟩
    · exact Pt.auto
  rintro _ V6 ks' O' rfl hk hO hl7
  subst hk hO
  refine At.nrm ?_
  refine At.ktext (.q 0 (.q 1 (.q 2 .done))) ?_
  refine AtT.kmove ?_
  first | refine AtT.kadd ?_ | refine AtT.kaddW ?_
  refine AtT.kassign ?_
  refine AtT.done ?_
  refine At.nrm ?_
  refine At.round (k + 1) ?_ ?_ ?_ ?_
  · show L.length - (k + 1) < L.length - k; omega
  · exact ⟨rfl, by omega⟩
  · exact ⟨rfl, rfl, rfl, rfl, ivs (by omega), trivial⟩
  · exact Pt.auto
end Go.Proofs.YtfcpmblmklibjaaGreat
set_option linter.unusedVariables false
namespace Go.Proofs.YtfcpmblmklibjaaGreat.c2
open Go.Lw Go.Gl Go.Bl Go.RowKit Go.ChangeShapes Go.WideShapes Go.ChangeAt

set_option maxRecDepth 100000 in
theorem lifted (os : Os) (started : os.Started) (H : Type) (enc : TypeId × Value → H) :
    ReturnsInHanded {} Tryz.checked os 4 .any (Rows.boilAllSpec.pre6 enc Tryz.prog Tryz.f4 Rows.boilAllRow.domain false) (Rows.boilAllSpec.post enc Tryz.prog Tryz.f4 false true false false) := by
  refine law_lift (tb := 4) (fun ds hd => by match ds, hd with | [d0, d1], _ => rfl) rfl (by kernel_rfl) Tryz.underlying4 laidOut (by kernel_rfl) own started (by kernel_rfl) Tryz.func4
    (ChangeSpec.witness6 (enc := enc) (C := Tryz.checked) false ⟨#[], #[.slice none 0 0, .slice none 0 0], []⟩ 8 (by kernel_rfl) (by kernel_rfl) (by kernel_rfl) (by kernel_rfl)) ?_
  intro W base args ds ps hval hA
  rw [Tryz.params4] at hA hval
  obtain ⟨v0, vs0, d0, ds0, p0, q0, hargs, rfl, rfl, h0, r0⟩ := trodAll_cons hA
  obtain ⟨v1, vs1, d1, ds1, p1, q1, rfl, rfl, rfl, h1, r1⟩ := trodAll_cons r0
  obtain ⟨rfl, rfl, rfl⟩ := trodAll_nil r1
  obtain rfl : args = #[v0, v1] := by cases args; simp_all
  obtain ⟨l0, a0, c0, rfl, s0⟩ := rd_trials (hval 0 22 v0 rfl rfl) h0
  obtain ⟨l1, a1, c1, rfl, s1⟩ := rd_u8s (hval 1 34 v1 rfl rfl) h1
  exact ⟨[.slice a0 l0.length c0, .slice a1 l1.length c1], rfl, boilAll_f l0 l1 _ _ _ s0 s1⟩

theorem over : Rows.boilAllRow.holds Tryz.pinned (OpenSpec.ofChange Rows.boilAllSpec) :=
  OpenClaim.holds_of_wide 4 Tryz.f4 rfl rfl rfl rfl rfl rfl rfl ⟨rfl, rfl, rfl, rfl, rfl⟩ rfl rfl rfl rfl rfl (by kernel_rfl) Tryz.func4 (by kernel_rfl)
    (of_decide_eq_true (by kernel_rfl)) (by unfold Func.isWrapper; first | (rw [if_pos (by decide +kernel)]; kernel_rfl) | (rw [if_neg (by decide +kernel)]; exact ⟨rfl, rfl⟩))
    (fun os started H enc _ => lifted os started H enc)

theorem proved : Rows.BoilAllSaid := over
#print axioms proved
end Go.Proofs.YtfcpmblmklibjaaGreat.c2
