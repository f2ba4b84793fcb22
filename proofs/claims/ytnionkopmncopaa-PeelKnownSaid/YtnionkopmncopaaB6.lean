/- Texts that the last one of this claim imports. -/
import Derived.Test.YtnionkopmncopaaB5
set_option linter.unusedVariables false
set_option linter.unusedSimpArgs false
set_option linter.unusedSectionVars false
set_option linter.unusedVariables false
namespace Go.Proofs.Ytnionkopmncopaa
open Go.Lw Go.Pl Go.RowKit

theorem tmod_pos {x m : Int} (h0 : 0 ≤ x) (hm : 0 < m) : 0 ≤ x.tmod m ∧ x.tmod m < m := by
  have := tmod_lt x hm
  have := Int.tmod_nonneg m h0
  omega

theorem peelScaled_f (L : Lg) (times far : Int) (V : View) (v : Value) (hv : LogV V v L) (h1 : 0 ≤ times ∧ times ≤ 255) (h2 : 0 ≤ far ∧ far ≤ 255) :
    Fnc Try.prog 13 [v, .int .u8 times, .int .u8 far] V fun r _ => r = .bool true := by
  have hv' := hv
  obtain ⟨a, c, a', c', rfl, g2, g3⟩ := hv
  refine fn_of Try.func13 rfl Try.ntmps13 (Nat.le_of_ble_eq_true rfl) ?_
  intro w0 hw0
  refine At.nrm ?_
  refine At.ktext (.n false 0 (.q 1 .done)) ?_
  refine AtT.kbox ?_
  intro b3
  refine AtT.kassign ?_
  refine AtT.done ?_
  refine At.nrm ?_
  refine At.ktext (.q 0 (.n false 1 (.q 2 .done))) ?_
  first | refine AtT.kloadOA tk25 ?_ | refine AtT.kloadA tk25 ?_ | refine AtT.kloadOP tk25 ?_
  refine AtT.kcallP rfl rfl ok41 (fine_f L _ _ hv') ?_
  rintro _ rfl
  refine AtT.knot ?_
  refine AtT.done ?_
  refine At.nrm ?_
  by_cases he : logE L = 0
  rotate_left
  · refine At.condT rfl (by rw [decide_eq_false he]; rfl) ?_
    refine At.nrm ?_
    refine At.ktext (.n false 0 (.q 1 .done)) ?_
    refine AtT.kcallP rfl rfl ok19 (works_f _) ?_
    rintro _ rfl
    refine AtT.kassign ?_
    refine AtT.done ?_
    refine At.nrm ?_
    exact At.ret1 rfl (.tmp rfl) rfl
  refine At.condF rfl (by rw [decide_eq_true he]; rfl) ?_
  have hL := logE_ok he
  have n8 := hL.n8
  have el := hL.el
  have hb1 := tmod_pos h1.1 (m := 4) (by decide)
  have hb2 := tmod_pos h2.1 (m := 50) (by decide)
  obtain ⟨T, hT⟩ : ∃ T, T = 1 + times.tmod 4 := ⟨_, rfl⟩
  obtain ⟨M, hM⟩ : ∃ M, M = far.tmod 50 := ⟨_, rfl⟩
  have hT0 : 0 < T ∧ T ≤ 4 := by omega
  have hM0 : 0 ≤ M ∧ M < 50 := by omega
  refine At.nrm ?_
  refine At.ktext (.q 0 (.q 1 (.q 2 (.q 3 (.q 4 (.q 5 (.q 6 (.q 7 (.q 8 .done))))))))) ?_
  refine AtT.kmove ?_
  refine AtT.krem ?_
  refine AtT.kconv un5 Try.underlying2 ?_
  rw [wrap_fit (Fit.of (by omega) (by omega))]
  first | refine AtT.kadd ?_ | refine AtT.kaddW ?_
  refine AtT.kmove ?_
  refine AtT.krem ?_
  refine AtT.kconv un5 Try.underlying2 ?_
  rw [wrap_fit (Fit.of (by omega) (by omega))]
  refine AtT.kassign ?_
  refine AtT.kassign ?_
  refine AtT.done ?_
  refine At.nrm ?_
  refine At.re (d := 7) rfl (show iv (1 + times.tmod 4) = iv T from by rw [hT]) ?_
  refine At.re (d := 8) rfl (show iv (far.tmod 50) = iv M from by rw [hM]) ?_
  apply At.draw3 (.q 0 (.q 1 (.q 2 (.q 3 (.q 4 (.q 5 (.q 6 (.q 7 (.q 8 (Tr.al 3 [9, 10, 11] (.n false 12 (.n false 13 (.n false 14 .done))))))))))))) ffm (by kernel_rfl)
  · refine AtC.start ?_
    refine AtC.pre (fun hle0 => ?_)
    refine AtC.kq (by (first | refine AtT.kfieldO fo25_0 ?_ | with_reducible refine AtT.kfield2 fo25_0 ?_ | refine AtT.kfield fo25_0 ?_); exact At.knows) ?_
    refine AtC.kq (by (first | refine AtT.kloadO tk22 ?_ | refine AtT.kload tk22 ?_); exact At.knows) ?_
    refine AtC.kq (by (refine AtT.kbuild (bd25_0 _ _ _) ?_); exact At.knows) ?_
    refine AtC.kq (by (first | refine AtT.kfieldO fo25_1 ?_ | with_reducible refine AtT.kfield2 fo25_1 ?_ | refine AtT.kfield fo25_1 ?_); exact At.knows) ?_
    refine AtC.kq (by (first | refine AtT.kloadO tk23 ?_ | refine AtT.kload tk23 ?_); exact At.knows) ?_
    refine AtC.kq (by (refine AtT.kbuild (bd25_1 _ _ _) ?_); exact At.knows) ?_
    refine AtC.kq (by (first | refine AtT.kfieldO fo25_1 ?_ | with_reducible refine AtT.kfield2 fo25_1 ?_ | refine AtT.kfield fo25_1 ?_); exact At.knows) ?_
    refine AtC.kq (by (first | refine AtT.kloadO tk23 ?_ | refine AtT.kload tk23 ?_); exact At.knows) ?_
    refine AtC.kq (by (refine AtT.kbuild (bd25_1 _ _ _) ?_); exact At.knows) ?_
    refine AtC.als3 ⟨⟨_, _, _, _, rfl, z25, rfl, by decide⟩, ⟨_, _, _, _, rfl, z25, rfl, by decide⟩, ⟨_, _, _, _, rfl, z25, rfl, by decide⟩, trivial⟩ (by decide) (by decide) (AtC.sub1 Pt.auto (by first | exact Le.refl _ | assumption | exact Le.trans (by assumption) (by assumption)) (by assumption)) ?_
    intro b9 b10 b11
    refine AtC.nz ?_
    refine AtT.kstoreA tk25 ?_
    refine AtC.kgo ?_
    refine AtC.nz ?_
    refine AtT.kstoreA tk25 ?_
    refine AtC.kgo ?_
    refine AtC.nz ?_
    refine AtT.kstoreA tk25 ?_
    refine AtC.kgo ?_
    exact AtC.done (fun a w hk hm => ⟨b9, b10, b11, hk, hm⟩)
  intro b9 b10 b11
  refine At.nrm ?_
  refine At.ktext (.q 0 .done) ?_
  refine AtT.kassign ?_
  refine AtT.done ?_
  refine At.nrm ?_
  refine At.newRow 69 2 ?_
  refine At.newRow 2 1 ?_
  refine At.newRow 2 1 ?_
  refine At.lp (ι := Nat × (Option Addr × Nat) × (Option Addr × Nat) × (Option Addr × Nat)) (KS := fun g => [(3, .pointer (some ⟨b3, 0, none⟩)), (7, iv T), (8, iv M), (9, .pointer (some ⟨b9, 0, none⟩)), (10, .pointer (some ⟨b10, 0, none⟩)), (11, .pointer (some ⟨b11, 0, none⟩)), (12, iv g.1)])
    (OS := fun g => [.blk b3 (LC [.slice a L.pl.length c, .slice a' L.ed.length c'] 25), .blk b9 (LC [.slice a L.pl.length c, .slice g.2.1.1 g.1 g.2.1.2] 25), .blk b10 (LC [.slice g.2.2.1.1 g.1 g.2.2.1.2, .slice a' L.ed.length c'] 25), .blk b11 (LC [.slice g.2.2.2.1 g.1 g.2.2.2.2, .slice a' L.ed.length c'] 25),
      .row (.slice g.2.1.1 g.1 g.2.1.2) 69 2 g.1 (flat rge ((sclE L T).ed.take g.1)), .row (.slice g.2.2.1.1 g.1 g.2.2.1.2) 2 1 g.1 (flat ei ((farP L M).pl.take g.1)), .row (.slice g.2.2.2.1 g.1 g.2.2.2.2) 2 1 g.1 (flat ei ((sclP L T).pl.take g.1))])
    (VS := fun g V' => Le V V' ∧ g.1 ≤ L.pl.length) (μ := fun g => L.pl.length - g.1) (0, (none, 0), (none, 0), (none, 0)) ?_ ?_ ?_ ?_
  · exact ⟨rfl, rfl, rfl, rfl, rfl, rfl, rfl, trivial⟩
  · exact Pt.auto
  · exact ⟨Le.refl _, Nat.zero_le _⟩
  · rintro ⟨k, ⟨ao, co⟩, ⟨ap, cp⟩, ⟨aq, cq⟩⟩ V' ks' O' ⟨hVV, hkl⟩ hk hO hl2
    dsimp only at hkl hk hO
    subst hk hO
    have g2' := g2.le hVV
    have g3' := g3.le hVV
    refine At.nrm ?_
    refine At.ktext (.q 0 (.q 1 (.q 2 (.q 3 (.q 4 .done))))) ?_
    refine AtT.kmove ?_
    first | refine AtT.kfieldO fo25_0 ?_ | with_reducible refine AtT.kfield2 fo25_0 ?_ | refine AtT.kfield fo25_0 ?_
    first | refine AtT.kloadO tk22 ?_ | refine AtT.kload tk22 ?_
    first | refine AtT.klenS Try.underlying22 ?_ | refine AtT.klenR Try.underlying22 ?_
    refine AtT.klss ?_
    refine AtT.done ?_
    refine At.nrm ?_
    refine At.condP rfl (fun hb => ?_) (fun hb => ?_)
    · have hkn : k < L.pl.length := by omega
      have pb := hL.plB (i := (k : Int)) (by omega) (by omega)
      have eb := hL.edB (i := (k : Int)) (by omega) (by omega)
      have k1 : (sclE L T).ed[k]? = some (sclR T (edP L k)) := by simp only [sclE, List.getElem?_map, edP_at (L := L) (i := k) (by omega)]; rfl
      have k2 : (farP L M).pl[k]? = some (plP L k + M) := by simp only [farP, List.getElem?_map, plP_at hkn]; rfl
      have k3 : (sclP L T).pl[k]? = some (T * plP L k) := by simp only [sclP, List.getElem?_map, plP_at hkn]; rfl
      have m1 := mul_bd (a := T) (b := (edP L k).lo) (A := 4) (B := 1000) (by decide) (by decide) (by omega) (by omega) (by omega) (by omega)
      have m2 := mul_bd (a := T) (b := (edP L k).hi) (A := 4) (B := 1000) (by decide) (by decide) (by omega) (by omega) (by omega) (by omega)
      have m3 := mul_bd (a := T) (b := plP L k) (A := 4) (B := 100) (by decide) (by decide) (by omega) (by omega) (by omega) (by omega)
      refine At.nrm ?_
      refine At.draw (.q 0 (.q 1 (.q 2 (.q 3 (.q 4 (.q 5 (.q 6 (.q 7 (.q 8 (.q 9 (.q 10 (.q 11 (.q 12 (.q 13 (.q 14 (.q 15 (.q 16 (.q 17 (.n false 18 (.n false 19 (.n true 20 (.q 21 (.n true 22 .done))))))))))))))))))))))) ffm (by kernel_rfl) ?_
      first | refine AtT.kfieldO fo25_1 ?_ | with_reducible refine AtT.kfield2 fo25_1 ?_ | refine AtT.kfield fo25_1 ?_
      first | refine AtT.kloadO tk23 ?_ | refine AtT.kload tk23 ?_
      refine AtT.kmove ?_
      first | refine AtT.kfieldO fo25_1 ?_ | with_reducible refine AtT.kfield2 fo25_1 ?_ | refine AtT.kfield fo25_1 ?_
      first | refine AtT.kloadO tk23 ?_ | refine AtT.kload tk23 ?_
      refine AtT.kmove ?_
      refine AtT.kidx Try.underlying23 tk69 ?_
      intro p53 e53 he53 hc53
      obtain rfl : e53 = edP L k := edP_some he53
      first | refine AtT.kfieldO fo69_0 ?_ | with_reducible refine AtT.kfield2 fo69_0 ?_ | refine AtT.kfield fo69_0 ?_
      first | refine AtT.kloadO tk2 ?_ | refine AtT.kload tk2 ?_
      first | refine AtT.kmul ?_ | refine AtT.kmulW ?_
      refine AtT.kmove ?_
      first | refine AtT.kfieldO fo25_1 ?_ | with_reducible refine AtT.kfield2 fo25_1 ?_ | refine AtT.kfield fo25_1 ?_
      first | refine AtT.kloadO tk23 ?_ | refine AtT.kload tk23 ?_
      refine AtT.kmove ?_
      refine AtT.kidx Try.underlying23 tk69 ?_
      intro p61 e61 he61 hc61
      obtain rfl : e61 = edP L k := edP_some he61
      first | refine AtT.kfieldO fo69_1 ?_ | with_reducible refine AtT.kfield2 fo69_1 ?_ | refine AtT.kfield fo69_1 ?_
      first | refine AtT.kloadO tk2 ?_ | refine AtT.kload tk2 ?_
      first | refine AtT.kmul ?_ | refine AtT.kmulW ?_
      refine AtT.kcallP rfl rfl ok49 (to49_f _ _ _) ?_
      rintro _ rfl
      refine AtT.kbsliceG (bs23_1_0 _ _) ?_
      intro q66 V66 hV66 hq66
      have g66 : Le V V66 := by first | exact hV66 | exact Le.trans (by assumption) hV66
      first | refine AtT.kappend Try.underlying23 rw69 ?_
      intro a67 c67
      first | refine AtT.kfieldO fo25_1 ?_ | with_reducible refine AtT.kfield2 fo25_1 ?_ | refine AtT.kfield fo25_1 ?_
      first | refine AtT.kstore1 tk23 ?_ | refine AtT.kstoreA tk23 ?_
      refine AtT.done ?_
      refine At.nrm ?_
      have g2'' := g2'.le hV66
      refine At.cutG (ι := (Option Addr × Nat) × (Option Addr × Nat)) (fun _ => [(3, .pointer (some ⟨b3, 0, none⟩)), (7, iv T), (8, iv M), (9, .pointer (some ⟨b9, 0, none⟩)), (10, .pointer (some ⟨b10, 0, none⟩)), (11, .pointer (some ⟨b11, 0, none⟩)), (12, iv k)])
        (fun g => [.blk b3 (LC [.slice a L.pl.length c, .slice a' L.ed.length c'] 25), .blk b9 (LC [.slice a L.pl.length c, .slice a67 (k + 1) c67] 25), .blk b10 (LC [.slice g.1.1 (k + 1) g.1.2, .slice a' L.ed.length c'] 25), .blk b11 (LC [.slice g.2.1 (k + 1) g.2.2, .slice a' L.ed.length c'] 25),
          .row (.slice a67 (k + 1) c67) 69 2 (k + 1) (flat rge ((sclE L T).ed.take (k + 1))), .row (.slice g.1.1 (k + 1) g.1.2) 2 1 (k + 1) (flat ei ((farP L M).pl.take (k + 1))), .row (.slice g.2.1 (k + 1) g.2.2) 2 1 (k + 1) (flat ei ((sclP L T).pl.take (k + 1)))]) (fun _ V'' => Le V66 V'') ?_ ?_
      · rw [take_snoc' k1, take_snoc' k2, take_snoc' k3, flat_snoc, flat_snoc, flat_snoc]
        refine At.drawC [.blk b3 (LC [.slice a L.pl.length c, .slice a' L.ed.length c'] 25), .blk b10 (LC [.slice ap k cp, .slice a' L.ed.length c'] 25), .blk b11 (LC [.slice aq k cq, .slice a' L.ed.length c'] 25)] (.q 0 (.q 1 (.q 2 (.q 3 (.q 4 (.q 5 (.q 6 (.q 7 (.q 8 (.q 11 (.q 12 (.q 13 (.q 14 (.q 15 (.q 16 (.q 17 (.q 18 (.q 19 (.two 9 (.two 10 (.q 22 (.n false 20 (.n false 21 (.n true 23 (.q 24 (.n true 25 .done)))))) 20 (.n false 10 (.q 22 (.n false 21 (.n true 23 (.q 24 (.n true 25 .done))))))) 20 (.n false 9 (.n false 10 (.q 22 (.n false 21 (.n true 23 (.q 24 (.n true 25 .done)))))))))))))))))))))))))) ffm (by kernel_rfl) Pt.auto ?_
        refine AtC.pre (fun hle0 => ?_)
        refine AtC.kq (by (first | refine AtT.kfieldO fo25_0 ?_ | with_reducible refine AtT.kfield2 fo25_0 ?_ | refine AtT.kfield fo25_0 ?_); exact At.knows) ?_
        refine AtC.kq (by (first | refine AtT.kloadO tk22 ?_ | refine AtT.kload tk22 ?_); exact At.knows) ?_
        refine AtC.kq (by (first | refine AtT.kfieldO fo25_0 ?_ | with_reducible refine AtT.kfield2 fo25_0 ?_ | refine AtT.kfield fo25_0 ?_); exact At.knows) ?_
        refine AtC.kq (by (first | refine AtT.kloadO tk22 ?_ | refine AtT.kload tk22 ?_); exact At.knows) ?_
        refine AtC.kq (by (refine AtT.kmove ?_); exact At.knows) ?_
        refine AtC.kidx Try.underlying22 tk2 ?_
        intro p74 e74 he74 hc74
        obtain rfl : e74 = plP L k := plP_some he74
        refine AtC.kq (by (first | refine AtT.kloadO tk2 ?_ | refine AtT.kload tk2 ?_); exact At.knows) ?_
        refine AtC.kq (by (refine AtT.kmove ?_); exact At.knows) ?_
        refine AtC.kq (by (first | refine AtT.kadd ?_ | refine AtT.kaddW ?_); exact At.knows) ?_
        refine AtC.kq (by (first | refine AtT.kfieldO fo25_0 ?_ | with_reducible refine AtT.kfield2 fo25_0 ?_ | refine AtT.kfield fo25_0 ?_); exact At.knows) ?_
        refine AtC.kq (by (first | refine AtT.kloadO tk22 ?_ | refine AtT.kload tk22 ?_); exact At.knows) ?_
        refine AtC.kq (by (refine AtT.kmove ?_); exact At.knows) ?_
        refine AtC.kq (by (first | refine AtT.kfieldO fo25_0 ?_ | with_reducible refine AtT.kfield2 fo25_0 ?_ | refine AtT.kfield fo25_0 ?_); exact At.knows) ?_
        refine AtC.kq (by (first | refine AtT.kloadO tk22 ?_ | refine AtT.kload tk22 ?_); exact At.knows) ?_
        refine AtC.kq (by (refine AtT.kmove ?_); exact At.knows) ?_
        refine AtC.kidx Try.underlying22 tk2 ?_
        intro p86 e86 he86 hc86
        obtain rfl : e86 = plP L k := plP_some he86
        refine AtC.kq (by (first | refine AtT.kloadO tk2 ?_ | refine AtT.kload tk2 ?_); exact At.knows) ?_
        refine AtC.kq (by (first | refine AtT.kmul ?_ | refine AtT.kmulW ?_); exact At.knows) ?_
        refine AtC.two ?_ ?_
        focus
          refine AtC.nz ?_
          refine AtT.kbsliceG (bs22_1_0 _) ?_
          intro q78 V78 hV78 hq78
          have g78 : Le V V78 := by first | exact hV78 | exact Le.trans (by assumption) hV78
          refine AtC.kgo ?_
          refine AtC.two ?_ ?_
          focus
            refine AtC.nz ?_
            first | refine AtT.kappend Try.underlying22 rw2 ?_
            intro a79 c79
            refine AtC.kgo ?_
            refine AtC.kq (by (first | refine AtT.kfieldO fo25_0 ?_ | with_reducible refine AtT.kfield2 fo25_0 ?_ | refine AtT.kfield fo25_0 ?_); exact At.knows) ?_
            refine AtC.nz ?_
            refine AtT.kbsliceG (bs22_1_0 _) ?_
            intro q89 V89 hV89 hq89
            have g89 : Le V V89 := by first | exact hV89 | exact Le.trans (by assumption) hV89
            refine AtC.kgo ?_
            refine AtC.nz ?_
            first | refine AtT.kappend Try.underlying22 rw2 ?_
            intro a90 c90
            refine AtC.kgo ?_
            refine AtC.toT ?_
            first | refine AtT.kstore1 tk22 ?_ | refine AtT.kstoreA tk22 ?_
            first | refine AtT.kfieldO fo25_0 ?_ | with_reducible refine AtT.kfield2 fo25_0 ?_ | refine AtT.kfield fo25_0 ?_
            first | refine AtT.kstore1 tk22 ?_ | refine AtT.kstoreA tk22 ?_
            refine AtT.done ?_
          rotate_right
          focus
            refine AtC.nz ?_
            refine AtT.kbsliceG (bs22_1_0 _) ?_
            intro q89 V89 hV89 hq89
            have g89 : Le V V89 := by first | exact hV89 | exact Le.trans (by assumption) hV89
            refine AtC.kgo ?_
            refine AtC.nz ?_
            first | refine AtT.kappend Try.underlying22 rw2 ?_
            intro a79 c79
            refine AtC.kgo ?_
            refine AtC.kq (by (first | refine AtT.kfieldO fo25_0 ?_ | with_reducible refine AtT.kfield2 fo25_0 ?_ | refine AtT.kfield fo25_0 ?_); exact At.knows) ?_
            refine AtC.nz ?_
            first | refine AtT.kappend Try.underlying22 rw2 ?_
            intro a90 c90
            refine AtC.kgo ?_
            refine AtC.toT ?_
            first | refine AtT.kstore1 tk22 ?_ | refine AtT.kstoreA tk22 ?_
            first | refine AtT.kfieldO fo25_0 ?_ | with_reducible refine AtT.kfield2 fo25_0 ?_ | refine AtT.kfield fo25_0 ?_
            first | refine AtT.kstore1 tk22 ?_ | refine AtT.kstoreA tk22 ?_
            refine AtT.done ?_
        rotate_right
        focus
          refine AtC.nz ?_
          refine AtT.kbsliceG (bs22_1_0 _) ?_
          intro q89 V89 hV89 hq89
          have g89 : Le V V89 := by first | exact hV89 | exact Le.trans (by assumption) hV89
          refine AtC.kgo ?_
          refine AtC.nz ?_
          refine AtT.kbsliceG (bs22_1_0 _) ?_
          intro q78 V78 hV78 hq78
          have g78 : Le V V78 := by first | exact hV78 | exact Le.trans (by assumption) hV78
          refine AtC.kgo ?_
          refine AtC.nz ?_
          first | refine AtT.kappend Try.underlying22 rw2 ?_
          intro a79 c79
          refine AtC.kgo ?_
          refine AtC.kq (by (first | refine AtT.kfieldO fo25_0 ?_ | with_reducible refine AtT.kfield2 fo25_0 ?_ | refine AtT.kfield fo25_0 ?_); exact At.knows) ?_
          refine AtC.nz ?_
          first | refine AtT.kappend Try.underlying22 rw2 ?_
          intro a90 c90
          refine AtC.kgo ?_
          refine AtC.toT ?_
          first | refine AtT.kstore1 tk22 ?_ | refine AtT.kstoreA tk22 ?_
          first | refine AtT.kfieldO fo25_0 ?_ | with_reducible refine AtT.kfield2 fo25_0 ?_ | refine AtT.kfield fo25_0 ?_
          first | refine AtT.kstore1 tk22 ?_ | refine AtT.kstoreA tk22 ?_
          refine AtT.done ?_
        all_goals (refine At.nrm ?_)
        all_goals (exact At.meetG ((a79, c79), (a90, c90)) (by first | exact Le.refl _ | assumption | exact Le.trans (by assumption) (by assumption)) ⟨rfl, rfl, rfl, rfl, rfl, rfl, rfl, trivial⟩ Pt.auto)
      rintro ⟨⟨a79, c79⟩, ⟨a90, c90⟩⟩ V9 ks' O' hV9 hk hO hl3
      dsimp only at hk hO
      subst hk hO
      refine At.nrm ?_
      refine At.ktext (.q 0 (.q 1 (.q 2 .done))) ?_
      refine AtT.kmove ?_
      first | refine AtT.kadd ?_ | refine AtT.kaddW ?_
      refine AtT.kassign ?_
      refine AtT.done ?_
      refine At.nrm ?_
      refine At.round (k + 1, (a67, c67), (a79, c79), (a90, c90)) ?_ ?_ ?_ ?_
      · show L.pl.length - (k + 1) < L.pl.length - k; omega
      · exact ⟨(hVV.trans hV66).trans hV9, by dsimp only; omega⟩
      · exact ⟨rfl, rfl, rfl, rfl, rfl, rfl, ivs (by dsimp only; omega), trivial⟩
      dsimp only
      · exact Pt.auto
    · obtain rfl : k = L.pl.length := by omega
      have lx : (sclE L T).ed.length = L.pl.length := by simp [sclE, el]
      have ly : (farP L M).pl.length = L.pl.length := by simp [farP]
      have lz : (sclP L T).pl.length = L.pl.length := by simp [sclP]
      rw [show (sclE L T).ed.take L.pl.length = (sclE L T).ed from by rw [← lx, List.take_length], show (farP L M).pl.take L.pl.length = (farP L M).pl from by rw [← ly, List.take_length], show (sclP L T).pl.take L.pl.length = (sclP L T).pl from by rw [← lz, List.take_length]]
      refine At.nrm ?_
      refine At.giveSl rge_len rfl lx.symm Pick.auto (fun V4 hV4 hs4 => ?_)
      refine At.giveSl ei_len rfl ly.symm Pick.auto (fun V5 hV5 hs5 => ?_)
      refine At.giveSl ei_len rfl lz.symm Pick.auto (fun V6 hV6 hs6 => ?_)
      have hle := ((hVV.trans hV4).trans hV5).trans hV6
      have hvl : LogV V6 (.agg #[.slice a L.pl.length c, .slice a' L.ed.length c']) L := ⟨_, _, _, _, rfl, g2.le hle, g3.le hle⟩
      have hvx : LogV V6 (.agg #[.slice a L.pl.length c, .slice ao L.pl.length co]) (sclE L T) := ⟨a, c, ao, co, by rw [lx]; rfl, g2.le hle, by rw [lx]; exact (hs4.le hV5).le hV6⟩
      have hvy : LogV V6 (.agg #[.slice ap L.pl.length cp, .slice a' L.ed.length c']) (farP L M) := ⟨ap, cp, a', c', by rw [ly]; rfl, by rw [ly]; exact hs5.le hV6, g3.le hle⟩
      have hvz : LogV V6 (.agg #[.slice aq L.pl.length cq, .slice a' L.ed.length c']) (sclP L T) := ⟨aq, cq, a', c', by rw [lz]; rfl, by rw [lz]; exact hs6, g3.le hle⟩
      have hbs := best_sm hL
      have bp := hbs.can.pos
      have bd := hbs.d
      have bl := hbs.lo
      have bh := hbs.hi
      have mt := mul_bd (a := T) (b := (bestV L).num) (A := 4) (B := 600000) (by decide) (by decide) (by omega) (by omega) (by omega) (by omega)
      refine At.ktext (.q 0 (.n false 1 (.q 2 (.q 3 (.q 4 (.n false 5 (.n true 6 (.q 7 .done)))))))) ?_
      first | refine AtT.kloadOA tk25 ?_ | refine AtT.kloadA tk25 ?_ | refine AtT.kloadOP tk25 ?_
      refine AtT.kcallP rfl rfl ok42 (best42_f L _ _ hvl he) ?_
      rintro _ rfl
      refine AtT.kmove ?_
      refine AtT.kextract ?_
      refine AtT.kextract ?_
      refine AtT.kalloc z31 ?_
      intro b13
      refine AtT.kstoreA tk31 ?_
      refine AtT.kassign ?_
      refine AtT.done ?_
      refine At.nrm ?_
      refine At.ktext (.q 0 (.q 1 .done)) ?_
      refine AtT.kmove ?_
      refine AtT.knot ?_
      refine AtT.done ?_
      refine At.nrm ?_
      refine At.condF rfl rfl ?_
      refine At.nrm ?_
      refine At.ktext (.q 0 (.n false 1 .done)) ?_
      first | refine AtT.kloadOA tk25 ?_ | refine AtT.kloadA tk25 ?_ | refine AtT.kloadOP tk25 ?_
      refine AtT.kcallP rfl rfl ok41 (fine_f (sclE L T) _ _ hvx) ?_
      rintro _ rfl
      refine AtT.done ?_
      refine At.nrm ?_
      refine At.cutG (ι := Unit) (fun _ => [(10, .pointer (some ⟨b10, 0, none⟩)), (11, .pointer (some ⟨b11, 0, none⟩)), (13, .pointer (some ⟨b13, 0, none⟩))])
        (fun _ => [.blk b10 (LC [.slice ap L.pl.length cp, .slice a' L.ed.length c'] 25), .blk b11 (LC [.slice aq L.pl.length cq, .slice a' L.ed.length c'] 25), .blk b13 (LC (rte (bestV L)) 31)]) (fun _ V' => V6 = V') ?_ ?_
      · refine At.condP rfl (fun hx => ?_) (fun hx => ?_)
        · have hbx := sclE_best hL hT0.1 (logE_ok hx)
          refine At.nrm ?_
          refine At.ktext (.q 0 (.n false 1 (.q 2 (.q 3 (.q 4 (.n false 5 (.n true 6 (.q 7 .done)))))))) ?_
          first | refine AtT.kloadOA tk25 ?_ | refine AtT.kloadA tk25 ?_ | refine AtT.kloadOP tk25 ?_
          refine AtT.kcallP rfl rfl ok42 (best42_f (sclE L T) _ _ hvx hx) ?_
          rintro _ rfl; rw [hbx]
          refine AtT.kmove ?_
          refine AtT.kextract ?_
          refine AtT.kextract ?_
          refine AtT.kalloc z31 ?_
          intro b15
          refine AtT.kstoreA tk31 ?_
          refine AtT.kassign ?_
          refine AtT.done ?_
          refine At.nrm ?_
          apply At.draw0 (.q 0 (.q 1 (.q 2 (.q 3 (.q 4 (.q 5 (.q 6 (.q 7 (.q 8 (.q 9 (.n false 10 (.q 11 (.q 12 .done))))))))))))) ffm (by kernel_rfl)
          · refine AtT.kmove ?_
            refine AtT.knot ?_
            refine AtT.kmove ?_
            all_goals (first | refine AtT.kL 109 ?_ | refine AtT.pcase (d := 109) rfl (fun hg109 => ?_) (fun hg109 => ?_) | refine AtT.bcase (d := 109) rfl (fun hg109 => ?_) (fun hg109 => ?_))
            all_goals (first | refine AtT.kpass ?_ | refine AtT.kpassU ?_ | ((first | refine AtT.kloadOA tk31 ?_ | refine AtT.kloadA tk31 ?_ | refine AtT.kloadOP tk31 ?_)))
            all_goals (first | refine AtT.kpass ?_ | refine AtT.kpassU ?_ | ((refine AtT.kmove ?_)))
            all_goals (first | refine AtT.kpass ?_ | refine AtT.kpassU ?_ | ((first | refine AtT.kfieldO fo31_0 ?_ | with_reducible refine AtT.kfield2 fo31_0 ?_ | refine AtT.kfield fo31_0 ?_)))
            all_goals (first | refine AtT.kpass ?_ | refine AtT.kpassU ?_ | ((first | refine AtT.kloadO tk2 ?_ | refine AtT.kload tk2 ?_)))
            all_goals (first | refine AtT.kpass ?_ | refine AtT.kpassU ?_ | ((first | refine AtT.kmul ?_ | refine AtT.kmulW ?_)))
            all_goals (first | refine AtT.kpass ?_ | refine AtT.kpassU ?_ | ((first | refine AtT.kfieldO fo31_1 ?_ | with_reducible refine AtT.kfield2 fo31_1 ?_ | refine AtT.kfield fo31_1 ?_)))
            all_goals (first | refine AtT.kpass ?_ | refine AtT.kpassU ?_ | ((first | refine AtT.kloadO tk2 ?_ | refine AtT.kload tk2 ?_)))
            all_goals (first | refine AtT.kpassN ?_ | refine AtT.kpassNU ?_ | ((refine AtT.kcallP rfl rfl ok51 (by_r (T * (bestV L).num) (bestV L).den _ (by omega) (by omega) bp (by omega)) ?_) ; (rintro _ rfl)))
            all_goals (first | refine AtT.kpass ?_ | refine AtT.kpassU ?_ | ((refine AtT.kneS (eqS31 _ _ _ _) ?_)))
            all_goals (rw [neR])
            all_goals (refine AtT.kpick ?_)
            exact AtT.done (fun a w hk hm => ⟨hk, hm⟩)
          refine At.nrm ?_
          refine At.condF rfl rfl ?_
          refine At.nrm ?_
          exact At.meetG () rfl ⟨rfl, rfl, rfl, trivial⟩ Pt.auto
        · refine At.nrm ?_
          exact At.meetG () rfl ⟨rfl, rfl, rfl, trivial⟩ Pt.auto
      rintro _ V' ks' O' rfl hk hO hl3
      subst hk hO
      refine At.nrm ?_
      refine At.ktext (.q 0 (.n false 1 .done)) ?_
      first | refine AtT.kloadOA tk25 ?_ | refine AtT.kloadA tk25 ?_ | refine AtT.kloadOP tk25 ?_
      refine AtT.kcallP rfl rfl ok41 (fine_f (farP L M) _ _ hvy) ?_
      rintro _ rfl
      refine AtT.done ?_
      refine At.nrm ?_
      refine At.cutG (ι := Unit) (fun _ => [(11, .pointer (some ⟨b11, 0, none⟩)), (13, .pointer (some ⟨b13, 0, none⟩))])
        (fun _ => [.blk b11 (LC [.slice aq L.pl.length cq, .slice a' L.ed.length c'] 25), .blk b13 (LC (rte (bestV L)) 31)]) (fun _ V' => V6 = V') ?_ ?_
      · refine At.condP rfl (fun hx => ?_) (fun hx => ?_)
        · have hbx := (farP_best hL M (logE_ok hx)).symm
          refine At.nrm ?_
          refine At.ktext (.q 0 (.n false 1 (.q 2 (.q 3 (.q 4 (.n false 5 (.n true 6 (.q 7 .done)))))))) ?_
          first | refine AtT.kloadOA tk25 ?_ | refine AtT.kloadA tk25 ?_ | refine AtT.kloadOP tk25 ?_
          refine AtT.kcallP rfl rfl ok42 (best42_f (farP L M) _ _ hvy hx) ?_
          rintro _ rfl; rw [hbx]
          refine AtT.kmove ?_
          refine AtT.kextract ?_
          refine AtT.kextract ?_
          refine AtT.kalloc z31 ?_
          intro b17
          refine AtT.kstoreA tk31 ?_
          refine AtT.kassign ?_
          refine AtT.done ?_
          refine At.nrm ?_
          refine At.ktext (.q 0 (.q 1 (.q 2 (.q 3 (.q 4 (.q 5 (.q 6 .done))))))) ?_
          refine AtT.kmove ?_
          refine AtT.knot ?_
          refine AtT.kmove ?_
          all_goals (first | refine AtT.kL 129 ?_ | refine AtT.pcase (d := 129) rfl (fun hg129 => ?_) (fun hg129 => ?_) | refine AtT.bcase (d := 129) rfl (fun hg129 => ?_) (fun hg129 => ?_))
          all_goals (first | refine AtT.kpass ?_ | refine AtT.kpassU ?_ | ((first | refine AtT.kloadOA tk31 ?_ | refine AtT.kloadA tk31 ?_ | refine AtT.kloadOP tk31 ?_)))
          all_goals (first | refine AtT.kpass ?_ | refine AtT.kpassU ?_ | ((first | refine AtT.kloadOA tk31 ?_ | refine AtT.kloadA tk31 ?_ | refine AtT.kloadOP tk31 ?_)))
          all_goals (first | refine AtT.kpass ?_ | refine AtT.kpassU ?_ | ((refine AtT.kneS (eqS31 _ _ _ _) ?_)))
          all_goals (rw [neR])
          all_goals (refine AtT.kpick ?_)
          all_goals refine AtT.done ?_
          all_goals (refine At.nrm ?_)
          refine At.condF rfl rfl ?_
          refine At.nrm ?_
          exact At.meetG () rfl ⟨rfl, rfl, trivial⟩ Pt.auto
        · refine At.nrm ?_
          exact At.meetG () rfl ⟨rfl, rfl, trivial⟩ Pt.auto
      rintro _ V' ks' O' rfl hk hO hl4
      subst hk hO
      refine At.nrm ?_
      refine At.ktext (.q 0 (.n false 1 (.q 2 .done))) ?_
      first | refine AtT.kloadOA tk25 ?_ | refine AtT.kloadA tk25 ?_ | refine AtT.kloadOP tk25 ?_
      refine AtT.kcallP rfl rfl ok41 (fine_f (sclP L T) _ _ hvz) ?_
      rintro _ rfl
      refine AtT.knot ?_
      refine AtT.done ?_
      refine At.nrm ?_
      by_cases hx : logE (sclP L T) = 0
      rotate_left
      · refine At.condT rfl (by rw [decide_eq_false hx]; rfl) ?_
        refine At.nrm ?_
        refine At.ktext (.n false 0 (.q 1 .done)) ?_
        refine AtT.kcallP rfl rfl ok19 (works_f _) ?_
        rintro _ rfl
        refine AtT.kassign ?_
        refine AtT.done ?_
        refine At.nrm ?_
        exact At.ret1 rfl (.tmp rfl) rfl
      refine At.condF rfl (by rw [decide_eq_true hx]; rfl) ?_
      have hbx := (sclP_best hL hT0.1 (logE_ok hx)).symm
      refine At.nrm ?_
      refine At.ktext (.q 0 (.n false 1 (.q 2 (.q 3 (.q 4 (.n false 5 (.n true 6 (.q 7 .done)))))))) ?_
      first | refine AtT.kloadOA tk25 ?_ | refine AtT.kloadA tk25 ?_ | refine AtT.kloadOP tk25 ?_
      refine AtT.kcallP rfl rfl ok42 (best42_f (sclP L T) _ _ hvz hx) ?_
      rintro _ rfl; rw [hbx]
      refine AtT.kmove ?_
      refine AtT.kextract ?_
      refine AtT.kextract ?_
      refine AtT.kalloc z31 ?_
      intro b19
      refine AtT.kstoreA tk31 ?_
      refine AtT.kassign ?_
      refine AtT.done ?_
      refine At.nrm ?_
      refine At.ktext (.q 0 (.q 1 (.q 2 (.q 3 (.q 4 (.q 5 (.q 6 (.n false 7 (.q 8 (.q 9 .done)))))))))) ?_
      refine AtT.kmove ?_
      refine AtT.kmove ?_
      all_goals (first | refine AtT.kL 144 ?_ | refine AtT.pcase (d := 144) rfl (fun hg144 => ?_) (fun hg144 => ?_) | refine AtT.bcase (d := 144) rfl (fun hg144 => ?_) (fun hg144 => ?_))
      all_goals (first | refine AtT.kpass ?_ | refine AtT.kpassU ?_ | ((first | refine AtT.kloadOA tk31 ?_ | refine AtT.kloadA tk31 ?_ | refine AtT.kloadOP tk31 ?_)))
      all_goals (first | refine AtT.kpass ?_ | refine AtT.kpassU ?_ | ((first | refine AtT.kloadOA tk31 ?_ | refine AtT.kloadA tk31 ?_ | refine AtT.kloadOP tk31 ?_)))
      all_goals (first | refine AtT.kpass ?_ | refine AtT.kpassU ?_ | ((refine AtT.keqS (eqS31 _ _ _ _) ?_)))
      all_goals (rw [eqR])
      all_goals (refine AtT.kpick ?_)
      all_goals (refine AtT.kmove ?_)
      all_goals (first | refine AtT.kL 149 ?_ | refine AtT.pcase (d := 149) rfl (fun hg149 => ?_) (fun hg149 => ?_) | refine AtT.bcase (d := 149) rfl (fun hg149 => ?_) (fun hg149 => ?_))
      all_goals (first | refine AtT.kpassN ?_ | refine AtT.kpassNU ?_ | ((refine AtT.kcallP rfl rfl ok19 (works_f _) ?_) ; (rintro _ rfl)))
      all_goals (refine AtT.kpick ?_)
      all_goals (refine AtT.kassign ?_)
      all_goals refine AtT.done ?_
      all_goals (refine At.nrm ?_)
      exact At.ret1 rfl (.tmp rfl) rfl
end Go.Proofs.Ytnionkopmncopaa
set_option linter.unusedVariables false
namespace Go.Proofs.Ytnionkopmncopaa
open Go.Lw Go.Pl Go.RowKit

theorem erase_snoc {α : Type} {l : List α} {k I : Nat} {x : α} (h : l[k]? = some x) (hne : k ≠ I) : (l.take (k + 1)).eraseIdx I = (l.take k).eraseIdx I ++ [x] := by
  have hk := (List.getElem?_eq_some_iff.1 h).1
  have hl : (l.take k).length = k := by simp; omega
  rw [take_snoc' h]
  by_cases c : I < k
  · rw [List.eraseIdx_append_of_lt_length (by omega)]
  · rw [List.eraseIdx_append_of_length_le (by omega), hl, List.eraseIdx_of_length_le (k := I) (l := l.take k) (by omega)]
    rw [List.eraseIdx_of_length_le (by simp; omega)]
theorem erase_same {α : Type} {l : List α} {I : Nat} {x : α} (h : l[I]? = some x) : (l.take (I + 1)).eraseIdx I = (l.take I).eraseIdx I := by
  have hk := (List.getElem?_eq_some_iff.1 h).1
  have hl : (l.take I).length = I := by simp; omega
  rw [take_snoc' h, List.eraseIdx_append_of_length_le (by omega), hl, List.eraseIdx_of_length_le (k := I) (l := l.take I) (by omega), Nat.sub_self]
  simp
theorem erase_len {α β : Type} {l : List α} {m : List β} (h : m.length = l.length) (k I : Nat) : ((m.take k).eraseIdx I).length = ((l.take k).eraseIdx I).length := by
  simp [List.length_eraseIdx, h]

theorem peelMore_f (L : Lg) (which wider : Int) (V : View) (v : Value) (hv : LogV V v L) (h1 : 0 ≤ which ∧ which ≤ 255) (h2 : 0 ≤ wider ∧ wider ≤ 255) :
    Fnc Try.prog 14 [v, .int .u8 which, .int .u8 wider] V fun r _ => r = .bool true := by
  have hv' := hv
  obtain ⟨a, c, a', c', rfl, g2, g3⟩ := hv
  refine fn_of Try.func14 rfl Try.ntmps14 (Nat.le_of_ble_eq_true rfl) ?_
  intro w0 hw0
  refine At.nrm ?_
  refine At.ktext (.n false 0 (.q 1 .done)) ?_
  refine AtT.kbox ?_
  intro b3
  refine AtT.kassign ?_
  refine AtT.done ?_
  refine At.nrm ?_
  refine At.ktext (.q 0 (.n false 1 (.q 2 .done))) ?_
  first | refine AtT.kloadOA tk25 ?_ | refine AtT.kloadA tk25 ?_ | refine AtT.kloadOP tk25 ?_
  refine AtT.kcallP rfl rfl ok41 (fine_f L _ _ hv') ?_
  rintro _ rfl
  refine AtT.knot ?_
  refine AtT.done ?_
  refine At.nrm ?_
  by_cases he : logE L = 0
  rotate_left
  · refine At.condT rfl (by rw [decide_eq_false he]; rfl) ?_
    refine At.nrm ?_
    refine At.ktext (.n false 0 (.q 1 .done)) ?_
    refine AtT.kcallP rfl rfl ok19 (works_f _) ?_
    rintro _ rfl
    refine AtT.kassign ?_
    refine AtT.done ?_
    refine At.nrm ?_
    exact At.ret1 rfl (.tmp rfl) rfl
  refine At.condF rfl (by rw [decide_eq_true he]; rfl) ?_
  have hL := logE_ok he
  have n2 := hL.n2
  have n8 := hL.n8
  have el := hL.el
  have hI0 := tmod_pos h1.1 (m := (L.pl.length : Int)) (by omega)
  obtain ⟨I, hI⟩ : ∃ I : Nat, which.tmod L.pl.length = I := ⟨(which.tmod L.pl.length).toNat, by omega⟩
  have hIn : I < L.pl.length := by omega
  have hd2 : 0 ≤ wider.tdiv 2 ∧ wider.tdiv 2 ≤ 255 := by
    have := Int.tdiv_nonneg h2.1 (b := 2) (by decide)
    have := Int.mul_tdiv_add_tmod wider 2
    have := Int.tmod_nonneg (a := wider) 2 h2.1
    omega
  have lx : (widL L wider).ed.length = L.pl.length := by simp [widL, el]
  refine At.nrm ?_
  refine At.ktext (.q 0 (.q 1 (.q 2 (.q 3 (.q 4 (.q 5 (.q 6 (.q 7 (.q 8 (.q 9 .done)))))))))) ?_
  refine AtT.kmove ?_
  refine AtT.kconv un5 Try.underlying3 ?_
  rw [wrap_fit (Fit.of (by omega) (by omega))]
  first | refine AtT.kfieldO fo25_0 ?_ | with_reducible refine AtT.kfield2 fo25_0 ?_ | refine AtT.kfield fo25_0 ?_
  first | refine AtT.kloadO tk22 ?_ | refine AtT.kload tk22 ?_
  first | refine AtT.klenS Try.underlying22 ?_ | refine AtT.klenR Try.underlying22 ?_
  refine AtT.krem ?_
  refine AtT.kmove ?_
  refine AtT.kconv un5 Try.underlying2 ?_
  rw [wrap_fit (Fit.of (by omega) (by omega))]
  refine AtT.kassign ?_
  refine AtT.kassign ?_
  refine AtT.done ?_
  refine At.nrm ?_
  refine At.re (d := 7) rfl (show iv (which.tmod L.pl.length) = iv I from by rw [hI]) ?_
  refine At.ktext (.q 0 (.n false 1 (.q 2 (.q 3 (.q 4 (.n false 5 (.n true 6 (.q 7 .done)))))))) ?_
  first | refine AtT.kloadOA tk25 ?_ | refine AtT.kloadA tk25 ?_ | refine AtT.kloadOP tk25 ?_
  refine AtT.kcallP rfl rfl ok42 (best42_f L _ _ hv' he) ?_
  rintro _ rfl
  refine AtT.kmove ?_
  refine AtT.kextract ?_
  refine AtT.kextract ?_
  refine AtT.kalloc z31 ?_
  intro b9
  refine AtT.kstoreA tk31 ?_
  refine AtT.kassign ?_
  refine AtT.done ?_
  refine At.nrm ?_
  refine At.ktext (.q 0 (.q 1 (.q 2 (.n false 3 (.n true 4 .done))))) ?_
  first | refine AtT.kfieldO fo25_0 ?_ | with_reducible refine AtT.kfield2 fo25_0 ?_ | refine AtT.kfield fo25_0 ?_
  first | refine AtT.kloadO tk22 ?_ | refine AtT.kload tk22 ?_
  refine AtT.kbuild (bd25_0 _ _ _) ?_
  refine AtT.kalloc z25 ?_
  intro b11
  refine AtT.kstoreA tk25 ?_
  refine AtT.done ?_
  refine At.nrm ?_
  refine At.ktext (.n false 0 .done) ?_
  refine AtT.kalloc z25 ?_
  intro b12
  refine AtT.done ?_
  refine At.nrm ?_
  refine At.ktext (.q 0 .done) ?_
  refine AtT.kassign ?_
  refine AtT.done ?_
  refine At.nrm ?_
  refine At.newRow 69 2 ?_
  refine At.newRow 2 1 ?_
  refine At.newRow 69 2 ?_
  refine At.lp (ι := Nat × (Option Addr × Nat) × (Option Addr × Nat) × (Option Addr × Nat)) (KS := fun g => [(3, .pointer (some ⟨b3, 0, none⟩)), (7, iv I), (8, iv wider), (9, .pointer (some ⟨b9, 0, none⟩)), (10, .bool true), (11, .pointer (some ⟨b11, 0, none⟩)), (12, .pointer (some ⟨b12, 0, none⟩)), (13, iv g.1)])
    (OS := fun g => [.blk b3 (LC [.slice a L.pl.length c, .slice a' L.ed.length c'] 25), .blk b9 (LC (rte (bestV L)) 31), .blk b11 (LC [.slice a L.pl.length c, .slice g.2.1.1 g.1 g.2.1.2] 25), .blk b12 (LC [.slice g.2.2.1.1 ((L.pl.take g.1).eraseIdx I).length g.2.2.1.2, .slice g.2.2.2.1 ((L.pl.take g.1).eraseIdx I).length g.2.2.2.2] 25),
      .row (.slice g.2.1.1 g.1 g.2.1.2) 69 2 g.1 (flat rge ((widL L wider).ed.take g.1)), .row (.slice g.2.2.1.1 ((L.pl.take g.1).eraseIdx I).length g.2.2.1.2) 2 1 ((L.pl.take g.1).eraseIdx I).length (flat ei ((L.pl.take g.1).eraseIdx I)), .row (.slice g.2.2.2.1 ((L.pl.take g.1).eraseIdx I).length g.2.2.2.2) 69 2 ((L.pl.take g.1).eraseIdx I).length (flat rge ((L.ed.take g.1).eraseIdx I))])
    (VS := fun g V' => Le V V' ∧ g.1 ≤ L.pl.length) (μ := fun g => L.pl.length - g.1) (0, (none, 0), (none, 0), (none, 0)) ?_ ?_ ?_ ?_
  · exact ⟨rfl, rfl, rfl, rfl, rfl, rfl, rfl, rfl, trivial⟩
  · exact Pt.auto
  · exact ⟨Le.refl _, Nat.zero_le _⟩
  · rintro ⟨k, ⟨ao, co⟩, ⟨ap, cp⟩, ⟨aq, cq⟩⟩ V' ks' O' ⟨hVV, hkl⟩ hk hO hl2
    dsimp only at hkl hk hO
    subst hk hO
    have g2' := g2.le hVV
    have g3' := g3.le hVV
    refine At.nrm ?_
    refine At.ktext (.q 0 (.q 1 (.q 2 (.q 3 (.q 4 .done))))) ?_
    refine AtT.kmove ?_
    first | refine AtT.kfieldO fo25_0 ?_ | with_reducible refine AtT.kfield2 fo25_0 ?_ | refine AtT.kfield fo25_0 ?_
    first | refine AtT.kloadO tk22 ?_ | refine AtT.kload tk22 ?_
    first | refine AtT.klenS Try.underlying22 ?_ | refine AtT.klenR Try.underlying22 ?_
    refine AtT.klss ?_
    refine AtT.done ?_
    refine At.nrm ?_
    refine At.condP rfl (fun hb => ?_) (fun hb => ?_)
    · have hkn : k < L.pl.length := by omega
      have pb := hL.plB (i := (k : Int)) (by omega) (by omega)
      have eb := hL.edB (i := (k : Int)) (by omega) (by omega)
      have k1 : (widL L wider).ed[k]? = some (widR wider (edP L k)) := by simp only [widL, List.getElem?_map, edP_at (L := L) (i := k) (by omega)]; rfl
      have k2 := plP_at (L := L) hkn
      have k3 := edP_at (L := L) (i := k) (by omega)
      have hel := erase_len (l := L.pl) (m := L.ed) el k I
      have hlen : ((L.pl.take k).eraseIdx I).length ≤ k := by
        have := List.length_eraseIdx_le (L.pl.take k) I
        have : (L.pl.take k).length ≤ k := by simp; omega
        omega
      refine At.nrm ?_
      refine At.draw (.q 0 (.q 1 (.q 2 (.q 3 (.q 4 (.q 5 (.q 6 (.q 7 (.q 8 (.q 9 (.q 10 (.q 11 (.q 12 (.q 13 (.q 14 (.q 15 (.q 16 (.q 17 (.q 18 (.q 19 (.q 20 (.n false 21 (.n false 22 (.n true 23 (.q 24 (.n true 25 .done)))))))))))))))))))))))))) ffm (by kernel_rfl) ?_
      first | refine AtT.kfieldO fo25_1 ?_ | with_reducible refine AtT.kfield2 fo25_1 ?_ | refine AtT.kfield fo25_1 ?_
      first | refine AtT.kloadO tk23 ?_ | refine AtT.kload tk23 ?_
      first | refine AtT.kfieldO fo25_1 ?_ | with_reducible refine AtT.kfield2 fo25_1 ?_ | refine AtT.kfield fo25_1 ?_
      first | refine AtT.kloadO tk23 ?_ | refine AtT.kload tk23 ?_
      refine AtT.kmove ?_
      refine AtT.kidx Try.underlying23 tk69 ?_
      intro p48 e48 he48 hc48
      obtain rfl : e48 = edP L k := edP_some he48
      first | refine AtT.kfieldO fo69_0 ?_ | with_reducible refine AtT.kfield2 fo69_0 ?_ | refine AtT.kfield fo69_0 ?_
      first | refine AtT.kloadO tk2 ?_ | refine AtT.kload tk2 ?_
      refine AtT.kmove ?_
      first | refine AtT.ksubt ?_ | refine AtT.ksubW ?_
      refine AtT.kmax2 ?_
      first | refine AtT.kfieldO fo25_1 ?_ | with_reducible refine AtT.kfield2 fo25_1 ?_ | refine AtT.kfield fo25_1 ?_
      first | refine AtT.kloadO tk23 ?_ | refine AtT.kload tk23 ?_
      refine AtT.kmove ?_
      refine AtT.kidx Try.underlying23 tk69 ?_
      intro p57 e57 he57 hc57
      obtain rfl : e57 = edP L k := edP_some he57
      first | refine AtT.kfieldO fo69_1 ?_ | with_reducible refine AtT.kfield2 fo69_1 ?_ | refine AtT.kfield fo69_1 ?_
      first | refine AtT.kloadO tk2 ?_ | refine AtT.kload tk2 ?_
      refine AtT.kmove ?_
      refine AtT.kquo ?_
      first | refine AtT.kadd ?_ | refine AtT.kaddW ?_
      refine AtT.kmin2 ?_
      refine AtT.kcallP rfl rfl ok49 (to49_f _ _ _) ?_
      rintro _ rfl
      refine AtT.kbsliceG (bs23_1_0 _ _) ?_
      intro q65 V65 hV65 hq65
      have g65 : Le V V65 := by first | exact hV65 | exact Le.trans (by assumption) hV65
      first | refine AtT.kappend Try.underlying23 rw69 ?_
      intro a66 c66
      first | refine AtT.kfieldO fo25_1 ?_ | with_reducible refine AtT.kfield2 fo25_1 ?_ | refine AtT.kfield fo25_1 ?_
      first | refine AtT.kstore1 tk23 ?_ | refine AtT.kstoreA tk23 ?_
      refine AtT.done ?_
      refine At.nrm ?_
      have g2'' := g2'.le hV65
      have g3'' := g3'.le hV65
      refine At.ktext (.q 0 (.q 1 (.q 2 .done))) ?_
      refine AtT.kmove ?_
      refine AtT.kmove ?_
      refine AtT.kneI ?_
      refine AtT.done ?_
      refine At.nrm ?_
      refine At.cutG (ι := (Option Addr × Nat) × (Option Addr × Nat)) (fun _ => [(3, .pointer (some ⟨b3, 0, none⟩)), (7, iv I), (8, iv wider), (9, .pointer (some ⟨b9, 0, none⟩)), (10, .bool true), (11, .pointer (some ⟨b11, 0, none⟩)), (12, .pointer (some ⟨b12, 0, none⟩)), (13, iv k)])
        (fun g => [.blk b3 (LC [.slice a L.pl.length c, .slice a' L.ed.length c'] 25), .blk b9 (LC (rte (bestV L)) 31), .blk b11 (LC [.slice a L.pl.length c, .slice a66 (k + 1) c66] 25), .blk b12 (LC [.slice g.1.1 ((L.pl.take (k + 1)).eraseIdx I).length g.1.2, .slice g.2.1 ((L.pl.take (k + 1)).eraseIdx I).length g.2.2] 25),
          .row (.slice a66 (k + 1) c66) 69 2 (k + 1) (flat rge ((widL L wider).ed.take (k + 1))), .row (.slice g.1.1 ((L.pl.take (k + 1)).eraseIdx I).length g.1.2) 2 1 ((L.pl.take (k + 1)).eraseIdx I).length (flat ei ((L.pl.take (k + 1)).eraseIdx I)), .row (.slice g.2.1 ((L.pl.take (k + 1)).eraseIdx I).length g.2.2) 69 2 ((L.pl.take (k + 1)).eraseIdx I).length (flat rge ((L.ed.take (k + 1)).eraseIdx I))]) (fun _ V'' => Le V65 V'') ?_ ?_
      · refine At.condP rfl (fun hc => ?_) (fun hc => ?_)
        · have hne : k ≠ I := fun e => hc (by rw [e])
          rw [take_snoc' k1, erase_snoc k2 hne, erase_snoc k3 hne, flat_snoc, flat_snoc, flat_snoc, List.length_append]
          refine At.nrm ?_
          refine At.drawC [.blk b3 (LC [.slice a L.pl.length c, .slice a' L.ed.length c'] 25), .blk b12 (LC [.slice ap ((L.pl.take k).eraseIdx I).length cp, .slice aq ((L.pl.take k).eraseIdx I).length cq] 25)] (.q 0 (.q 1 (.q 2 (.q 3 (.q 4 (.q 5 (.q 6 (.q 9 (.q 10 (.q 11 (.q 12 (.q 13 (.q 14 (.q 15 (.two 7 (.two 8 (.q 18 (.n false 16 (.n false 17 (.n true 19 (.q 20 (.n true 21 .done)))))) 16 (.n false 8 (.q 18 (.n false 17 (.n true 19 (.q 20 (.n true 21 .done))))))) 16 (.n false 7 (.n false 8 (.q 18 (.n false 17 (.n true 19 (.q 20 (.n true 21 .done)))))))))))))))))))))) ffm (by kernel_rfl) Pt.auto ?_
          refine AtC.pre (fun hle0 => ?_)
          refine AtC.kq (by (first | refine AtT.kfieldO fo25_0 ?_ | with_reducible refine AtT.kfield2 fo25_0 ?_ | refine AtT.kfield fo25_0 ?_); exact At.knows) ?_
          refine AtC.kq (by (first | refine AtT.kloadO tk22 ?_ | refine AtT.kload tk22 ?_); exact At.knows) ?_
          refine AtC.kq (by (first | refine AtT.kfieldO fo25_0 ?_ | with_reducible refine AtT.kfield2 fo25_0 ?_ | refine AtT.kfield fo25_0 ?_); exact At.knows) ?_
          refine AtC.kq (by (first | refine AtT.kloadO tk22 ?_ | refine AtT.kload tk22 ?_); exact At.knows) ?_
          refine AtC.kq (by (refine AtT.kmove ?_); exact At.knows) ?_
          refine AtC.kidx Try.underlying22 tk2 ?_
          intro p76 e76 he76 hc76
          obtain rfl : e76 = plP L k := plP_some he76
          refine AtC.kq (by (first | refine AtT.kloadO tk2 ?_ | refine AtT.kload tk2 ?_); exact At.knows) ?_
          refine AtC.kq (by (first | refine AtT.kfieldO fo25_1 ?_ | with_reducible refine AtT.kfield2 fo25_1 ?_ | refine AtT.kfield fo25_1 ?_); exact At.knows) ?_
          refine AtC.kq (by (first | refine AtT.kloadO tk23 ?_ | refine AtT.kload tk23 ?_); exact At.knows) ?_
          refine AtC.kq (by (first | refine AtT.kfieldO fo25_1 ?_ | with_reducible refine AtT.kfield2 fo25_1 ?_ | refine AtT.kfield fo25_1 ?_); exact At.knows) ?_
          refine AtC.kq (by (first | refine AtT.kloadO tk23 ?_ | refine AtT.kload tk23 ?_); exact At.knows) ?_
          refine AtC.kq (by (refine AtT.kmove ?_); exact At.knows) ?_
          refine AtC.kidx Try.underlying23 tk69 ?_
          intro p85 e85 he85 hc85
          obtain rfl : e85 = edP L k := edP_some he85
          refine AtC.kq (by (first | refine AtT.kloadOA tk69 ?_ | refine AtT.kloadA tk69 ?_ | refine AtT.kloadOP tk69 ?_); exact At.knows) ?_
          refine AtC.two ?_ ?_
          focus
            refine AtC.nz ?_
            refine AtT.kbsliceG (bs22_1_0 _) ?_
            intro q78 V78 hV78 hq78
            have g78 : Le V V78 := by first | exact hV78 | exact Le.trans (by assumption) hV78
            refine AtC.kgo ?_
            refine AtC.two ?_ ?_
            focus
              refine AtC.nz ?_
              first | refine AtT.kappend Try.underlying22 rw2 ?_
              intro a79 c79
              refine AtC.kgo ?_
              refine AtC.kq (by (first | refine AtT.kfieldO fo25_0 ?_ | with_reducible refine AtT.kfield2 fo25_0 ?_ | refine AtT.kfield fo25_0 ?_); exact At.knows) ?_
              refine AtC.nz ?_
              refine AtT.kbsliceG (bs23_1_0 _ _) ?_
              intro q87 V87 hV87 hq87
              have g87 : Le V V87 := by first | exact hV87 | exact Le.trans (by assumption) hV87
              refine AtC.kgo ?_
              refine AtC.nz ?_
              first | refine AtT.kappend Try.underlying23 rw69 ?_
              intro a88 c88
              refine AtC.kgo ?_
              refine AtC.toT ?_
              first | refine AtT.kstore1 tk22 ?_ | refine AtT.kstoreA tk22 ?_
              first | refine AtT.kfieldO fo25_1 ?_ | with_reducible refine AtT.kfield2 fo25_1 ?_ | refine AtT.kfield fo25_1 ?_
              first | refine AtT.kstore1 tk23 ?_ | refine AtT.kstoreA tk23 ?_
              refine AtT.done ?_
            rotate_right
            focus
              refine AtC.nz ?_
              refine AtT.kbsliceG (bs23_1_0 _ _) ?_
              intro q87 V87 hV87 hq87
              have g87 : Le V V87 := by first | exact hV87 | exact Le.trans (by assumption) hV87
              refine AtC.kgo ?_
              refine AtC.nz ?_
              first | refine AtT.kappend Try.underlying22 rw2 ?_
              intro a79 c79
              refine AtC.kgo ?_
              refine AtC.kq (by (first | refine AtT.kfieldO fo25_0 ?_ | with_reducible refine AtT.kfield2 fo25_0 ?_ | refine AtT.kfield fo25_0 ?_); exact At.knows) ?_
              refine AtC.nz ?_
              first | refine AtT.kappend Try.underlying23 rw69 ?_
              intro a88 c88
              refine AtC.kgo ?_
              refine AtC.toT ?_
              first | refine AtT.kstore1 tk22 ?_ | refine AtT.kstoreA tk22 ?_
              first | refine AtT.kfieldO fo25_1 ?_ | with_reducible refine AtT.kfield2 fo25_1 ?_ | refine AtT.kfield fo25_1 ?_
              first | refine AtT.kstore1 tk23 ?_ | refine AtT.kstoreA tk23 ?_
              refine AtT.done ?_
          rotate_right
          focus
            refine AtC.nz ?_
            refine AtT.kbsliceG (bs23_1_0 _ _) ?_
            intro q87 V87 hV87 hq87
            have g87 : Le V V87 := by first | exact hV87 | exact Le.trans (by assumption) hV87
            refine AtC.kgo ?_
            refine AtC.nz ?_
            refine AtT.kbsliceG (bs22_1_0 _) ?_
            intro q78 V78 hV78 hq78
            have g78 : Le V V78 := by first | exact hV78 | exact Le.trans (by assumption) hV78
            refine AtC.kgo ?_
            refine AtC.nz ?_
            first | refine AtT.kappend Try.underlying22 rw2 ?_
            intro a79 c79
            refine AtC.kgo ?_
            refine AtC.kq (by (first | refine AtT.kfieldO fo25_0 ?_ | with_reducible refine AtT.kfield2 fo25_0 ?_ | refine AtT.kfield fo25_0 ?_); exact At.knows) ?_
            refine AtC.nz ?_
            first | refine AtT.kappend Try.underlying23 rw69 ?_
            intro a88 c88
            refine AtC.kgo ?_
            refine AtC.toT ?_
            first | refine AtT.kstore1 tk22 ?_ | refine AtT.kstoreA tk22 ?_
            first | refine AtT.kfieldO fo25_1 ?_ | with_reducible refine AtT.kfield2 fo25_1 ?_ | refine AtT.kfield fo25_1 ?_
            first | refine AtT.kstore1 tk23 ?_ | refine AtT.kstoreA tk23 ?_
            refine AtT.done ?_
          all_goals (refine At.nrm ?_)
          all_goals (exact At.meetG ((a79, c79), (a88, c88)) (by first | exact Le.refl _ | assumption | exact Le.trans (by assumption) (by assumption)) ⟨rfl, rfl, rfl, rfl, rfl, rfl, rfl, rfl, trivial⟩ Pt.auto)
        · have hne : k = I := by
            have := Decidable.not_not.1 hc; omega
          subst hne
          rw [take_snoc' k1, erase_same k2, erase_same k3, flat_snoc]
          refine At.nrm ?_
          exact At.meetG ((ap, cp), (aq, cq)) (Le.refl _) ⟨rfl, rfl, rfl, rfl, rfl, rfl, rfl, rfl, trivial⟩ Pt.auto
      rintro ⟨⟨a79, c79⟩, ⟨a88, c88⟩⟩ V9 ks' O' hV9 hk hO hl3
      dsimp only at hk hO
      subst hk hO
      refine At.nrm ?_
      refine At.ktext (.q 0 (.q 1 (.q 2 .done))) ?_
      refine AtT.kmove ?_
      first | refine AtT.kadd ?_ | refine AtT.kaddW ?_
      refine AtT.kassign ?_
      refine AtT.done ?_
      refine At.nrm ?_
      refine At.round (k + 1, (a66, c66), (a79, c79), (a88, c88)) ?_ ?_ ?_ ?_
      · show L.pl.length - (k + 1) < L.pl.length - k; omega
      · exact ⟨(hVV.trans hV65).trans hV9, by dsimp only; omega⟩
      · exact ⟨rfl, rfl, rfl, rfl, rfl, rfl, rfl, ivs (by dsimp only; omega), trivial⟩
      dsimp only
      · exact Pt.auto
    · obtain rfl : k = L.pl.length := by omega
      have e1 : L.ed.take L.pl.length = L.ed := by rw [← el, List.take_length]
      rw [show (widL L wider).ed.take L.pl.length = (widL L wider).ed from by rw [← lx, List.take_length], e1, List.take_length]
      have ly : (L.ed.eraseIdx I).length = (L.pl.eraseIdx I).length := by simp [List.length_eraseIdx, el]
      refine At.nrm ?_
      refine At.giveSl rge_len rfl lx.symm Pick.auto (fun V4 hV4 hs4 => ?_)
      refine At.giveSl ei_len rfl rfl Pick.auto (fun V5 hV5 hs5 => ?_)
      refine At.giveSl rge_len rfl ly.symm Pick.auto (fun V6 hV6 hs6 => ?_)
      have hle := ((hVV.trans hV4).trans hV5).trans hV6
      have hvx : LogV V6 (.agg #[.slice a L.pl.length c, .slice ao L.pl.length co]) (widL L wider) := ⟨a, c, ao, co, by rw [lx]; rfl, g2.le hle, by rw [lx]; exact (hs4.le hV5).le hV6⟩
      have hvy : LogV V6 (.agg #[.slice ap (L.pl.eraseIdx I).length cp, .slice aq (L.pl.eraseIdx I).length cq]) (lessL L I) := ⟨ap, cp, aq, cq, by show _ = Value.agg #[_, .slice aq (L.ed.eraseIdx I).length cq]; rw [ly]; rfl, hs5.le hV6, by show Sl V6 rge 2 (.slice aq (L.ed.eraseIdx I).length cq) _; rw [ly]; exact hs6⟩
      have hXo := widL_ok hL h2.1
      have hxe := ok_logE hXo
      have hbw := widL_best hL h2.1
      have hbs := best_sm hL
      have hbx := best_sm hXo
      have bp := hbs.can.pos
      have bd := hbs.d
      have bl := hbs.lo
      have bh := hbs.hi
      have mt := mul_bd (a := wider) (b := (bestV L).den) (A := 255) (B := 200) (by decide) (by decide) (by omega) (by omega) (by omega) (by omega)
      have hq : (rat ((bestV L).num + wider * (bestV L).den) (bestV L).den).q = (bestV L).q + wider := by
        have := cne bp
        rw [rat_q bp]; unfold Rt.q; push_cast; grind
      have hrc : Go.Pl.Can (rat ((bestV L).num + wider * (bestV L).den) (bestV L).den) := rat_can bp
      have hrf : Ft (rat ((bestV L).num + wider * (bestV L).den) (bestV L).den) := by
        have r := rat_bd ((bestV L).num + wider * (bestV L).den) (bestV L).den bp
        exact ⟨hrc, by omega, by have := hrc.pos; omega, by have := hrc.pos; omega⟩
      refine At.ktext (.q 0 (.n false 1 (.q 2 (.q 3 (.q 4 (.n false 5 (.n true 6 (.q 7 .done)))))))) ?_
      first | refine AtT.kloadOA tk25 ?_ | refine AtT.kloadA tk25 ?_ | refine AtT.kloadOP tk25 ?_
      refine AtT.kcallP rfl rfl ok42 (best42_f (widL L wider) _ _ hvx hxe) ?_
      rintro _ rfl
      refine AtT.kmove ?_
      refine AtT.kextract ?_
      refine AtT.kextract ?_
      refine AtT.kalloc z31 ?_
      intro b14
      refine AtT.kstoreA tk31 ?_
      refine AtT.kassign ?_
      refine AtT.done ?_
      refine At.nrm ?_
      apply At.draw0 (.q 0 (.q 1 (.q 2 (.q 3 (.q 4 (.q 5 (.q 6 (.q 7 (.q 8 (.n false 9 (.q 10 (.q 11 (.q 12 (.q 13 (.q 14 (.q 15 (.q 16 (.q 17 (.q 18 (.q 19 (.q 20 (.q 22 (.n false 21 (.n false 23 (.q 24 .done))))))))))))))))))))))))) ffm (by kernel_rfl)
      · refine AtT.kmove ?_
        refine AtT.knot ?_
        refine AtT.kmove ?_
        all_goals (first | refine AtT.kL 98 ?_ | refine AtT.pcase (d := 98) rfl (fun hg98 => ?_) (fun hg98 => ?_) | refine AtT.bcase (d := 98) rfl (fun hg98 => ?_) (fun hg98 => ?_))
        all_goals (first | refine AtT.kpass ?_ | refine AtT.kpassU ?_ | ((refine AtT.kmove ?_)))
        all_goals (first | refine AtT.kpass ?_ | refine AtT.kpassU ?_ | ((refine AtT.knot ?_)))
        all_goals (refine AtT.kpick ?_)
        all_goals (refine AtT.kmove ?_)
        all_goals (first | refine AtT.kL 102 ?_ | refine AtT.pcase (d := 102) rfl (fun hg102 => ?_) (fun hg102 => ?_) | refine AtT.bcase (d := 102) rfl (fun hg102 => ?_) (fun hg102 => ?_))
        all_goals (first | refine AtT.kpass ?_ | refine AtT.kpassU ?_ | ((first | refine AtT.kloadOA tk31 ?_ | refine AtT.kloadA tk31 ?_ | refine AtT.kloadOP tk31 ?_)))
        all_goals (first | refine AtT.kpass ?_ | refine AtT.kpassU ?_ | ((first | refine AtT.kloadOA tk31 ?_ | refine AtT.kloadA tk31 ?_ | refine AtT.kloadOP tk31 ?_)))
        all_goals (first | refine AtT.kpassN ?_ | refine AtT.kpassNU ?_ | ((refine AtT.kcallP rfl rfl ok45 (rless_f (bestV (widL L wider)) (bestV L) _ (sm_fit hbx hbs) (sm_fit hbs hbx)) ?_) ; (rintro _ rfl)))
        all_goals (refine AtT.setB (d := 105) rfl (less_not hbx.can hbs.can hbw.1) ?_)
        all_goals (refine AtT.kpick ?_)
        all_goals (refine AtT.kmove ?_)
        all_goals (first | refine AtT.kL 107 ?_ | refine AtT.pcase (d := 107) rfl (fun hg107 => ?_) (fun hg107 => ?_) | refine AtT.bcase (d := 107) rfl (fun hg107 => ?_) (fun hg107 => ?_))
        all_goals (first | refine AtT.kpass ?_ | refine AtT.kpassU ?_ | ((first | refine AtT.kfieldO fo31_0 ?_ | with_reducible refine AtT.kfield2 fo31_0 ?_ | refine AtT.kfield fo31_0 ?_)))
        all_goals (first | refine AtT.kpass ?_ | refine AtT.kpassU ?_ | ((first | refine AtT.kloadO tk2 ?_ | refine AtT.kload tk2 ?_)))
        all_goals (first | refine AtT.kpass ?_ | refine AtT.kpassU ?_ | ((refine AtT.kmove ?_)))
        all_goals (first | refine AtT.kpass ?_ | refine AtT.kpassU ?_ | ((first | refine AtT.kfieldO fo31_1 ?_ | with_reducible refine AtT.kfield2 fo31_1 ?_ | refine AtT.kfield fo31_1 ?_)))
        all_goals (first | refine AtT.kpass ?_ | refine AtT.kpassU ?_ | ((first | refine AtT.kloadO tk2 ?_ | refine AtT.kload tk2 ?_)))
        all_goals (first | refine AtT.kpass ?_ | refine AtT.kpassU ?_ | ((first | refine AtT.kmul ?_ | refine AtT.kmulW ?_)))
        all_goals (first | refine AtT.kpass ?_ | refine AtT.kpassU ?_ | ((first | refine AtT.kadd ?_ | refine AtT.kaddW ?_)))
        all_goals (first | refine AtT.kpass ?_ | refine AtT.kpassU ?_ | ((first | refine AtT.kfieldO fo31_1 ?_ | with_reducible refine AtT.kfield2 fo31_1 ?_ | refine AtT.kfield fo31_1 ?_)))
        all_goals (first | refine AtT.kpass ?_ | refine AtT.kpassU ?_ | ((first | refine AtT.kloadO tk2 ?_ | refine AtT.kload tk2 ?_)))
        all_goals (first | refine AtT.kpass ?_ | refine AtT.kpassU ?_ | ((first | refine AtT.kloadOA tk31 ?_ | refine AtT.kloadA tk31 ?_ | refine AtT.kloadOP tk31 ?_)))
        all_goals (first | refine AtT.kpassN ?_ | refine AtT.kpassNU ?_ | ((refine AtT.kcallP rfl rfl ok51 (by_r ((bestV L).num + wider * (bestV L).den) (bestV L).den _ (by omega) (by omega) bp (by omega)) ?_) ; (rintro _ rfl)))
        all_goals (first | refine AtT.kpassN ?_ | refine AtT.kpassNU ?_ | ((refine AtT.kcallP rfl rfl ok45 (rless_f (rat ((bestV L).num + wider * (bestV L).den) (bestV L).den) (bestV (widL L wider)) _ (ft_fit hrf hbx.ft) (ft_fit hbx.ft hrf)) ?_) ; (rintro _ rfl)))
        all_goals (refine AtT.setB (d := 119) rfl (less_not hrc hbx.can (by rw [hq]; exact hbw.2)) ?_)
        all_goals (refine AtT.kpick ?_)
        exact AtT.done (fun a w hk hm => ⟨hk, hm⟩)
      refine At.nrm ?_
      refine At.condF rfl rfl ?_
      refine At.nrm ?_
      refine At.ktext (.q 0 (.n false 1 (.q 2 .done))) ?_
      first | refine AtT.kloadOA tk25 ?_ | refine AtT.kloadA tk25 ?_ | refine AtT.kloadOP tk25 ?_
      refine AtT.kcallP rfl rfl ok41 (fine_f (lessL L I) _ _ hvy) ?_
      rintro _ rfl
      refine AtT.knot ?_
      refine AtT.done ?_
      refine At.nrm ?_
      by_cases hy : logE (lessL L I) = 0
      rotate_left
      · refine At.condT rfl (by rw [decide_eq_false hy]; rfl) ?_
        refine At.nrm ?_
        refine At.ktext (.n false 0 (.q 1 .done)) ?_
        refine AtT.kcallP rfl rfl ok19 (works_f _) ?_
        rintro _ rfl
        refine AtT.kassign ?_
        refine AtT.done ?_
        refine At.nrm ?_
        exact At.ret1 rfl (.tmp rfl) rfl
      refine At.condF rfl (by rw [decide_eq_true hy]; rfl) ?_
      have hYo := logE_ok hy
      have hby := best_sm hYo
      have hbm := lessL_best hL hIn hYo
      refine At.nrm ?_
      refine At.ktext (.q 0 (.n false 1 (.q 2 (.q 3 (.q 4 (.n true 5 (.q 6 .done))))))) ?_
      first | refine AtT.kloadOA tk25 ?_ | refine AtT.kloadA tk25 ?_ | refine AtT.kloadOP tk25 ?_
      refine AtT.kcallP rfl rfl ok42 (best42_f (lessL L I) _ _ hvy hy) ?_
      rintro _ rfl
      refine AtT.kmove ?_
      refine AtT.kextract ?_
      refine AtT.kextract ?_
      refine AtT.kstoreA tk31 ?_
      refine AtT.kassign ?_
      refine AtT.done ?_
      refine At.nrm ?_
      refine At.ktext (.q 0 (.q 1 (.q 2 (.q 3 (.n false 4 (.q 5 (.q 6 (.q 7 (.n false 8 (.q 9 (.q 10 .done))))))))))) ?_
      refine AtT.kmove ?_
      refine AtT.kmove ?_
      all_goals (first | refine AtT.kL 131 ?_ | refine AtT.pcase (d := 131) rfl (fun hg131 => ?_) (fun hg131 => ?_) | refine AtT.bcase (d := 131) rfl (fun hg131 => ?_) (fun hg131 => ?_))
      all_goals (first | refine AtT.kpass ?_ | refine AtT.kpassU ?_ | ((first | refine AtT.kloadOA tk31 ?_ | refine AtT.kloadA tk31 ?_ | refine AtT.kloadOP tk31 ?_)))
      all_goals (first | refine AtT.kpass ?_ | refine AtT.kpassU ?_ | ((first | refine AtT.kloadOA tk31 ?_ | refine AtT.kloadA tk31 ?_ | refine AtT.kloadOP tk31 ?_)))
      all_goals (first | refine AtT.kpassN ?_ | refine AtT.kpassNU ?_ | ((refine AtT.kcallP rfl rfl ok45 (rless_f (bestV (lessL L I)) (bestV L) _ (sm_fit hby hbs) (sm_fit hbs hby)) ?_) ; (rintro _ rfl)))
      all_goals (refine AtT.setB (d := 134) rfl (less_not hby.can hbs.can hbm) ?_)
      all_goals (first | refine AtT.kpass ?_ | refine AtT.kpassU ?_ | ((refine AtT.knot ?_)))
      all_goals (refine AtT.kpick ?_)
      all_goals (refine AtT.kmove ?_)
      all_goals (first | refine AtT.kL 137 ?_ | refine AtT.pcase (d := 137) rfl (fun hg137 => ?_) (fun hg137 => ?_) | refine AtT.bcase (d := 137) rfl (fun hg137 => ?_) (fun hg137 => ?_))
      all_goals (first | refine AtT.kpassN ?_ | refine AtT.kpassNU ?_ | ((refine AtT.kcallP rfl rfl ok19 (works_f _) ?_) ; (rintro _ rfl)))
      all_goals (refine AtT.kpick ?_)
      all_goals (refine AtT.kassign ?_)
      all_goals refine AtT.done ?_
      all_goals (refine At.nrm ?_)
      exact At.ret1 rfl (.tmp rfl) rfl
end Go.Proofs.Ytnionkopmncopaa
set_option linter.unusedVariables false
namespace Go.Lw
open Go.RowKit

/-- A set of numbers as a number. -/
def bitsOf : List Nat → Nat
  | [] => 0
  | i :: l => bitsOf l ||| 2 ^ i
theorem bits_test : ∀ (l : List Nat) (j : Nat), (bitsOf l).testBit j = l.contains j
  | [], j => by simp [bitsOf]
  | i :: l, j => by
    simp only [bitsOf, Nat.testBit_or, bits_test l j, Nat.testBit_two_pow, List.contains_cons]
    rw [Bool.or_comm]
    congr 1
    by_cases h : i = j
    · subst h; simp
    · have h' : ¬ j = i := fun e => h e.symm
      simp [h, h']
theorem bits_sub (l : List Nat) (m : Nat) : (bitsOf l &&& m == bitsOf l) = true ↔ ∀ i ∈ l, m.testBit i = true := by
  rw [beq_iff_eq]
  constructor
  · intro h i hi
    have := congrArg (·.testBit i) h
    simp only [Nat.testBit_and, bits_test] at this
    have hc : l.contains i = true := by simpa using hi
    rw [hc] at this
    simpa using this
  · intro h
    apply Nat.eq_of_testBit_eq
    intro i
    rw [Nat.testBit_and, bits_test]
    cases hc : l.contains i with
    | false => rfl
    | true => rw [h i (by simpa using hc)]; rfl
theorem bits_apart (l k : List Nat) (h : (bitsOf l &&& bitsOf k == 0) = true) : ∀ i ∈ k, i ∉ l := by
  rw [beq_iff_eq] at h
  intro i hk hl
  have := congrArg (·.testBit i) h
  simp only [Nat.testBit_and, bits_test, Nat.zero_testBit] at this
  have h1 : l.contains i = true := by simpa using hl
  have h2 : k.contains i = true := by simpa using hk
  rw [h1, h2] at this
  cases this

abbrev Row3 := Nat × Nat × Nat
def onsOf (o : Oper) : List Nat := (o.after.toList.filter (Region.binds .any)).map (·.on)
def rowOf (ops : Array Oper) (o : Oper) : Row3 := (bitsOf (onsOf o), bitsOf (o.looksAt ops), bitsOf o.dst.toList)
def rowsOf (ops : Array Oper) : List Row3 := ops.toList.map (rowOf ops)

structure Rl (ops : Array Oper) (m : Nat) (listed : Array Bool) : Prop where
  size : listed.size = ops.size
  bit : ∀ j, listed.getD j false = m.testBit j

def rdL (m : Nat) : List Row3 → Nat → List Nat
  | [], _ => []
  | r :: l, k => bif !m.testBit k && (r.1 &&& m == r.1) then k :: rdL m l (k + 1) else rdL m l (k + 1)
def rdB (m : Nat) (l : List Row3) (k i : Nat) : Bool := !m.testBit i && (match l[i - k]? with | some r => r.1 &&& m == r.1 | none => false)
theorem rdL_eq (m : Nat) : ∀ (l : List Row3) (k : Nat), rdL m l k = (List.range' k l.length).filter (rdB m l k)
  | [], k => rfl
  | r :: l, k => by
    have ih := rdL_eq m l (k + 1)
    have e : (List.range' (k + 1) l.length).filter (rdB m (r :: l) k) = (List.range' (k + 1) l.length).filter (rdB m l (k + 1)) := by
      apply List.filter_congr
      intro i hi
      have : k + 1 ≤ i := by have := List.mem_range'_1.1 hi; omega
      simp only [rdB]
      congr 1
      have e2 : i - k = (i - (k + 1)) + 1 := by omega
      rw [e2, List.getElem?_cons_succ]
    simp only [List.length_cons, List.range'_succ, List.filter_cons, rdL, e, ← ih]
    have e0 : rdB m (r :: l) k k = (!m.testBit k && (r.1 &&& m == r.1)) := by simp [rdB]
    rw [e0]
    cases (!m.testBit k && (r.1 &&& m == r.1)) <;> rfl

section
variable {ops : Array Oper} {m : Nat} {listed : Array Bool}
theorem Rl.t (h : Rl ops m listed) {j : Nat} (hj : j < ops.size) : listed.getD j true = m.testBit j := by
  have := h.bit j
  have hj' : j < listed.size := by rw [h.size]; exact hj
  simp [hj'] at this ⊢
  exact this
theorem rows_at (j : Nat) : (rowsOf ops)[j]? = ops[j]?.map (rowOf ops) := by simp [rowsOf]
theorem ready_fast (h : Rl ops m listed) : rdL m (rowsOf ops) 0 = Region.ready .any ops listed := by
  rw [rdL_eq]
  have hlen : (rowsOf ops).length = ops.size := by simp [rowsOf]
  rw [hlen, ← List.range_eq_range']
  unfold Region.ready
  apply List.filter_congr
  intro j hj
  have hj' : j < ops.size := by simpa using hj
  simp only [rdB, Nat.sub_zero, rows_at]
  rw [h.t hj', Array.getElem?_eq_getElem hj']
  congr 1
  simp only [Option.map_some, Option.getD_some, rowOf]
  rw [Bool.eq_iff_iff, bits_sub, Array.all_eq_true_iff_forall_mem]
  constructor
  · intro hh e he
    cases hb : Region.binds .any e with
    | false => rfl
    | true =>
      have := hh e.on (by
        simp only [onsOf, List.mem_map, List.mem_filter]
        exact ⟨e, ⟨by simpa using he, hb⟩, rfl⟩)
      simp only [Bool.not_true, Bool.false_or]
      rw [h.bit]; exact this
  · intro hh i hi
    simp only [onsOf, List.mem_map, List.mem_filter] at hi
    obtain ⟨e, ⟨he, hb⟩, rfl⟩ := hi
    have := hh e (by simpa using he)
    rw [hb] at this
    simp only [Bool.not_true, Bool.false_or] at this
    rw [← h.bit]; exact this

def freeL (m i : Nat) (ri : Row3) : List Row3 → Nat → Bool
  | [], _ => true
  | r :: l, j => (j == i || m.testBit j || r.1.testBit i || (r.2.1 &&& ri.2.2 == 0 && r.2.2 &&& ri.2.2 == 0 && ri.2.1 &&& r.2.2 == 0)) && freeL m i ri l (j + 1)
theorem freeL_at (m i : Nat) (ri : Row3) : ∀ (l : List Row3) (k : Nat), freeL m i ri l k = true → ∀ j r, l[j]? = some r → ((k + j) == i || m.testBit (k + j) || r.1.testBit i || (r.2.1 &&& ri.2.2 == 0 && r.2.2 &&& ri.2.2 == 0 && ri.2.1 &&& r.2.2 == 0)) = true
  | [], k, _, j, r, h => by simp at h
  | s :: l, k, hf, j, r, h => by
    simp only [freeL, Bool.and_eq_true] at hf
    cases j with
    | zero => simp at h; subst h; simpa using hf.1
    | succ j =>
      simp only [List.getElem?_cons_succ] at h
      have := freeL_at m i ri l (k + 1) hf.2 j r h
      have e : k + 1 + j = k + (j + 1) := by omega
      rwa [e] at this
def freeF (rows : List Row3) (m i : Nat) : Bool := match rows[i]? with | none => false | some ri => freeL m i ri rows 0
theorem free_fast (h : Rl ops m listed) {i : Nat} (hf : freeF (rowsOf ops) m i = true) : Region.free .any ops listed i = true := by
  unfold freeF at hf
  rw [rows_at] at hf
  unfold Region.free
  cases ho : ops[i]? with
  | none => rw [ho] at hf; cases hf
  | some oi =>
    rw [ho] at hf
    simp only [Option.map_some] at hf
    simp only [List.all_eq_true, List.mem_range]
    intro j hj
    have hoj : ops[j]? = some ops[j] := Array.getElem?_eq_getElem hj
    have hr : (rowsOf ops)[j]? = some (rowOf ops ops[j]) := by rw [rows_at, hoj]; rfl
    have key := freeL_at m i _ _ 0 hf j _ hr
    simp only [Nat.zero_add] at key
    rw [h.t hj, hoj]
    simp only [Bool.or_eq_true] at key ⊢
    rcases key with ((k1 | k1) | k1) | k1
    · exact .inl (.inl k1)
    · exact .inl (.inr k1)
    · refine .inr (.inl ?_)
      simp only [rowOf, bits_test] at k1
      have hm : i ∈ onsOf ops[j] := by simpa using k1
      simp only [onsOf, List.mem_map, List.mem_filter] at hm
      obtain ⟨e, ⟨he, hb⟩, rfl⟩ := hm
      exact Array.any_eq_true'.2 ⟨e, by simpa using he, by simp [hb]⟩
    · refine .inr (.inr ?_)
      simp only [Bool.and_eq_true] at k1
      obtain ⟨⟨k1, k2⟩, k3⟩ := k1
      have a1 := bits_apart _ _ k1
      have a2 := bits_apart _ _ k2
      have a3 := bits_apart _ _ k3
      unfold Oper.apart
      simp only [Bool.and_eq_true]
      constructor
      · cases hd : oi.dst with
        | none => rfl
        | some d =>
          have n1 := a1 d (by simp [hd])
          have n2 := a2 d (by simp [hd])
          simp only [Bool.and_eq_true, Bool.not_eq_true', bne_iff_ne, ne_eq]
          refine ⟨by simpa using n1, fun e => n2 (by simp [e])⟩
      · cases hd : ops[j].dst with
        | none => rfl
        | some d =>
          have n3 := a3 d (by simp [hd])
          simpa using n3

/-- What each waits for, straight or through others. -/
def waitW : List Row3 → List Nat → List Nat
  | [], acc => acc
  | r :: l, acc => waitW l (acc ++ [(List.range acc.length).foldl (fun s k => bif r.1.testBit k then s ||| acc.getD k 0 else s) r.1])
def WOk (ops : Array Oper) (acc : List Nat) : Prop := ∀ j i, (acc.getD j 0).testBit i = true → Waits ops j i
theorem fold_bits (f : Nat → Bool) (g : Nat → Nat) (i : Nat) : ∀ (l : List Nat) (s : Nat), (l.foldl (fun s k => bif f k then s ||| g k else s) s).testBit i = true → s.testBit i = true ∨ ∃ k ∈ l, f k = true ∧ (g k).testBit i = true
  | [], s, h => .inl h
  | k :: l, s, h => by
    simp only [List.foldl_cons] at h
    rcases fold_bits f g i l _ h with h1 | ⟨k', h1, h2, h3⟩
    · cases hf : f k with
      | false => rw [hf] at h1; exact .inl h1
      | true =>
        rw [hf] at h1
        simp only [cond_true, Nat.testBit_or, Bool.or_eq_true] at h1
        rcases h1 with h1 | h1
        · exact .inl h1
        · exact .inr ⟨k, by simp, hf, h1⟩
    · exact .inr ⟨k', List.mem_cons_of_mem _ h1, h2, h3⟩
theorem waitW_ok : ∀ (l : List Row3) (acc : List Nat), l = (rowsOf ops).drop acc.length → WOk ops acc → WOk ops (waitW l acc)
  | [], acc, _, h => h
  | r :: l, acc, hl, h => by
    have hr : (rowsOf ops)[acc.length]? = some r := by
      have := congrArg (·[0]?) hl
      simpa using this.symm
    rw [rows_at] at hr
    obtain ⟨o, ho, rfl⟩ := Option.map_eq_some_iff.1 hr
    have one : ∀ k, (rowOf ops o).1.testBit k = true → Waits ops acc.length k := fun k hk => by
      simp only [rowOf, bits_test] at hk
      have hm : k ∈ onsOf o := by simpa using hk
      simp only [onsOf, List.mem_map, List.mem_filter] at hm
      obtain ⟨e, ⟨he, hb⟩, rfl⟩ := hm
      exact .one ho (by simpa using he) hb rfl
    refine waitW_ok l _ ?_ ?_
    · rw [List.length_append, List.length_singleton]
      have := congrArg (·.drop 1) hl
      simpa [List.drop_drop] using this
    · intro j i hj
      by_cases c : j < acc.length
      · have e : (acc ++ [(List.range acc.length).foldl (fun s k => bif (rowOf ops o).1.testBit k then s ||| acc.getD k 0 else s) (rowOf ops o).1]).getD j 0 = acc.getD j 0 := by
          simp [List.getD, List.getElem?_append_left c]
        rw [e] at hj
        exact h j i hj
      · by_cases c2 : j = acc.length
        · subst c2
          have e : (acc ++ [(List.range acc.length).foldl (fun s k => bif (rowOf ops o).1.testBit k then s ||| acc.getD k 0 else s) (rowOf ops o).1]).getD acc.length 0 = (List.range acc.length).foldl (fun s k => bif (rowOf ops o).1.testBit k then s ||| acc.getD k 0 else s) (rowOf ops o).1 := by
            simp [List.getD]
          rw [e] at hj
          rcases fold_bits _ _ i _ _ hj with h1 | ⟨k, _, h2, h3⟩
          · exact one i h1
          · have hw := h k i h3
            simp only [rowOf, bits_test] at h2
            have hm : k ∈ onsOf o := by simpa using h2
            simp only [onsOf, List.mem_map, List.mem_filter] at hm
            obtain ⟨e', ⟨he, hb⟩, rfl⟩ := hm
            exact .more ho (by simpa using he) hb hw
        · have e : (acc ++ [(List.range acc.length).foldl (fun s k => bif (rowOf ops o).1.testBit k then s ||| acc.getD k 0 else s) (rowOf ops o).1]).getD j 0 = 0 := by
            simp only [List.getD]
            rw [List.getElem?_eq_none (by simp; omega)]
            rfl
          rw [e] at hj
          simp at hj

def Tr.chkF (rows : List Row3) (M W : List Nat) : Tr → Nat → Bool
  | .done, m => (rdL m rows 0).isEmpty
  | .q i t, m => freeF rows m i && (rdL m rows 0).contains i && !M.contains i && M.all (fun j => m.testBit j || (W.getD j 0).testBit i) && t.chkF rows M W (m ||| 2 ^ i)
  | .n wr i t, m => (rdL m rows 0 == [i]) && (M.contains i == wr) && t.chkF rows M W (m ||| 2 ^ i)
  | .two i t j u, m => (rdL m rows 0 == [i, j]) && !M.contains i && !M.contains j && t.chkF rows M W (m ||| 2 ^ i) && u.chkF rows M W (m ||| 2 ^ j)
  | .br is f, m => !is.isEmpty && (rdL m rows 0 == is) && is.all fun i => !M.contains i && (f i).chkF rows M W (m ||| 2 ^ i)

theorem Rl.set (h : Rl ops m listed) {i : Nat} (hi : i ∈ Region.ready .any ops listed) : Rl ops (m ||| 2 ^ i) (listed.setIfInBounds i true) := by
  obtain ⟨_, o, ho, _⟩ := mem_ready.1 hi
  have hlt : i < listed.size := by rw [h.size]; exact (Array.getElem?_eq_some_iff.1 ho).1
  refine ⟨by simp [h.size], fun j => ?_⟩
  rw [Nat.testBit_or, Nat.testBit_two_pow, ← h.bit j]
  by_cases c : i = j
  · subst c
    simp [Array.getElem?_setIfInBounds_self_of_lt hlt]
  · rw [getD_set_ne false c]
    simp [c]
theorem chkF_sound {M W : List Nat} : ∀ (t : Tr) (m : Nat) (listed : Array Bool), Rl ops m listed → t.chkF (rowsOf ops) M W m = true → t.chk ops M (fun j i => (W.getD j 0).testBit i) listed = true := by
  intro t
  induction t with
  | done =>
    intro m listed h hc
    simp only [Tr.chkF, ready_fast h] at hc
    exact hc
  | q i t ih =>
    intro m listed h hc
    simp only [Tr.chkF, ready_fast h, Bool.and_eq_true] at hc
    obtain ⟨⟨⟨⟨c1, c2⟩, c3⟩, c4⟩, c5⟩ := hc
    have hi : i ∈ Region.ready .any ops listed := by simpa using c2
    simp only [Tr.chk, Bool.and_eq_true]
    refine ⟨⟨⟨⟨free_fast h c1, c2⟩, c3⟩, ?_⟩, ih _ _ (h.set hi) c5⟩
    rw [List.all_eq_true] at c4 ⊢
    intro j hj
    have := c4 j hj
    simp only [Bool.or_eq_true] at this ⊢
    rcases this with k | k
    · left
      by_cases hjs : j < ops.size
      · rw [h.t hjs]; exact k
      · simp [h.size, hjs]
    · exact .inr k
  | n wr i t ih =>
    intro m listed h hc
    simp only [Tr.chkF, ready_fast h, Bool.and_eq_true] at hc
    obtain ⟨⟨c1, c2⟩, c3⟩ := hc
    have hi : i ∈ Region.ready .any ops listed := by rw [beq_iff_eq] at c1; rw [c1]; simp
    simp only [Tr.chk, Bool.and_eq_true]
    exact ⟨⟨c1, c2⟩, ih _ _ (h.set hi) c3⟩
  | two i t j u iht ihu =>
    intro m listed h hc
    simp only [Tr.chkF, ready_fast h, Bool.and_eq_true] at hc
    obtain ⟨⟨⟨⟨c1, c2⟩, c3⟩, c4⟩, c5⟩ := hc
    have hi : i ∈ Region.ready .any ops listed := by rw [beq_iff_eq] at c1; rw [c1]; simp
    have hj : j ∈ Region.ready .any ops listed := by rw [beq_iff_eq] at c1; rw [c1]; simp
    simp only [Tr.chk, Bool.and_eq_true]
    exact ⟨⟨⟨⟨c1, c2⟩, c3⟩, iht _ _ (h.set hi) c4⟩, ihu _ _ (h.set hj) c5⟩
  | br is f ih =>
    intro m listed h hc
    simp only [Tr.chkF, ready_fast h, Bool.and_eq_true] at hc
    obtain ⟨⟨c1, c2⟩, c3⟩ := hc
    simp only [Tr.chk, Bool.and_eq_true]
    refine ⟨⟨c1, c2⟩, ?_⟩
    rw [List.all_eq_true] at c3 ⊢
    intro i hi
    have hi' : i ∈ Region.ready .any ops listed := by rw [beq_iff_eq] at c2; rw [c2]; exact hi
    have := c3 i hi
    simp only [Bool.and_eq_true] at this ⊢
    exact ⟨this.1, ih i _ _ (h.set hi') this.2⟩

def Tr.okF (rows : List Row3) (n : Nat) (t : Tr) : Bool := decide (t.len ≤ n) && t.chkF rows t.muts (waitW rows []) 0
theorem wp_region_fast {P : Program} {id : Nat} {Q : Exit → Act → World → Prop} {a : Act} {w : World} {ro : Option Nat} (rows : List Row3) (t : Tr) (hm : P.follows .mixedOrders = true)
    (hr : rowsOf ops = rows) (hn : Ndr ops = true) (hc : t.okF rows ops.size = true) (S : World → Prop) (hS : S w.drew) (h : wpT P ops (Q .normal) t S a w.drew) : (Code.region id ops true).wpIn (FW ro) 0 P Q a w := by
  subst hr
  simp only [Tr.okF, Bool.and_eq_true, decide_eq_true_eq] at hc
  refine wpIn_region_any hm ?_
  have hW : WOk ops (waitW (rowsOf ops) []) := waitW_ok _ _ rfl (fun j i h => by simp at h)
  have h0 : Rl ops 0 (Array.replicate ops.size false) := ⟨by simp, fun j => by simp [Array.getElem?_replicate]; split <;> rfl⟩
  refine anyW_sound hn _ _ _ _ (anyM_any _ _ _ _ (wpT_sound (wt := fun j i => ((waitW (rowsOf ops) []).getD j 0).testBit i) hn (fun j i h => hW j i h) t _ _ S a _ hc.1 ?_ (chkF_sound t 0 _ h0 hc.2) hS h))
  intro j o hj
  simp [Array.getElem?_replicate] at hj
  split at hj <;> simp at hj
end

section
variable {cx : Cx} {n : Nat} {ks : List (Nat × Value)} {O : List Own} {V : View} {P : Program} {ops : Array Oper} {Q : Exit → Act → World → Prop} {ro : Option Nat} {id : Nat}
theorem At.drawF (rows : List Row3) (t : Tr) (hm : P.follows .mixedOrders = true) (hr : rowsOf ops = rows) (hn : Ndr ops = true) (hc : t.okF rows ops.size = true) (h : AtT cx n ks O V P ops (Q .normal) t) :
    At cx n ks O V ((Code.region id ops true).wpIn (FW ro) 0 P Q) := fun a w hk hw =>
  have hd : Mem cx O V w.drew := hw.ext (Below.refl _ w).drew
  wp_region_fast rows t hm hr hn hc (Mem cx O V) hd (h a w.drew hk hd)
end
end Go.Lw
set_option linter.unusedVariables false
namespace Go.Proofs.Ytnionkopmncopaa
open Go.Lw Go.Pl Go.RowKit

theorem kn1 : coreR LA ⟨1, 3, 0⟩ = (⟨2, 1⟩, 0) := by decide +kernel
theorem kn2 : coreR LA ⟨1, 0, 1⟩ = (⟨0, 1⟩, 0) := by decide +kernel
theorem kn3 : checkR LA ⟨0, 1, 2, 1⟩ = (⟨4, 1⟩, 0) := by decide +kernel
theorem kn4 : checkR LA ⟨1, 1, 1, 0⟩ = (⟨7, 2⟩, 0) := by decide +kernel
theorem kn5 : checkR LB ⟨0, 0, 0, 0⟩ = (⟨2, 1⟩, 0) := by decide +kernel
theorem kn6 : hghR LA 2 0 = (⟨2, 1⟩, ⟨4, 1⟩, 0) := by decide +kernel
theorem kn7 : hghR LB 2 1 = (⟨4, 1⟩, ⟨8, 1⟩, 0) := by decide +kernel
theorem kn8 : turnsR LA 0 2 = (1, 0) := by decide +kernel
theorem kn9 : lineE ⟨1, 0, 0⟩ = 0 := by decide +kernel
theorem kn10 : roughE RA = 0 := by decide +kernel

set_option maxRecDepth 20000 in
theorem known_f (V : View) : Fnc Try.prog 17 [] V fun r _ => r = .bool true := by
  refine fn_of Try.func17 rfl Try.ntmps17 (Nat.le_of_ble_eq_true rfl) ?_
  intro w0 hw0
  refine At.nrm ?_
  refine At.ktext (.q 0 .done) ?_
  refine AtT.kassign ?_
  refine AtT.done ?_
  refine At.nrm ?_
  refine At.ktext (.n false 0 (.n false 1 (.n false 2 (.n false 3 (.n true 4 (.n true 5 .done)))))) ?_
  refine AtT.kcall rfl rfl ok55 (three_f _) ?_
  rintro _ V1 hV1 ⟨aA, cA, aA', cA', rfl, hA2, hA3⟩
  refine AtT.kcall rfl rfl ok56 (two_f _) ?_
  rintro _ V2 hV2 ⟨aB, cB, aB', cB', rfl, hB2, hB3⟩
  refine AtT.kalloc z25 ?_
  intro b1
  refine AtT.kalloc z25 ?_
  intro b2
  refine AtT.kstoreA tk25 ?_
  refine AtT.kstoreA tk25 ?_
  refine AtT.done ?_
  refine At.nrm ?_
  have hA : LogV V2 (.agg #[.slice aA LA.pl.length cA, .slice aA' LA.ed.length cA']) LA := ⟨_, _, _, _, rfl, hA2.le hV2, hA3.le hV2⟩
  have hB : LogV V2 (.agg #[.slice aB LB.pl.length cB, .slice aB' LB.ed.length cB']) LB := ⟨_, _, _, _, rfl, hB2, hB3⟩
  apply At.draw1 (.q 0 (.two 1 (.two 2 (.q 3 (.q 4 (.q 5 (.n false 6 (.n false 7 (.q 8 .done)))))) 6 (.n false 2 (.q 3 (.q 4 (.q 5 (.n false 7 (.q 8 .done))))))) 6 (.n false 1 (.n false 2 (.q 3 (.q 4 (.q 5 (.n false 7 (.q 8 .done))))))))) ffm (by kernel_rfl)
  · refine AtC.start ?_
    refine AtC.pre (fun hle0 => ?_)
    refine AtC.kq (by (first | refine AtT.kloadOA tk25 ?_ | refine AtT.kloadA tk25 ?_ | refine AtT.kloadOP tk25 ?_); exact At.knows) ?_
    refine AtC.two ?_ ?_
    focus
      refine AtC.nz ?_
      refine AtT.kcallP rfl rfl ok47 (line47_f _ _ _ _) ?_
      rintro _ rfl
      refine AtC.kgo ?_
      refine AtC.two ?_ ?_
      focus
        refine AtC.nz ?_
        refine AtT.kcallP rfl rfl ok20 (core_val (x := ⟨1, 3, 0⟩) hA kn1) ?_
        rintro _ rfl
        refine AtC.kgo ?_
        refine AtC.kq (by (refine AtT.kmove ?_); exact At.knows) ?_
        refine AtC.kq (by (refine AtT.kextract ?_); exact At.knows) ?_
        refine AtC.kq (by (refine AtT.kextract ?_); exact At.knows) ?_
        refine AtC.nz ?_
        refine AtT.kalloc z31 ?_
        intro b3
        refine AtC.kgo ?_
        refine AtC.nz ?_
        refine AtT.kstoreA tk31 ?_
        refine AtC.kgo ?_
        refine AtC.kq (by (refine AtT.kassign ?_); exact At.knows) ?_
        exact AtC.done (fun a w hk hm => ⟨b3, hk, hm⟩)
      focus
        refine AtC.nz ?_
        refine AtT.kalloc z31 ?_
        intro b3
        refine AtC.kgo ?_
        refine AtC.nz ?_
        refine AtT.kcallP rfl rfl ok20 (core_val (x := ⟨1, 3, 0⟩) hA kn1) ?_
        rintro _ rfl
        refine AtC.kgo ?_
        refine AtC.kq (by (refine AtT.kmove ?_); exact At.knows) ?_
        refine AtC.kq (by (refine AtT.kextract ?_); exact At.knows) ?_
        refine AtC.kq (by (refine AtT.kextract ?_); exact At.knows) ?_
        refine AtC.nz ?_
        refine AtT.kstoreA tk31 ?_
        refine AtC.kgo ?_
        refine AtC.kq (by (refine AtT.kassign ?_); exact At.knows) ?_
        exact AtC.done (At.mid1 b3)
    focus
      refine AtC.nz ?_
      refine AtT.kalloc z31 ?_
      intro b3
      refine AtC.kgo ?_
      refine AtC.nz ?_
      refine AtT.kcallP rfl rfl ok47 (line47_f _ _ _ _) ?_
      rintro _ rfl
      refine AtC.kgo ?_
      refine AtC.nz ?_
      refine AtT.kcallP rfl rfl ok20 (core_val (x := ⟨1, 3, 0⟩) hA kn1) ?_
      rintro _ rfl
      refine AtC.kgo ?_
      refine AtC.kq (by (refine AtT.kmove ?_); exact At.knows) ?_
      refine AtC.kq (by (refine AtT.kextract ?_); exact At.knows) ?_
      refine AtC.kq (by (refine AtT.kextract ?_); exact At.knows) ?_
      refine AtC.nz ?_
      refine AtT.kstoreA tk31 ?_
      refine AtC.kgo ?_
      refine AtC.kq (by (refine AtT.kassign ?_); exact At.knows) ?_
      exact AtC.done (At.mid1 b3)
  intro b3
  refine At.nrm ?_
  apply At.draw1 (.q 0 (.two 1 (.two 2 (.q 3 (.q 4 (.q 5 (.n false 6 (.n false 7 (.q 8 .done)))))) 6 (.n false 2 (.q 3 (.q 4 (.q 5 (.n false 7 (.q 8 .done))))))) 6 (.n false 1 (.n false 2 (.q 3 (.q 4 (.q 5 (.n false 7 (.q 8 .done))))))))) ffm (by kernel_rfl)
  · refine AtC.start ?_
    refine AtC.pre (fun hle0 => ?_)
    refine AtC.kq (by (first | refine AtT.kloadOA tk25 ?_ | refine AtT.kloadA tk25 ?_ | refine AtT.kloadOP tk25 ?_); exact At.knows) ?_
    refine AtC.two ?_ ?_
    focus
      refine AtC.nz ?_
      refine AtT.kcallP rfl rfl ok47 (line47_f _ _ _ _) ?_
      rintro _ rfl
      refine AtC.kgo ?_
      refine AtC.two ?_ ?_
      focus
        refine AtC.nz ?_
        refine AtT.kcallP rfl rfl ok20 (core_val (x := ⟨1, 0, 1⟩) hA kn2) ?_
        rintro _ rfl
        refine AtC.kgo ?_
        refine AtC.kq (by (refine AtT.kmove ?_); exact At.knows) ?_
        refine AtC.kq (by (refine AtT.kextract ?_); exact At.knows) ?_
        refine AtC.kq (by (refine AtT.kextract ?_); exact At.knows) ?_
        refine AtC.nz ?_
        refine AtT.kalloc z31 ?_
        intro b5
        refine AtC.kgo ?_
        refine AtC.nz ?_
        refine AtT.kstoreA tk31 ?_
        refine AtC.kgo ?_
        refine AtC.kq (by (refine AtT.kassign ?_); exact At.knows) ?_
        exact AtC.done (fun a w hk hm => ⟨b5, hk, hm⟩)
      focus
        refine AtC.nz ?_
        refine AtT.kalloc z31 ?_
        intro b5
        refine AtC.kgo ?_
        refine AtC.nz ?_
        refine AtT.kcallP rfl rfl ok20 (core_val (x := ⟨1, 0, 1⟩) hA kn2) ?_
        rintro _ rfl
        refine AtC.kgo ?_
        refine AtC.kq (by (refine AtT.kmove ?_); exact At.knows) ?_
        refine AtC.kq (by (refine AtT.kextract ?_); exact At.knows) ?_
        refine AtC.kq (by (refine AtT.kextract ?_); exact At.knows) ?_
        refine AtC.nz ?_
        refine AtT.kstoreA tk31 ?_
        refine AtC.kgo ?_
        refine AtC.kq (by (refine AtT.kassign ?_); exact At.knows) ?_
        exact AtC.done (At.mid1 b5)
    focus
      refine AtC.nz ?_
      refine AtT.kalloc z31 ?_
      intro b5
      refine AtC.kgo ?_
      refine AtC.nz ?_
      refine AtT.kcallP rfl rfl ok47 (line47_f _ _ _ _) ?_
      rintro _ rfl
      refine AtC.kgo ?_
      refine AtC.nz ?_
      refine AtT.kcallP rfl rfl ok20 (core_val (x := ⟨1, 0, 1⟩) hA kn2) ?_
      rintro _ rfl
      refine AtC.kgo ?_
      refine AtC.kq (by (refine AtT.kmove ?_); exact At.knows) ?_
      refine AtC.kq (by (refine AtT.kextract ?_); exact At.knows) ?_
      refine AtC.kq (by (refine AtT.kextract ?_); exact At.knows) ?_
      refine AtC.nz ?_
      refine AtT.kstoreA tk31 ?_
      refine AtC.kgo ?_
      refine AtC.kq (by (refine AtT.kassign ?_); exact At.knows) ?_
      exact AtC.done (At.mid1 b5)
  intro b5
  refine At.nrm ?_
  apply At.draw1 (.q 0 (.two 1 (.two 2 (.q 3 (.q 4 (.q 5 (.n false 6 (.n false 7 (.q 8 .done)))))) 6 (.n false 2 (.q 3 (.q 4 (.q 5 (.n false 7 (.q 8 .done))))))) 6 (.n false 1 (.n false 2 (.q 3 (.q 4 (.q 5 (.n false 7 (.q 8 .done))))))))) ffm (by kernel_rfl)
  · refine AtC.start ?_
    refine AtC.pre (fun hle0 => ?_)
    refine AtC.kq (by (first | refine AtT.kloadOA tk25 ?_ | refine AtT.kloadA tk25 ?_ | refine AtT.kloadOP tk25 ?_); exact At.knows) ?_
    refine AtC.two ?_ ?_
    focus
      refine AtC.nz ?_
      refine AtT.kcallP rfl rfl ok44 (proof44_f _ _ _ _ _) ?_
      rintro _ rfl
      refine AtC.kgo ?_
      refine AtC.two ?_ ?_
      focus
        refine AtC.nz ?_
        refine AtT.kcallP rfl rfl ok31 (check_p LA ⟨0, 1, 2, 1⟩ _ _ hA) ?_
        rintro _ rfl; rw [kn3]
        refine AtC.kgo ?_
        refine AtC.kq (by (refine AtT.kmove ?_); exact At.knows) ?_
        refine AtC.kq (by (refine AtT.kextract ?_); exact At.knows) ?_
        refine AtC.kq (by (refine AtT.kextract ?_); exact At.knows) ?_
        refine AtC.nz ?_
        refine AtT.kalloc z31 ?_
        intro b7
        refine AtC.kgo ?_
        refine AtC.nz ?_
        refine AtT.kstoreA tk31 ?_
        refine AtC.kgo ?_
        refine AtC.kq (by (refine AtT.kassign ?_); exact At.knows) ?_
        exact AtC.done (fun a w hk hm => ⟨b7, hk, hm⟩)
      focus
        refine AtC.nz ?_
        refine AtT.kalloc z31 ?_
        intro b7
        refine AtC.kgo ?_
        refine AtC.nz ?_
        refine AtT.kcallP rfl rfl ok31 (check_p LA ⟨0, 1, 2, 1⟩ _ _ hA) ?_
        rintro _ rfl; rw [kn3]
        refine AtC.kgo ?_
        refine AtC.kq (by (refine AtT.kmove ?_); exact At.knows) ?_
        refine AtC.kq (by (refine AtT.kextract ?_); exact At.knows) ?_
        refine AtC.kq (by (refine AtT.kextract ?_); exact At.knows) ?_
        refine AtC.nz ?_
        refine AtT.kstoreA tk31 ?_
        refine AtC.kgo ?_
        refine AtC.kq (by (refine AtT.kassign ?_); exact At.knows) ?_
        exact AtC.done (At.mid1 b7)
    focus
      refine AtC.nz ?_
      refine AtT.kalloc z31 ?_
      intro b7
      refine AtC.kgo ?_
      refine AtC.nz ?_
      refine AtT.kcallP rfl rfl ok44 (proof44_f _ _ _ _ _) ?_
      rintro _ rfl
      refine AtC.kgo ?_
      refine AtC.nz ?_
      refine AtT.kcallP rfl rfl ok31 (check_p LA ⟨0, 1, 2, 1⟩ _ _ hA) ?_
      rintro _ rfl; rw [kn3]
      refine AtC.kgo ?_
      refine AtC.kq (by (refine AtT.kmove ?_); exact At.knows) ?_
      refine AtC.kq (by (refine AtT.kextract ?_); exact At.knows) ?_
      refine AtC.kq (by (refine AtT.kextract ?_); exact At.knows) ?_
      refine AtC.nz ?_
      refine AtT.kstoreA tk31 ?_
      refine AtC.kgo ?_
      refine AtC.kq (by (refine AtT.kassign ?_); exact At.knows) ?_
      exact AtC.done (At.mid1 b7)
  intro b7
  refine At.nrm ?_
  apply At.draw1 (.q 0 (.two 1 (.two 2 (.q 3 (.q 4 (.q 5 (.n false 6 (.n false 7 (.q 8 .done)))))) 6 (.n false 2 (.q 3 (.q 4 (.q 5 (.n false 7 (.q 8 .done))))))) 6 (.n false 1 (.n false 2 (.q 3 (.q 4 (.q 5 (.n false 7 (.q 8 .done))))))))) ffm (by kernel_rfl)
  · refine AtC.start ?_
    refine AtC.pre (fun hle0 => ?_)
    refine AtC.kq (by (first | refine AtT.kloadOA tk25 ?_ | refine AtT.kloadA tk25 ?_ | refine AtT.kloadOP tk25 ?_); exact At.knows) ?_
    refine AtC.two ?_ ?_
    focus
      refine AtC.nz ?_
      refine AtT.kcallP rfl rfl ok44 (proof44_f _ _ _ _ _) ?_
      rintro _ rfl
      refine AtC.kgo ?_
      refine AtC.two ?_ ?_
      focus
        refine AtC.nz ?_
        refine AtT.kcallP rfl rfl ok31 (check_p LA ⟨1, 1, 1, 0⟩ _ _ hA) ?_
        rintro _ rfl; rw [kn4]
        refine AtC.kgo ?_
        refine AtC.kq (by (refine AtT.kmove ?_); exact At.knows) ?_
        refine AtC.kq (by (refine AtT.kextract ?_); exact At.knows) ?_
        refine AtC.kq (by (refine AtT.kextract ?_); exact At.knows) ?_
        refine AtC.nz ?_
        refine AtT.kalloc z31 ?_
        intro b9
        refine AtC.kgo ?_
        refine AtC.nz ?_
        refine AtT.kstoreA tk31 ?_
        refine AtC.kgo ?_
        refine AtC.kq (by (refine AtT.kassign ?_); exact At.knows) ?_
        exact AtC.done (fun a w hk hm => ⟨b9, hk, hm⟩)
      focus
        refine AtC.nz ?_
        refine AtT.kalloc z31 ?_
        intro b9
        refine AtC.kgo ?_
        refine AtC.nz ?_
        refine AtT.kcallP rfl rfl ok31 (check_p LA ⟨1, 1, 1, 0⟩ _ _ hA) ?_
        rintro _ rfl; rw [kn4]
        refine AtC.kgo ?_
        refine AtC.kq (by (refine AtT.kmove ?_); exact At.knows) ?_
        refine AtC.kq (by (refine AtT.kextract ?_); exact At.knows) ?_
        refine AtC.kq (by (refine AtT.kextract ?_); exact At.knows) ?_
        refine AtC.nz ?_
        refine AtT.kstoreA tk31 ?_
        refine AtC.kgo ?_
        refine AtC.kq (by (refine AtT.kassign ?_); exact At.knows) ?_
        exact AtC.done (At.mid1 b9)
    focus
      refine AtC.nz ?_
      refine AtT.kalloc z31 ?_
      intro b9
      refine AtC.kgo ?_
      refine AtC.nz ?_
      refine AtT.kcallP rfl rfl ok44 (proof44_f _ _ _ _ _) ?_
      rintro _ rfl
      refine AtC.kgo ?_
      refine AtC.nz ?_
      refine AtT.kcallP rfl rfl ok31 (check_p LA ⟨1, 1, 1, 0⟩ _ _ hA) ?_
      rintro _ rfl; rw [kn4]
      refine AtC.kgo ?_
      refine AtC.kq (by (refine AtT.kmove ?_); exact At.knows) ?_
      refine AtC.kq (by (refine AtT.kextract ?_); exact At.knows) ?_
      refine AtC.kq (by (refine AtT.kextract ?_); exact At.knows) ?_
      refine AtC.nz ?_
      refine AtT.kstoreA tk31 ?_
      refine AtC.kgo ?_
      refine AtC.kq (by (refine AtT.kassign ?_); exact At.knows) ?_
      exact AtC.done (At.mid1 b9)
  intro b9
  refine At.nrm ?_
  apply At.draw1 (.q 0 (.two 1 (.two 2 (.q 3 (.q 4 (.q 5 (.n false 6 (.n false 7 (.q 8 .done)))))) 6 (.n false 2 (.q 3 (.q 4 (.q 5 (.n false 7 (.q 8 .done))))))) 6 (.n false 1 (.n false 2 (.q 3 (.q 4 (.q 5 (.n false 7 (.q 8 .done))))))))) ffm (by kernel_rfl)
  · refine AtC.start ?_
    refine AtC.pre (fun hle0 => ?_)
    refine AtC.kq (by (first | refine AtT.kloadOA tk25 ?_ | refine AtT.kloadA tk25 ?_ | refine AtT.kloadOP tk25 ?_); exact At.knows) ?_
    refine AtC.two ?_ ?_
    focus
      refine AtC.nz ?_
      refine AtT.kcallP rfl rfl ok44 (proof44_f _ _ _ _ _) ?_
      rintro _ rfl
      refine AtC.kgo ?_
      refine AtC.two ?_ ?_
      focus
        refine AtC.nz ?_
        refine AtT.kcallP rfl rfl ok31 (check_p LB ⟨0, 0, 0, 0⟩ _ _ hB) ?_
        rintro _ rfl; rw [kn5]
        refine AtC.kgo ?_
        refine AtC.kq (by (refine AtT.kmove ?_); exact At.knows) ?_
        refine AtC.kq (by (refine AtT.kextract ?_); exact At.knows) ?_
        refine AtC.kq (by (refine AtT.kextract ?_); exact At.knows) ?_
        refine AtC.nz ?_
        refine AtT.kalloc z31 ?_
        intro b11
        refine AtC.kgo ?_
        refine AtC.nz ?_
        refine AtT.kstoreA tk31 ?_
        refine AtC.kgo ?_
        refine AtC.kq (by (refine AtT.kassign ?_); exact At.knows) ?_
        exact AtC.done (fun a w hk hm => ⟨b11, hk, hm⟩)
      focus
        refine AtC.nz ?_
        refine AtT.kalloc z31 ?_
        intro b11
        refine AtC.kgo ?_
        refine AtC.nz ?_
        refine AtT.kcallP rfl rfl ok31 (check_p LB ⟨0, 0, 0, 0⟩ _ _ hB) ?_
        rintro _ rfl; rw [kn5]
        refine AtC.kgo ?_
        refine AtC.kq (by (refine AtT.kmove ?_); exact At.knows) ?_
        refine AtC.kq (by (refine AtT.kextract ?_); exact At.knows) ?_
        refine AtC.kq (by (refine AtT.kextract ?_); exact At.knows) ?_
        refine AtC.nz ?_
        refine AtT.kstoreA tk31 ?_
        refine AtC.kgo ?_
        refine AtC.kq (by (refine AtT.kassign ?_); exact At.knows) ?_
        exact AtC.done (At.mid1 b11)
    focus
      refine AtC.nz ?_
      refine AtT.kalloc z31 ?_
      intro b11
      refine AtC.kgo ?_
      refine AtC.nz ?_
      refine AtT.kcallP rfl rfl ok44 (proof44_f _ _ _ _ _) ?_
      rintro _ rfl
      refine AtC.kgo ?_
      refine AtC.nz ?_
      refine AtT.kcallP rfl rfl ok31 (check_p LB ⟨0, 0, 0, 0⟩ _ _ hB) ?_
      rintro _ rfl; rw [kn5]
      refine AtC.kgo ?_
      refine AtC.kq (by (refine AtT.kmove ?_); exact At.knows) ?_
      refine AtC.kq (by (refine AtT.kextract ?_); exact At.knows) ?_
      refine AtC.kq (by (refine AtT.kextract ?_); exact At.knows) ?_
      refine AtC.nz ?_
      refine AtT.kstoreA tk31 ?_
      refine AtC.kgo ?_
      refine AtC.kq (by (refine AtT.kassign ?_); exact At.knows) ?_
      exact AtC.done (At.mid1 b11)
  intro b11
  refine At.nrm ?_
  refine At.ktext (.q 0 (.n false 1 (.q 2 (.q 3 (.q 4 (.q 5 (.n false 6 (.n false 7 (.n true 8 (.n true 9 (.q 10 .done))))))))))) ?_
  first | refine AtT.kloadOA tk25 ?_ | refine AtT.kloadA tk25 ?_ | refine AtT.kloadOP tk25 ?_
  refine AtT.kcallP rfl rfl ok34 (hgh_val hA kn6) ?_
  rintro _ rfl
  refine AtT.kmove ?_
  refine AtT.kextract ?_
  refine AtT.kextract ?_
  refine AtT.kextract ?_
  refine AtT.kalloc z31 ?_
  intro b13
  refine AtT.kalloc z31 ?_
  intro b14
  refine AtT.kstoreA tk31 ?_
  refine AtT.kstoreA tk31 ?_
  refine AtT.kassign ?_
  refine AtT.done ?_
  refine At.nrm ?_
  refine At.ktext (.q 0 (.n false 1 (.q 2 (.q 3 (.q 4 (.q 5 (.n false 6 (.n false 7 (.n true 8 (.n true 9 (.q 10 .done))))))))))) ?_
  first | refine AtT.kloadOA tk25 ?_ | refine AtT.kloadA tk25 ?_ | refine AtT.kloadOP tk25 ?_
  refine AtT.kcallP rfl rfl ok34 (hgh_val hB kn7) ?_
  rintro _ rfl
  refine AtT.kmove ?_
  refine AtT.kextract ?_
  refine AtT.kextract ?_
  refine AtT.kextract ?_
  refine AtT.kalloc z31 ?_
  intro b16
  refine AtT.kalloc z31 ?_
  intro b17
  refine AtT.kstoreA tk31 ?_
  refine AtT.kstoreA tk31 ?_
  refine AtT.kassign ?_
  refine AtT.done ?_
  refine At.nrm ?_
  refine At.ktext (.q 0 (.n false 1 (.q 2 (.q 3 (.q 4 (.q 5 (.q 6 .done))))))) ?_
  first | refine AtT.kloadOA tk25 ?_ | refine AtT.kloadA tk25 ?_ | refine AtT.kloadOP tk25 ?_
  refine AtT.kcallP rfl rfl ok29 (turns_p LA 0 2 _ _ hA) ?_
  rintro _ rfl; rw [kn8]
  refine AtT.kmove ?_
  refine AtT.kextract ?_
  refine AtT.kextract ?_
  refine AtT.kassign ?_
  refine AtT.kassign ?_
  refine AtT.done ?_
  refine At.nrm ?_
  refine At.drawF [(0, 16, 1180591620717411303424), (1, 1180591620717411303424, 2361183241434822606848), (2, 2361183241434822606848, 4722366482869645213696), (4, 4722366482869645213704, 9444732965739290427392), (4, 4722366482869645213696, 18889465931478580854784), (28, 33056565380087516495872, 37778931862957161709568), (36, 42501298345826806923264, 75557863725914323419136), (80, 75557863725914323419136, 151115727451828646838272), (128, 151115727451828646838336, 302231454903657293676544), (384, 453347182355485940514816, 604462909807314587353088), (640, 755578637259143234191360, 1208925819614629174706176), (1152, 1208925819614629174706176, 2417851639229258349412352), (2048, 2417851639229258349412384, 4835703278458516698824704), (2048, 2417851639229258349412352, 9671406556917033397649408), (14336, 16924961474604808445886464, 19342813113834066795298816), (18432, 21760664753063325144711168, 38685626227668133590597632), (40960, 38685626227668133590597632, 77371252455336267181195264), (65536, 77371252455336267181195520, 154742504910672534362390528), (196608, 232113757366008801543585792, 309485009821345068724781056), (327680, 386856262276681335905976320, 618970019642690137449562112), (589824, 618970019642690137449562112, 1237940039285380274899124224), (1048576, 1237940039285380274899124352, 2475880078570760549798248448), (1048576, 1237940039285380274899124224, 4951760157141521099596496896), (7340032, 8665580274997661924293869568, 9903520314283042199192993792), (9437184, 11141460353568422474092118016, 19807040628566084398385987584), (20971520, 19807040628566084398385987584, 39614081257132168796771975168), (33554432, 39614081257132168796771976192, 79228162514264337593543950336), (100663296, 118842243771396506390315925504, 158456325028528675187087900672), (167772160, 198070406285660843983859875840, 316912650057057350374175801344), (301989888, 316912650057057350374175801344, 633825300114114700748351602688), (536870912, 633825300114114700748351603200, 1267650600228229401496703205376), (536870912, 633825300114114700748351602688, 2535301200456458802993406410752), (3758096384, 4436777100798802905238461218816, 5070602400912917605986812821504), (4831838208, 5704427701027032306735164424192, 10141204801825835211973625643008), (10737418240, 10141204801825835211973625643008, 20282409603651670423947251286016), (17179869184, 20282409603651670423947251290112, 40564819207303340847894502572032), (51539607552, 60847228810955011271841753858048, 81129638414606681695789005144064), (85899345920, 101412048018258352119736256430080, 162259276829213363391578010288128), (154618822656, 162259276829213363391578010288128, 324518553658426726783156020576256), (274877906944, 324518553658426726783156020578304, 649037107316853453566312041152512), (274877906944, 324518553658426726783156020576256, 1298074214633706907132624082305024), (1924145348608, 2271629875608987087482092144033792, 2596148429267413814265248164610048), (2473901162496, 2920666982925840541048404185186304, 5192296858534827628530496329220096), (5497558138880, 5192296858534827628530496329220096, 10384593717069655257060992658440192), (8796093022208, 10384593717069655257060992658472960, 20769187434139310514121985316880384), (26388279066624, 31153781151208965771182977975320576, 41538374868278621028243970633760768), (43980465111040, 51922968585348276285304963292200960, 83076749736557242056487941267521536), (79164837199872, 83076749736557242056487941267521536, 166153499473114484112975882535043072), (140737488355328, 166153499473114484112975882535051264, 332306998946228968225951765070086144), (140737488355328, 166153499473114484112975882535043072, 664613997892457936451903530140172288), (985162418487296, 1163074496311801388790831177745301504, 1329227995784915872903807060280344576), (1266637395197952, 1495381495258030357016782942815387648, 2658455991569831745807614120560689152), (2814749767106560, 2658455991569831745807614120560689152, 5316911983139663491615228241121378304), (4503599627370496, 5316911983139663491615228241121394688, 10633823966279326983230456482242756608), (4503599627370496, 5316911983139663491615228241121378304, 21267647932558653966460912964485513216), (31525197391593472, 37218383881977644441306597687849648128, 42535295865117307932921825928971026432), (40532396646334464, 47852207848256971424537054170092404736, 85070591730234615865843651857942052864), (90071992547409920, 85070591730234615865843651857942052864, 170141183460469231731687303715884105728), (144115188075855872, 170141183460469231731687303715884367872, 340282366920938463463374607431768211456), (432345564227567616, 510423550381407695195061911147652317184, 680564733841876926926749214863536422912), (720575940379279360, 850705917302346158658436518579420528640, 1361129467683753853853498429727072845824), (1297036692682702848, 1361129467683753853853498429727072845824, 2722258935367507707706996859454145691648), (2305843009213693952, 2722258935367507707706996859454145757184, 5444517870735015415413993718908291383296), (2305843009213693952, 2722258935367507707706996859454145691648, 10889035741470030830827987437816582766592), (16140901064495857664, 19055812547572553953948978016179019841536, 21778071482940061661655974875633165533184), (20752587082923245568, 24500330418307569369362971735087311224832, 43556142965880123323311949751266331066368), (46116860184273879040, 43556142965880123323311949751266331066368, 87112285931760246646623899502532662132736), (73786976294838206464, 87112285931760246646623899502532662263808, 174224571863520493293247799005065324265472), (73786976294838206464, 87112285931760246646623899502532662132736, 348449143727040986586495598010130648530944), (516508834063867445248, 609786001522321726526367296517728634929152, 696898287454081973172991196020261297061888), (664082786653543858176, 784010573385842219819615095522793959194624, 1393796574908163946345982392040522594123776), (1475739525896764129280, 1393796574908163946345982392040522594123776, 2787593149816327892691964784081045188247552), (2361183241434822606848, 2787593149816327892691964784081045189296128, 5575186299632655785383929568162090376495104), (7083549724304467820544, 8362779449448983678075894352243135564742656, 11150372599265311570767859136324180752990208), (11805916207174113034240, 13937965749081639463459823920405225941237760, 22300745198530623141535718272648361505980416), (21250649172913403461632, 22300745198530623141535718272648361505980416, 44601490397061246283071436545296723011960832), (37778931862957161709568, 44601490397061246283071436545296723012485120, 89202980794122492566142873090593446023921664), (113336795588871485128704, 133804471191183738849214309635890169035882496, 178405961588244985132285746181186892047843328), (188894659314785808547840, 223007451985306231415357182726483615059804160, 356811923176489970264571492362373784095686656), (340010386766614455386112, 356811923176489970264571492362373784095686656, 713623846352979940529142984724747568191373312), (604462909807314587353088, 713623846352979940529142984724747568191373316, 1427247692705959881058285969449495136382746624), (1813388729421943762059264, 2140871539058939821587428954174242704574119936, 2854495385411919762116571938898990272765493248), (3022314549036572936765440, 3568119231764899702645714923623737840956866560, 5708990770823839524233143877797980545530986496), (5440166188265831286177792, 6422614617176819464762286862522728113722359808, 11417981541647679048466287755595961091061972992), (12089258196146291747061760, 11417981541647679048466287755595961091061972992, 22835963083295358096932575511191922182123945984), (19342813113834066795298816, 22835963083295358096932575511191922182123945984, 45671926166590716193865151022383844364247891968), (58028439341502200385896448, 68507889249886074290797726533575766546371837952, 91343852333181432387730302044767688728495783936), (96714065569170333976494080, 114179815416476790484662877555959610910619729920, 182687704666362864775460604089535377456991567872), (174085318024506601157689344, 205523667749658222872393179600727299639115513856, 365375409332725729550921208179070754913983135744), (386856262276681335905976320, 365375409332725729550921208179070754913983135744, 730750818665451459101842416358141509827966271488), (618970019642690137449562112, 730750818665451459101842416358141509827966271488, 1461501637330902918203684832716283019655932542976), (1856910058928070412348686336, 2192252455996354377305527249074424529483898814464, 2923003274661805836407369665432566039311865085952), (3094850098213450687247810560, 3653754093327257295509212081790707549139831357440, 5846006549323611672814739330865132078623730171904), (5570730176784211237046059008, 6576757367989063131916581747223273588451696443392, 11692013098647223345629478661730264157247460343808), (12379400392853802748991242240, 11692013098647223345629478661730264157247460343808, 23384026197294446691258957323460528314494920687616), (19807040628566084398385987584, 23384026197294446691258957323460528314494920687616, 46768052394588893382517914646921056628989841375232), (59421121885698253195157962752, 70152078591883340073776871970381584943484762062848, 93536104789177786765035829293842113257979682750464), (158456325028528675187087900671, 93536104789177786765035829293842113257979682750464, 1)] (.q 0 (.q 1 (.q 2 (.q 3 (.n false 4 (.q 5 (.q 6 (.q 7 (.q 8 (.q 9 (.q 10 (.q 11 (.q 12 (.n false 13 (.q 14 (.q 15 (.q 16 (.q 17 (.q 18 (.q 19 (.q 20 (.q 21 (.n false 22 (.q 23 (.q 24 (.q 25 (.q 26 (.q 27 (.q 28 (.q 29 (.q 30 (.n false 31 (.q 32 (.q 33 (.q 34 (.q 35 (.q 36 (.q 37 (.q 38 (.q 39 (.n false 40 (.q 41 (.q 42 (.q 43 (.q 44 (.q 45 (.q 46 (.q 47 (.q 48 (.n false 49 (.q 50 (.q 51 (.q 52 (.q 53 (.n false 54 (.q 55 (.q 56 (.q 57 (.q 58 (.q 59 (.q 60 (.q 61 (.q 62 (.n false 63 (.q 64 (.q 65 (.q 66 (.q 67 (.n false 68 (.q 69 (.q 70 (.q 71 (.q 72 (.q 73 (.q 74 (.q 75 (.q 76 (.q 77 (.q 78 (.q 79 (.q 80 (.n false 81 (.q 82 (.q 83 (.q 84 (.n false 85 (.n false 86 (.q 87 (.q 88 (.q 89 (.n false 90 (.n false 91 (.q 92 (.q 93 (.q 94 (.n false 95 (.q 96 (.q 97 .done)))))))))))))))))))))))))))))))))))))))))))))))))))))))))))))))))))))))))))))))))))))))))))))))))) ffm (by kernel_rfl) (by kernel_rfl) (by kernel_rfl) ?_
  refine AtT.kmove ?_
  refine AtT.keqI ?_
  refine AtT.kmove ?_
  all_goals (first | refine AtT.kLT 72 ?_ | refine AtT.kLF 72 ?_ | refine AtT.kL 72 ?_ | refine AtT.pcase (d := 72) rfl (fun hg72 => ?_) (fun hg72 => ?_) | refine AtT.bcase (d := 72) rfl (fun hg72 => ?_) (fun hg72 => ?_))
  all_goals (first | refine AtT.kpass ?_ | refine AtT.kpassU ?_ | ((first | refine AtT.kloadOA tk31 ?_ | refine AtT.kloadA tk31 ?_ | refine AtT.kloadOP tk31 ?_)))
  all_goals (first | refine AtT.kpassN ?_ | refine AtT.kpassNU ?_ | ((refine AtT.kcallP rfl rfl ok57 (by57_f _ _ _) ?_) ; (rintro _ rfl)))
  all_goals (first | refine AtT.kpass ?_ | refine AtT.kpassU ?_ | ((refine AtT.keqS (eqS31 _ _ _ _) ?_)))
  all_goals (first | refine AtT.kpickT ?_ | refine AtT.kpickF ?_ | refine AtT.kpick ?_)
  all_goals (refine AtT.kmove ?_)
  all_goals (first | refine AtT.kLT 77 ?_ | refine AtT.kLF 77 ?_ | refine AtT.kL 77 ?_ | refine AtT.pcase (d := 77) rfl (fun hg77 => ?_) (fun hg77 => ?_) | refine AtT.bcase (d := 77) rfl (fun hg77 => ?_) (fun hg77 => ?_))
  all_goals (first | refine AtT.kpass ?_ | refine AtT.kpassU ?_ | ((refine AtT.kmove ?_)))
  all_goals (first | refine AtT.kpass ?_ | refine AtT.kpassU ?_ | ((refine AtT.keqI ?_)))
  all_goals (first | refine AtT.kpickT ?_ | refine AtT.kpickF ?_ | refine AtT.kpick ?_)
  all_goals (refine AtT.kmove ?_)
  all_goals (first | refine AtT.kLT 81 ?_ | refine AtT.kLF 81 ?_ | refine AtT.kL 81 ?_ | refine AtT.pcase (d := 81) rfl (fun hg81 => ?_) (fun hg81 => ?_) | refine AtT.bcase (d := 81) rfl (fun hg81 => ?_) (fun hg81 => ?_))
  all_goals (first | refine AtT.kpass ?_ | refine AtT.kpassU ?_ | ((first | refine AtT.kloadOA tk31 ?_ | refine AtT.kloadA tk31 ?_ | refine AtT.kloadOP tk31 ?_)))
  all_goals (first | refine AtT.kpassN ?_ | refine AtT.kpassNU ?_ | ((refine AtT.kcallP rfl rfl ok57 (by57_f _ _ _) ?_) ; (rintro _ rfl)))
  all_goals (first | refine AtT.kpass ?_ | refine AtT.kpassU ?_ | ((refine AtT.keqS (eqS31 _ _ _ _) ?_)))
  all_goals (first | refine AtT.kpickT ?_ | refine AtT.kpickF ?_ | refine AtT.kpick ?_)
  all_goals (refine AtT.kmove ?_)
  all_goals (first | refine AtT.kLT 86 ?_ | refine AtT.kLF 86 ?_ | refine AtT.kL 86 ?_ | refine AtT.pcase (d := 86) rfl (fun hg86 => ?_) (fun hg86 => ?_) | refine AtT.bcase (d := 86) rfl (fun hg86 => ?_) (fun hg86 => ?_))
  all_goals (first | refine AtT.kpass ?_ | refine AtT.kpassU ?_ | ((refine AtT.kmove ?_)))
  all_goals (first | refine AtT.kpass ?_ | refine AtT.kpassU ?_ | ((refine AtT.keqI ?_)))
  all_goals (first | refine AtT.kpickT ?_ | refine AtT.kpickF ?_ | refine AtT.kpick ?_)
  all_goals (refine AtT.kmove ?_)
  all_goals (first | refine AtT.kLT 90 ?_ | refine AtT.kLF 90 ?_ | refine AtT.kL 90 ?_ | refine AtT.pcase (d := 90) rfl (fun hg90 => ?_) (fun hg90 => ?_) | refine AtT.bcase (d := 90) rfl (fun hg90 => ?_) (fun hg90 => ?_))
  all_goals (first | refine AtT.kpass ?_ | refine AtT.kpassU ?_ | ((first | refine AtT.kloadOA tk31 ?_ | refine AtT.kloadA tk31 ?_ | refine AtT.kloadOP tk31 ?_)))
  all_goals (first | refine AtT.kpassN ?_ | refine AtT.kpassNU ?_ | ((refine AtT.kcallP rfl rfl ok57 (by57_f _ _ _) ?_) ; (rintro _ rfl)))
  all_goals (first | refine AtT.kpass ?_ | refine AtT.kpassU ?_ | ((refine AtT.keqS (eqS31 _ _ _ _) ?_)))
  all_goals (first | refine AtT.kpickT ?_ | refine AtT.kpickF ?_ | refine AtT.kpick ?_)
  all_goals (refine AtT.kmove ?_)
  all_goals (first | refine AtT.kLT 95 ?_ | refine AtT.kLF 95 ?_ | refine AtT.kL 95 ?_ | refine AtT.pcase (d := 95) rfl (fun hg95 => ?_) (fun hg95 => ?_) | refine AtT.bcase (d := 95) rfl (fun hg95 => ?_) (fun hg95 => ?_))
  all_goals (first | refine AtT.kpass ?_ | refine AtT.kpassU ?_ | ((refine AtT.kmove ?_)))
  all_goals (first | refine AtT.kpass ?_ | refine AtT.kpassU ?_ | ((refine AtT.keqI ?_)))
  all_goals (first | refine AtT.kpickT ?_ | refine AtT.kpickF ?_ | refine AtT.kpick ?_)
  all_goals (refine AtT.kmove ?_)
  all_goals (first | refine AtT.kLT 99 ?_ | refine AtT.kLF 99 ?_ | refine AtT.kL 99 ?_ | refine AtT.pcase (d := 99) rfl (fun hg99 => ?_) (fun hg99 => ?_) | refine AtT.bcase (d := 99) rfl (fun hg99 => ?_) (fun hg99 => ?_))
  all_goals (first | refine AtT.kpass ?_ | refine AtT.kpassU ?_ | ((first | refine AtT.kloadOA tk31 ?_ | refine AtT.kloadA tk31 ?_ | refine AtT.kloadOP tk31 ?_)))
  all_goals (first | refine AtT.kpassN ?_ | refine AtT.kpassNU ?_ | ((refine AtT.kcallP rfl rfl ok57 (by57_f _ _ _) ?_) ; (rintro _ rfl)))
  all_goals (first | refine AtT.kpass ?_ | refine AtT.kpassU ?_ | ((refine AtT.keqS (eqS31 _ _ _ _) ?_)))
  all_goals (first | refine AtT.kpickT ?_ | refine AtT.kpickF ?_ | refine AtT.kpick ?_)
  all_goals (refine AtT.kmove ?_)
  all_goals (first | refine AtT.kLT 104 ?_ | refine AtT.kLF 104 ?_ | refine AtT.kL 104 ?_ | refine AtT.pcase (d := 104) rfl (fun hg104 => ?_) (fun hg104 => ?_) | refine AtT.bcase (d := 104) rfl (fun hg104 => ?_) (fun hg104 => ?_))
  all_goals (first | refine AtT.kpass ?_ | refine AtT.kpassU ?_ | ((refine AtT.kmove ?_)))
  all_goals (first | refine AtT.kpass ?_ | refine AtT.kpassU ?_ | ((refine AtT.keqI ?_)))
  all_goals (first | refine AtT.kpickT ?_ | refine AtT.kpickF ?_ | refine AtT.kpick ?_)
  all_goals (refine AtT.kmove ?_)
  all_goals (first | refine AtT.kLT 108 ?_ | refine AtT.kLF 108 ?_ | refine AtT.kL 108 ?_ | refine AtT.pcase (d := 108) rfl (fun hg108 => ?_) (fun hg108 => ?_) | refine AtT.bcase (d := 108) rfl (fun hg108 => ?_) (fun hg108 => ?_))
  all_goals (first | refine AtT.kpass ?_ | refine AtT.kpassU ?_ | ((first | refine AtT.kloadOA tk31 ?_ | refine AtT.kloadA tk31 ?_ | refine AtT.kloadOP tk31 ?_)))
  all_goals (first | refine AtT.kpassN ?_ | refine AtT.kpassNU ?_ | ((refine AtT.kcallP rfl rfl ok57 (by57_f _ _ _) ?_) ; (rintro _ rfl)))
  all_goals (first | refine AtT.kpass ?_ | refine AtT.kpassU ?_ | ((refine AtT.keqS (eqS31 _ _ _ _) ?_)))
  all_goals (first | refine AtT.kpickT ?_ | refine AtT.kpickF ?_ | refine AtT.kpick ?_)
  all_goals (refine AtT.kmove ?_)
  all_goals (first | refine AtT.kLT 113 ?_ | refine AtT.kLF 113 ?_ | refine AtT.kL 113 ?_ | refine AtT.pcase (d := 113) rfl (fun hg113 => ?_) (fun hg113 => ?_) | refine AtT.bcase (d := 113) rfl (fun hg113 => ?_) (fun hg113 => ?_))
  all_goals (first | refine AtT.kpass ?_ | refine AtT.kpassU ?_ | ((refine AtT.kmove ?_)))
  all_goals (first | refine AtT.kpass ?_ | refine AtT.kpassU ?_ | ((refine AtT.keqI ?_)))
  all_goals (first | refine AtT.kpickT ?_ | refine AtT.kpickF ?_ | refine AtT.kpick ?_)
  all_goals (refine AtT.kmove ?_)
  all_goals (first | refine AtT.kLT 117 ?_ | refine AtT.kLF 117 ?_ | refine AtT.kL 117 ?_ | refine AtT.pcase (d := 117) rfl (fun hg117 => ?_) (fun hg117 => ?_) | refine AtT.bcase (d := 117) rfl (fun hg117 => ?_) (fun hg117 => ?_))
  all_goals (first | refine AtT.kpass ?_ | refine AtT.kpassU ?_ | ((first | refine AtT.kloadOA tk31 ?_ | refine AtT.kloadA tk31 ?_ | refine AtT.kloadOP tk31 ?_)))
  all_goals (first | refine AtT.kpassN ?_ | refine AtT.kpassNU ?_ | ((refine AtT.kcallP rfl rfl ok57 (by57_f _ _ _) ?_) ; (rintro _ rfl)))
  all_goals (first | refine AtT.kpass ?_ | refine AtT.kpassU ?_ | ((refine AtT.keqS (eqS31 _ _ _ _) ?_)))
  all_goals (first | refine AtT.kpickT ?_ | refine AtT.kpickF ?_ | refine AtT.kpick ?_)
  all_goals (refine AtT.kmove ?_)
  all_goals (first | refine AtT.kLT 122 ?_ | refine AtT.kLF 122 ?_ | refine AtT.kL 122 ?_ | refine AtT.pcase (d := 122) rfl (fun hg122 => ?_) (fun hg122 => ?_) | refine AtT.bcase (d := 122) rfl (fun hg122 => ?_) (fun hg122 => ?_))
  all_goals (first | refine AtT.kpass ?_ | refine AtT.kpassU ?_ | ((first | refine AtT.kloadOA tk31 ?_ | refine AtT.kloadA tk31 ?_ | refine AtT.kloadOP tk31 ?_)))
  all_goals (first | refine AtT.kpassN ?_ | refine AtT.kpassNU ?_ | ((refine AtT.kcallP rfl rfl ok57 (by57_f _ _ _) ?_) ; (rintro _ rfl)))
  all_goals (first | refine AtT.kpass ?_ | refine AtT.kpassU ?_ | ((refine AtT.keqS (eqS31 _ _ _ _) ?_)))
  all_goals (first | refine AtT.kpickT ?_ | refine AtT.kpickF ?_ | refine AtT.kpick ?_)
  all_goals (refine AtT.kmove ?_)
  all_goals (first | refine AtT.kLT 127 ?_ | refine AtT.kLF 127 ?_ | refine AtT.kL 127 ?_ | refine AtT.pcase (d := 127) rfl (fun hg127 => ?_) (fun hg127 => ?_) | refine AtT.bcase (d := 127) rfl (fun hg127 => ?_) (fun hg127 => ?_))
  all_goals (first | refine AtT.kpass ?_ | refine AtT.kpassU ?_ | ((refine AtT.kmove ?_)))
  all_goals (first | refine AtT.kpass ?_ | refine AtT.kpassU ?_ | ((refine AtT.keqI ?_)))
  all_goals (first | refine AtT.kpickT ?_ | refine AtT.kpickF ?_ | refine AtT.kpick ?_)
  all_goals (refine AtT.kmove ?_)
  all_goals (first | refine AtT.kLT 131 ?_ | refine AtT.kLF 131 ?_ | refine AtT.kL 131 ?_ | refine AtT.pcase (d := 131) rfl (fun hg131 => ?_) (fun hg131 => ?_) | refine AtT.bcase (d := 131) rfl (fun hg131 => ?_) (fun hg131 => ?_))
  all_goals (first | refine AtT.kpass ?_ | refine AtT.kpassU ?_ | ((first | refine AtT.kloadOA tk31 ?_ | refine AtT.kloadA tk31 ?_ | refine AtT.kloadOP tk31 ?_)))
  all_goals (first | refine AtT.kpassN ?_ | refine AtT.kpassNU ?_ | ((refine AtT.kcallP rfl rfl ok57 (by57_f _ _ _) ?_) ; (rintro _ rfl)))
  all_goals (first | refine AtT.kpass ?_ | refine AtT.kpassU ?_ | ((refine AtT.keqS (eqS31 _ _ _ _) ?_)))
  all_goals (first | refine AtT.kpickT ?_ | refine AtT.kpickF ?_ | refine AtT.kpick ?_)
  all_goals (refine AtT.kmove ?_)
  all_goals (first | refine AtT.kLT 136 ?_ | refine AtT.kLF 136 ?_ | refine AtT.kL 136 ?_ | refine AtT.pcase (d := 136) rfl (fun hg136 => ?_) (fun hg136 => ?_) | refine AtT.bcase (d := 136) rfl (fun hg136 => ?_) (fun hg136 => ?_))
  all_goals (first | refine AtT.kpass ?_ | refine AtT.kpassU ?_ | ((first | refine AtT.kloadOA tk31 ?_ | refine AtT.kloadA tk31 ?_ | refine AtT.kloadOP tk31 ?_)))
  all_goals (first | refine AtT.kpassN ?_ | refine AtT.kpassNU ?_ | ((refine AtT.kcallP rfl rfl ok57 (by57_f _ _ _) ?_) ; (rintro _ rfl)))
  all_goals (first | refine AtT.kpass ?_ | refine AtT.kpassU ?_ | ((refine AtT.keqS (eqS31 _ _ _ _) ?_)))
  all_goals (first | refine AtT.kpickT ?_ | refine AtT.kpickF ?_ | refine AtT.kpick ?_)
  all_goals (refine AtT.kmove ?_)
  all_goals (first | refine AtT.kLT 141 ?_ | refine AtT.kLF 141 ?_ | refine AtT.kL 141 ?_ | refine AtT.pcase (d := 141) rfl (fun hg141 => ?_) (fun hg141 => ?_) | refine AtT.bcase (d := 141) rfl (fun hg141 => ?_) (fun hg141 => ?_))
  all_goals (first | refine AtT.kpass ?_ | refine AtT.kpassU ?_ | ((refine AtT.kmove ?_)))
  all_goals (first | refine AtT.kpass ?_ | refine AtT.kpassU ?_ | ((refine AtT.keqI ?_)))
  all_goals (first | refine AtT.kpickT ?_ | refine AtT.kpickF ?_ | refine AtT.kpick ?_)
  all_goals (refine AtT.kmove ?_)
  all_goals (first | refine AtT.kLT 145 ?_ | refine AtT.kLF 145 ?_ | refine AtT.kL 145 ?_ | refine AtT.pcase (d := 145) rfl (fun hg145 => ?_) (fun hg145 => ?_) | refine AtT.bcase (d := 145) rfl (fun hg145 => ?_) (fun hg145 => ?_))
  all_goals (first | refine AtT.kpass ?_ | refine AtT.kpassU ?_ | ((refine AtT.kmove ?_)))
  all_goals (first | refine AtT.kpass ?_ | refine AtT.kpassU ?_ | ((refine AtT.keqI ?_)))
  all_goals (first | refine AtT.kpickT ?_ | refine AtT.kpickF ?_ | refine AtT.kpick ?_)
  all_goals (refine AtT.kmove ?_)
  all_goals (first | refine AtT.kLT 149 ?_ | refine AtT.kLF 149 ?_ | refine AtT.kL 149 ?_ | refine AtT.pcase (d := 149) rfl (fun hg149 => ?_) (fun hg149 => ?_) | refine AtT.bcase (d := 149) rfl (fun hg149 => ?_) (fun hg149 => ?_))
  all_goals (first | refine AtT.kpass ?_ | refine AtT.kpassU ?_ | ((first | refine AtT.kloadOA tk25 ?_ | refine AtT.kloadA tk25 ?_ | refine AtT.kloadOP tk25 ?_)))
  all_goals (first | refine AtT.kpassN ?_ | refine AtT.kpassNU ?_ | ((refine AtT.kcallP rfl rfl ok22 (checkLog_f LB _ _ hB) ?_) ; (rintro _ rfl; rw [eB])))
  all_goals (first | refine AtT.kpass ?_ | refine AtT.kpassU ?_ | ((refine AtT.keqI ?_)))
  all_goals (first | refine AtT.kpickT ?_ | refine AtT.kpickF ?_ | refine AtT.kpick ?_)
  all_goals (refine AtT.kmove ?_)
  all_goals (first | refine AtT.kLT 154 ?_ | refine AtT.kLF 154 ?_ | refine AtT.kL 154 ?_ | refine AtT.pcase (d := 154) rfl (fun hg154 => ?_) (fun hg154 => ?_) | refine AtT.bcase (d := 154) rfl (fun hg154 => ?_) (fun hg154 => ?_))
  all_goals (first | refine AtT.kpassN ?_ | refine AtT.kpassNU ?_ | ((refine AtT.kcallP rfl rfl ok47 (line47_f _ _ _ _) ?_) ; (rintro _ rfl)))
  all_goals (first | refine AtT.kpassN ?_ | refine AtT.kpassNU ?_ | ((refine AtT.kcallP rfl rfl ok24 (checkLine_f ⟨1, 0, 0⟩ _) ?_) ; (rintro _ rfl; rw [kn9])))
  all_goals (first | refine AtT.kpass ?_ | refine AtT.kpassU ?_ | ((refine AtT.keqI ?_)))
  all_goals (first | refine AtT.kpickT ?_ | refine AtT.kpickF ?_ | refine AtT.kpick ?_)
  all_goals (refine AtT.kmove ?_)
  all_goals (first | refine AtT.kLT 159 ?_ | refine AtT.kLF 159 ?_ | refine AtT.kL 159 ?_ | refine AtT.pcase (d := 159) rfl (fun hg159 => ?_) (fun hg159 => ?_) | refine AtT.bcase (d := 159) rfl (fun hg159 => ?_) (fun hg159 => ?_))
  all_goals (first | refine AtT.kpassN ?_ | refine AtT.kpassNU ?_ | ((refine AtT.kcall rfl rfl ok58 (rough_f _) ?_) ; (rintro _ V3 hV3 hR)))
  all_goals (first | refine AtT.kpassN ?_ | refine AtT.kpassNU ?_ | ((refine AtT.kcallP rfl rfl ok39 (checkRough_f RA _ _ hR) ?_) ; (rintro _ rfl; rw [kn10])))
  all_goals (first | refine AtT.kpass ?_ | refine AtT.kpassU ?_ | ((refine AtT.keqI ?_)))
  all_goals (first | refine AtT.kpickT ?_ | refine AtT.kpickF ?_ | refine AtT.kpick ?_)
  all_goals (refine AtT.kmove ?_)
  all_goals (first | refine AtT.kLT 164 ?_ | refine AtT.kLF 164 ?_ | refine AtT.kL 164 ?_ | refine AtT.pcase (d := 164) rfl (fun hg164 => ?_) (fun hg164 => ?_) | refine AtT.bcase (d := 164) rfl (fun hg164 => ?_) (fun hg164 => ?_))
  all_goals (first | refine AtT.kpassN ?_ | refine AtT.kpassNU ?_ | ((refine AtT.kcallP rfl rfl ok19 (works_f _) ?_) ; (rintro _ rfl)))
  all_goals (first | refine AtT.kpickT ?_ | refine AtT.kpickF ?_ | refine AtT.kpick ?_)
  all_goals (refine AtT.kassign ?_)
  all_goals refine AtT.done ?_
  all_goals (refine At.nrm ?_)
  exact At.ret1 rfl (.tmp rfl) rfl
end Go.Proofs.Ytnionkopmncopaa
set_option linter.unusedVariables false
namespace Go.Proofs.Ytnionkopmncopaa
open Go.Pl

def strLo (n x y i : Int) : Int := x * (n - 1 - i) + y * i
def strR (n x y w z i : Int) : Rg := ⟨strLo n x y i - 900, strLo n x y i + w * (n - 1 - i) + z * i - 900⟩
def strL (n : Nat) (a st x y w z : Int) : Lg := ⟨(List.range n).map fun (i : Nat) => a + st * (i : Int), (List.range n).map fun (i : Nat) => strR n x y w z i⟩
theorem strL_len (n : Nat) (a st x y w z : Int) : (strL n a st x y w z).pl.length = n := by simp [strL]
theorem strL_pl {n : Nat} {a st x y w z : Int} {i : Nat} (hi : i < n) : plP (strL n a st x y w z) i = a + st * (i : Int) := by
  have h : (strL n a st x y w z).pl[i]? = some (a + st * (i : Int)) := by simp only [strL, List.getElem?_map, List.getElem?_range hi]; rfl
  exact (plP_some (i := (i : Int)) h).symm
theorem strL_ed {n : Nat} {a st x y w z : Int} {i : Nat} (hi : i < n) : edP (strL n a st x y w z) i = strR n x y w z i := by
  have h : (strL n a st x y w z).ed[i]? = some (strR n x y w z i) := by simp only [strL, List.getElem?_map, List.getElem?_range hi]; rfl
  exact (edP_some (i := (i : Int)) h).symm
theorem str_best {n : Nat} {a st x y w z : Int} (hn : 2 ≤ n) (hst : 0 < st) (hL : LgOk (strL n a st x y w z)) : bestV (strL n a st x y w z) = rat (min w z * ((n : Int) - 1)) 2 := by
  refine can_ext (best_can hL) (rat_can (by decide)) ?_
  rw [rat_q (by decide)]
  have hlen := strL_len n a st x y w z
  have stn := cne hst
  -- at the ends
  have e0 := best_prov hL (pf_one (i := 0) (by omega))
  have e1 := best_prov hL (pf_one (i := n - 1) (by omega))
  have hn1 : ((n - 1 : Nat) : Int) = (n : Int) - 1 := by omega
  have p0 := prov_eq hL (pf_one (L := strL n a st x y w z) (i := 0) (by omega)) _ rfl
  have p1 := prov_eq hL (pf_one (L := strL n a st x y w z) (i := n - 1) (by omega)) _ rfl
  simp only [provD, provN, if_true, strL_ed (n := n) (i := 0) (by omega)] at p0
  simp only [provD, provN, if_true, strL_ed (n := n) (i := n - 1) (by omega)] at p1
  simp only [strR, strLo, hn1] at p0 p1
  push_cast at p0 p1
  rw [hn1] at e1
  simp only [Int.ofNat_zero] at e0
  -- in the middle
  let N : Rat := (n : Int) - 1
  have hk : Keeps (strL n a st x y w z) ((min w z : Int) * N / 2) ((x * N - 900 + w * N / 2) - ((y - x) + ((z : Rat) - w) / 2) / st * a) (((y - x) + ((z : Rat) - w) / 2) / st) := fun m hm => by
    rw [hlen] at hm
    have m0 : (0 : Rat) ≤ ((m : Int) : Rat) := by have := cle (a := 0) (b := (m : Int)) (by omega); exact this
    have m1 : ((m : Int) : Rat) ≤ N := by
      have := cle (a := (m : Int)) (b := (n : Int) - 1) (by omega)
      rw [Rat.intCast_sub] at this; exact this
    have w1 : ((min w z : Int) : Rat) ≤ w := cle (by omega)
    have z1 : ((min w z : Int) : Rat) ≤ z := cle (by omega)
    have k1 := rmul_le w1 (c := N - (m : Int)) (by grind)
    have k2 := rmul_le z1 (c := ((m : Int) : Rat)) m0
    simp only [loq, hiq, Xq, strL_ed hm, strL_pl hm, strR, strLo]
    push_cast
    have hv : (x : Rat) * N - 900 + w * N / 2 - ((y : Rat) - x + ((z : Rat) - w) / 2) / st * a + ((y : Rat) - x + ((z : Rat) - w) / 2) / st * ((a : Rat) + st * ((m : Nat) : Rat)) = (x : Rat) * N - 900 + w * N / 2 + ((y : Rat) - x + ((z : Rat) - w) / 2) * ((m : Nat) : Rat) := by grind
    have hmc : ((m : Int) : Rat) = ((m : Nat) : Rat) := by push_cast; rfl
    have hNc : N = ((n : Nat) : Rat) - 1 := by simp only [N]; push_cast; rfl
    rw [hmc] at k1 k2
    rw [hv]
    rw [hNc] at k1 ⊢
    generalize ((min w z : Int) : Rat) = mw at *
    constructor <;> grind
  have hup := keeps_best hL hk
  have hmw : (min w z = w ∨ min w z = z) := by omega
  have hNc : N = ((n : Nat) : Rat) - 1 := by simp only [N]; push_cast; rfl
  rw [hNc] at hup
  have goal_eq : ((min w z * ((n : Int) - 1) : Int) : Rat) = ((min w z : Int) : Rat) * (((n : Nat) : Rat) - 1) := by
    rw [Rat.intCast_mul, Rat.intCast_sub]; push_cast; rfl
  rw [goal_eq]
  push_cast
  rcases hmw with h | h
  · rw [h] at hup ⊢; grind
  · rw [h] at hup ⊢; grind
end Go.Proofs.Ytnionkopmncopaa
set_option linter.unusedVariables false
namespace Go.Proofs.Ytnionkopmncopaa
open Go.Lw Go.Pl Go.RowKit

theorem peelStraight_f (first far one two wide end' many : Int) (V : View) (h1 : 0 ≤ first ∧ first ≤ 255) (h2 : 0 ≤ far ∧ far ≤ 255) (h3 : 0 ≤ one ∧ one ≤ 65535) (h4 : 0 ≤ two ∧ two ≤ 65535) (h5 : 0 ≤ wide ∧ wide ≤ 65535) (h6 : 0 ≤ end' ∧ end' ≤ 65535) (h7 : 0 ≤ many ∧ many ≤ 255) :
    Fnc Try.prog 16 [.int .u8 first, .int .u8 far, .int .u16 one, .int .u16 two, .int .u16 wide, .int .u16 end', .int .u8 many] V fun r _ => r = .bool true := by
  have r1 := tmod_pos h1.1 (m := 30) (by decide)
  have r2 := tmod_pos h2.1 (m := 10) (by decide)
  have r3 := tmod_pos h3.1 (m := 100) (by decide)
  have r4 := tmod_pos h4.1 (m := 100) (by decide)
  have r5 := tmod_pos h5.1 (m := 100) (by decide)
  have r6 := tmod_pos h6.1 (m := 100) (by decide)
  have r7 := tmod_pos h7.1 (m := 7) (by decide)
  obtain ⟨n, hn⟩ : ∃ n : Nat, 2 + many.tmod 7 = n := ⟨(2 + many.tmod 7).toNat, by omega⟩
  obtain ⟨st, hst⟩ : ∃ st, st = 1 + far.tmod 10 := ⟨_, rfl⟩
  obtain ⟨a, ha⟩ : ∃ a, a = first.tmod 30 := ⟨_, rfl⟩
  obtain ⟨x, hx⟩ : ∃ x, x = one.tmod 100 := ⟨_, rfl⟩
  obtain ⟨y, hy⟩ : ∃ y, y = two.tmod 100 := ⟨_, rfl⟩
  obtain ⟨w, hw⟩ : ∃ w, w = wide.tmod 100 := ⟨_, rfl⟩
  obtain ⟨z, hz⟩ : ∃ z, z = end'.tmod 100 := ⟨_, rfl⟩
  have bn : 2 ≤ n ∧ n ≤ 8 := by omega
  have bst : 0 < st ∧ st ≤ 10 := by omega
  refine fn_of Try.func16 rfl Try.ntmps16 (Nat.le_of_ble_eq_true rfl) ?_
  intro w0 hw0
  refine At.nrm ?_
  refine At.ktext (.q 0 .done) ?_
  refine AtT.kassign ?_
  refine AtT.done ?_
  refine At.nrm ?_
  refine At.ktext (.q 0 (.q 1 (.q 2 (.q 3 (.q 4 .done))))) ?_
  refine AtT.kmove ?_
  refine AtT.krem ?_
  refine AtT.kconv un5 Try.underlying2 ?_
  rw [wrap_fit (Fit.of (by omega) (by omega))]
  first | refine AtT.kadd ?_ | refine AtT.kaddW ?_
  refine AtT.kassign ?_
  refine AtT.done ?_
  refine At.nrm ?_
  refine At.re (d := 15) rfl (show iv (2 + many.tmod 7) = iv n from by rw [hn]) ?_
  refine At.ktext (.q 0 (.q 1 (.q 2 (.q 3 (.q 4 (.q 5 (.q 6 (.q 7 (.q 8 .done))))))))) ?_
  refine AtT.kmove ?_
  refine AtT.krem ?_
  refine AtT.kconv un5 Try.underlying2 ?_
  rw [wrap_fit (Fit.of (by omega) (by omega))]
  refine AtT.kmove ?_
  refine AtT.krem ?_
  refine AtT.kconv un5 Try.underlying2 ?_
  rw [wrap_fit (Fit.of (by omega) (by omega))]
  first | refine AtT.kadd ?_ | refine AtT.kaddW ?_
  refine AtT.kassign ?_
  refine AtT.kassign ?_
  refine AtT.done ?_
  refine At.nrm ?_
  refine At.re (d := 16) rfl (show iv (first.tmod 30) = iv a from by rw [ha]) ?_
  refine At.re (d := 17) rfl (show iv (1 + far.tmod 10) = iv st from by rw [hst]) ?_
  refine At.ktext (.q 0 (.q 1 (.q 2 (.q 3 (.q 4 (.q 5 (.q 6 (.q 7 (.q 8 (.q 9 (.q 10 (.q 11 (.q 12 (.q 13 (.q 14 (.q 15 .done)))))))))))))))) ?_
  refine AtT.kmove ?_
  refine AtT.krem ?_
  refine AtT.kconv un81 Try.underlying2 ?_
  rw [wrap_fit (Fit.of (by omega) (by omega))]
  refine AtT.kmove ?_
  refine AtT.krem ?_
  refine AtT.kconv un81 Try.underlying2 ?_
  rw [wrap_fit (Fit.of (by omega) (by omega))]
  refine AtT.kmove ?_
  refine AtT.krem ?_
  refine AtT.kconv un81 Try.underlying2 ?_
  rw [wrap_fit (Fit.of (by omega) (by omega))]
  refine AtT.kmove ?_
  refine AtT.krem ?_
  refine AtT.kconv un81 Try.underlying2 ?_
  rw [wrap_fit (Fit.of (by omega) (by omega))]
  refine AtT.kassign ?_
  refine AtT.kassign ?_
  refine AtT.kassign ?_
  refine AtT.kassign ?_
  refine AtT.done ?_
  refine At.nrm ?_
  refine At.re (d := 18) rfl (show iv (one.tmod 100) = iv x from by rw [hx]) ?_
  refine At.re (d := 19) rfl (show iv (two.tmod 100) = iv y from by rw [hy]) ?_
  refine At.re (d := 20) rfl (show iv (wide.tmod 100) = iv w from by rw [hw]) ?_
  refine At.re (d := 21) rfl (show iv (end'.tmod 100) = iv z from by rw [hz]) ?_
  refine At.ktext (.q 0 (.n false 1 (.n true 2 .done))) ?_
  refine AtT.kbuild (bd25) ?_
  refine AtT.kalloc z25 ?_
  intro b22
  refine AtT.kstoreA tk25 ?_
  refine AtT.done ?_
  refine At.nrm ?_
  refine At.ktext (.q 0 .done) ?_
  refine AtT.kassign ?_
  refine AtT.done ?_
  refine At.nrm ?_
  refine At.newRow 2 1 ?_
  refine At.newRow 69 2 ?_
  refine At.lp (ι := Nat × (Option Addr × Nat) × (Option Addr × Nat)) (KS := fun g => [(15, iv n), (16, iv a), (17, iv st), (18, iv x), (19, iv y), (20, iv w), (21, iv z), (22, .pointer (some ⟨b22, 0, none⟩)), (23, iv g.1)])
    (OS := fun g => [.blk b22 (LC [.slice g.2.1.1 g.1 g.2.1.2, .slice g.2.2.1 g.1 g.2.2.2] 25), .row (.slice g.2.1.1 g.1 g.2.1.2) 2 1 g.1 (flat ei ((strL n a st x y w z).pl.take g.1)), .row (.slice g.2.2.1 g.1 g.2.2.2) 69 2 g.1 (flat rge ((strL n a st x y w z).ed.take g.1))])
    (VS := fun g V' => Le V V' ∧ g.1 ≤ n) (μ := fun g => n - g.1) (0, (none, 0), (none, 0)) ?_ ?_ ?_ ?_
  · exact ⟨rfl, rfl, rfl, rfl, rfl, rfl, rfl, rfl, rfl, trivial⟩
  · exact Pt.auto
  · exact ⟨Le.refl _, Nat.zero_le _⟩
  · rintro ⟨k, ⟨ao, co⟩, ⟨ap, cp⟩⟩ V' ks' O' ⟨hVV, hkl⟩ hk hO hl2
    dsimp only at hkl hk hO
    subst hk hO
    refine At.nrm ?_
    refine At.ktext (.q 0 (.q 1 (.q 2 .done))) ?_
    refine AtT.kmove ?_
    refine AtT.kmove ?_
    refine AtT.klss ?_
    refine AtT.done ?_
    refine At.nrm ?_
    refine At.condP rfl (fun hb => ?_) (fun hb => ?_)
    · have hkn : k < n := by omega
      have k1 : (strL n a st x y w z).pl[k]? = some (a + st * (k : Int)) := by simp only [strL, List.getElem?_map, List.getElem?_range hkn]; rfl
      have k2 : (strL n a st x y w z).ed[k]? = some (strR n x y w z k) := by simp only [strL, List.getElem?_map, List.getElem?_range hkn]; rfl
      have m1 := mul_bd (a := x) (b := (n : Int) - 1 - k) (A := 100) (B := 8) (by decide) (by decide) (by omega) (by omega) (by omega) (by omega)
      have m2 := mul_bd (a := y) (b := (k : Int)) (A := 100) (B := 8) (by decide) (by decide) (by omega) (by omega) (by omega) (by omega)
      have m3 := mul_bd (a := w) (b := (n : Int) - 1 - k) (A := 100) (B := 8) (by decide) (by decide) (by omega) (by omega) (by omega) (by omega)
      have m4 := mul_bd (a := z) (b := (k : Int)) (A := 100) (B := 8) (by decide) (by decide) (by omega) (by omega) (by omega) (by omega)
      have m5 := mul_bd (a := st) (b := (k : Int)) (A := 10) (B := 8) (by decide) (by decide) (by omega) (by omega) (by omega) (by omega)
      refine At.nrm ?_
      refine At.ktext (.q 0 (.q 1 (.q 2 (.q 3 (.q 4 (.q 5 (.q 6 (.q 7 (.q 8 (.q 9 (.q 10 .done))))))))))) ?_
      refine AtT.kmove ?_
      refine AtT.kmove ?_
      first | refine AtT.ksubt ?_ | refine AtT.ksubW ?_
      refine AtT.kmove ?_
      first | refine AtT.ksubt ?_ | refine AtT.ksubW ?_
      first | refine AtT.kmul ?_ | refine AtT.kmulW ?_
      refine AtT.kmove ?_
      refine AtT.kmove ?_
      first | refine AtT.kmul ?_ | refine AtT.kmulW ?_
      first | refine AtT.kadd ?_ | refine AtT.kaddW ?_
      refine AtT.kassign ?_
      refine AtT.done ?_
      refine At.nrm ?_
      refine At.cutG (ι := (Option Addr × Nat) × (Option Addr × Nat)) (fun _ => [(15, iv n), (16, iv a), (17, iv st), (18, iv x), (19, iv y), (20, iv w), (21, iv z), (22, .pointer (some ⟨b22, 0, none⟩)), (23, iv k)])
        (fun g => [.blk b22 (LC [.slice g.1.1 (k + 1) g.1.2, .slice g.2.1 (k + 1) g.2.2] 25), .row (.slice g.1.1 (k + 1) g.1.2) 2 1 (k + 1) (flat ei ((strL n a st x y w z).pl.take (k + 1))), .row (.slice g.2.1 (k + 1) g.2.2) 69 2 (k + 1) (flat rge ((strL n a st x y w z).ed.take (k + 1)))]) (fun _ V'' => Le V' V'') ?_ ?_
      · rw [take_snoc' k1, take_snoc' k2, flat_snoc, flat_snoc]
        refine At.drawC [.blk b22 (LC [.slice ao k co, .slice ap k cp] 25)] (.q 0 (.q 1 (.q 2 (.q 3 (.q 4 (.q 5 (.q 6 (.q 9 (.q 10 (.q 11 (.q 12 (.q 13 (.q 14 (.q 15 (.q 16 (.q 17 (.q 18 (.q 19 (.q 20 (.q 21 (.q 22 (.q 23 (.q 24 (.q 25 (.n false 7 (.n false 8 (.q 29 (.n false 26 (.n false 27 (.n false 28 (.n true 30 (.q 31 (.n true 32 .done))))))))))))))))))))))))))))))))) ffm (by kernel_rfl) Pt.auto ?_
        refine AtC.pre (fun hle0 => ?_)
        refine AtC.kq (by (first | refine AtT.kfieldO fo25_0 ?_ | with_reducible refine AtT.kfield2 fo25_0 ?_ | refine AtT.kfield fo25_0 ?_); exact At.knows) ?_
        refine AtC.kq (by (first | refine AtT.kloadO tk22 ?_ | refine AtT.kload tk22 ?_); exact At.knows) ?_
        refine AtC.kq (by (refine AtT.kmove ?_); exact At.knows) ?_
        refine AtC.kq (by (refine AtT.kmove ?_); exact At.knows) ?_
        refine AtC.kq (by (refine AtT.kmove ?_); exact At.knows) ?_
        refine AtC.kq (by (first | refine AtT.kmul ?_ | refine AtT.kmulW ?_); exact At.knows) ?_
        refine AtC.kq (by (first | refine AtT.kadd ?_ | refine AtT.kaddW ?_); exact At.knows) ?_
        refine AtC.kq (by (first | refine AtT.kfieldO fo25_1 ?_ | with_reducible refine AtT.kfield2 fo25_1 ?_ | refine AtT.kfield fo25_1 ?_); exact At.knows) ?_
        refine AtC.kq (by (first | refine AtT.kloadO tk23 ?_ | refine AtT.kload tk23 ?_); exact At.knows) ?_
        refine AtC.kq (by (refine AtT.kmove ?_); exact At.knows) ?_
        refine AtC.kq (by (first | refine AtT.ksubt ?_ | refine AtT.ksubW ?_); exact At.knows) ?_
        refine AtC.kq (by (refine AtT.kmove ?_); exact At.knows) ?_
        refine AtC.kq (by (refine AtT.kmove ?_); exact At.knows) ?_
        refine AtC.kq (by (refine AtT.kmove ?_); exact At.knows) ?_
        refine AtC.kq (by (first | refine AtT.ksubt ?_ | refine AtT.ksubW ?_); exact At.knows) ?_
        refine AtC.kq (by (refine AtT.kmove ?_); exact At.knows) ?_
        refine AtC.kq (by (first | refine AtT.ksubt ?_ | refine AtT.ksubW ?_); exact At.knows) ?_
        refine AtC.kq (by (first | refine AtT.kmul ?_ | refine AtT.kmulW ?_); exact At.knows) ?_
        refine AtC.kq (by (first | refine AtT.kadd ?_ | refine AtT.kaddW ?_); exact At.knows) ?_
        refine AtC.kq (by (refine AtT.kmove ?_); exact At.knows) ?_
        refine AtC.kq (by (refine AtT.kmove ?_); exact At.knows) ?_
        refine AtC.kq (by (first | refine AtT.kmul ?_ | refine AtT.kmulW ?_); exact At.knows) ?_
        refine AtC.kq (by (first | refine AtT.kadd ?_ | refine AtT.kaddW ?_); exact At.knows) ?_
        refine AtC.kq (by (first | refine AtT.ksubt ?_ | refine AtT.ksubW ?_); exact At.knows) ?_
        refine AtC.nz ?_
        refine AtT.kbsliceG (bs22_1_0 _) ?_
        intro q73 V73 hV73 hq73
        have g73 : Le V V73 := by first | exact hV73 | exact Le.trans (by assumption) hV73
        refine AtC.kgo ?_
        refine AtC.nz ?_
        first | refine AtT.kappend Try.underlying22 rw2 ?_
        intro a74 c74
        refine AtC.kgo ?_
        refine AtC.kq (by (first | refine AtT.kfieldO fo25_0 ?_ | with_reducible refine AtT.kfield2 fo25_0 ?_ | refine AtT.kfield fo25_0 ?_); exact At.knows) ?_
        refine AtC.nz ?_
        refine AtT.kcallP rfl rfl ok49 (to49_f _ _ _) ?_
        rintro _ rfl
        refine AtC.kgo ?_
        refine AtC.nz ?_
        refine AtT.kbsliceG (bs23_1_0 _ _) ?_
        intro q93 V93 hV93 hq93
        have g93 : Le V V93 := by first | exact hV93 | exact Le.trans (by assumption) hV93
        refine AtC.kgo ?_
        refine AtC.nz ?_
        first | refine AtT.kappend Try.underlying23 rw69 ?_
        intro a94 c94
        refine AtC.kgo ?_
        refine AtC.toT ?_
        first | refine AtT.kstore1 tk22 ?_ | refine AtT.kstoreA tk22 ?_
        first | refine AtT.kfieldO fo25_1 ?_ | with_reducible refine AtT.kfield2 fo25_1 ?_ | refine AtT.kfield fo25_1 ?_
        first | refine AtT.kstore1 tk23 ?_ | refine AtT.kstoreA tk23 ?_
        refine AtT.done ?_
        refine At.nrm ?_
        all_goals (exact At.meetG ((a74, c74), (a94, c94)) (by first | exact Le.refl _ | assumption | exact Le.trans (by assumption) (by assumption)) ⟨rfl, rfl, rfl, rfl, rfl, rfl, rfl, rfl, rfl, trivial⟩ Pt.auto)
      rintro ⟨⟨a74, c74⟩, ⟨a94, c94⟩⟩ V9 ks' O' hV9 hk hO hl3
      dsimp only at hk hO
      subst hk hO
      refine At.nrm ?_
      refine At.ktext (.q 0 (.q 1 (.q 2 .done))) ?_
      refine AtT.kmove ?_
      first | refine AtT.kadd ?_ | refine AtT.kaddW ?_
      refine AtT.kassign ?_
      refine AtT.done ?_
      refine At.nrm ?_
      refine At.round (k + 1, (a74, c74), (a94, c94)) ?_ ?_ ?_ ?_
      · show n - (k + 1) < n - k; omega
      · exact ⟨hVV.trans hV9, by dsimp only; omega⟩
      · exact ⟨rfl, rfl, rfl, rfl, rfl, rfl, rfl, rfl, ivs (by dsimp only; omega), trivial⟩
      dsimp only
      · exact Pt.auto
    · obtain rfl : k = n := by omega
      have lp : (strL k a st x y w z).pl.length = k := by simp [strL]
      have le : (strL k a st x y w z).ed.length = k := by simp [strL]
      rw [List.take_of_length_le (l := (strL k a st x y w z).pl) (by omega), List.take_of_length_le (l := (strL k a st x y w z).ed) (by omega)]
      refine At.nrm ?_
      refine At.giveSl ei_len rfl lp.symm Pick.auto (fun V4 hV4 hs4 => ?_)
      refine At.giveSl rge_len rfl le.symm Pick.auto (fun V5 hV5 hs5 => ?_)
      have hvl : LogV V5 (.agg #[.slice ao k co, .slice ap k cp]) (strL k a st x y w z) := ⟨ao, co, ap, cp, by rw [lp, le], by rw [lp]; exact hs4.le hV5, by rw [le]; exact hs5⟩
      refine At.ktext (.q 0 (.n false 1 (.q 2 .done))) ?_
      first | refine AtT.kloadOA tk25 ?_ | refine AtT.kloadA tk25 ?_ | refine AtT.kloadOP tk25 ?_
      refine AtT.kcallP rfl rfl ok41 (fine_f (strL k a st x y w z) _ _ hvl) ?_
      rintro _ rfl
      refine AtT.knot ?_
      refine AtT.done ?_
      refine At.nrm ?_
      by_cases he : logE (strL k a st x y w z) = 0
      rotate_left
      · refine At.condT rfl (by rw [decide_eq_false he]; rfl) ?_
        refine At.nrm ?_
        refine At.ktext (.n false 0 (.q 1 .done)) ?_
        refine AtT.kcallP rfl rfl ok19 (works_f _) ?_
        rintro _ rfl
        refine AtT.kassign ?_
        refine AtT.done ?_
        refine At.nrm ?_
        exact At.ret1 rfl (.tmp rfl) rfl
      refine At.condF rfl (by rw [decide_eq_true he]; rfl) ?_
      have hb := str_best bn.1 bst.1 (logE_ok he)
      have mm := mul_bd (a := min w z) (b := (k : Int) - 1) (A := 100) (B := 8) (by decide) (by decide) (by omega) (by omega) (by omega) (by omega)
      refine At.nrm ?_
      refine At.ktext (.q 0 (.n false 1 (.q 2 (.q 3 (.q 4 (.n false 5 (.n true 6 (.q 7 .done)))))))) ?_
      first | refine AtT.kloadOA tk25 ?_ | refine AtT.kloadA tk25 ?_ | refine AtT.kloadOP tk25 ?_
      refine AtT.kcallP rfl rfl ok42 (best42_f (strL k a st x y w z) _ _ hvl he) ?_
      rintro _ rfl; rw [hb]
      refine AtT.kmove ?_
      refine AtT.kextract ?_
      refine AtT.kextract ?_
      refine AtT.kalloc z31 ?_
      intro b25
      refine AtT.kstoreA tk31 ?_
      refine AtT.kassign ?_
      refine AtT.done ?_
      refine At.nrm ?_
      apply At.draw0 (.q 0 (.q 1 (.q 2 (.q 3 (.q 4 (.q 5 (.q 6 (.q 7 (.q 8 (.n false 9 (.q 10 (.q 11 (.q 12 (.n false 13 (.q 14 (.q 15 .done)))))))))))))))) ffm (by kernel_rfl)
      · refine AtT.kmove ?_
        refine AtT.kmove ?_
        all_goals (first | refine AtT.kL 107 ?_ | refine AtT.pcase (d := 107) rfl (fun hg107 => ?_) (fun hg107 => ?_) | refine AtT.bcase (d := 107) rfl (fun hg107 => ?_) (fun hg107 => ?_))
        all_goals (first | refine AtT.kpass ?_ | refine AtT.kpassU ?_ | ((first | refine AtT.kloadOA tk31 ?_ | refine AtT.kloadA tk31 ?_ | refine AtT.kloadOP tk31 ?_)))
        all_goals (first | refine AtT.kpass ?_ | refine AtT.kpassU ?_ | ((refine AtT.kmove ?_)))
        all_goals (first | refine AtT.kpass ?_ | refine AtT.kpassU ?_ | ((refine AtT.kmove ?_)))
        all_goals (first | refine AtT.kpass ?_ | refine AtT.kpassU ?_ | ((refine AtT.kmin2 ?_)))
        all_goals (first | refine AtT.kpass ?_ | refine AtT.kpassU ?_ | ((refine AtT.kmove ?_)))
        all_goals (first | refine AtT.kpass ?_ | refine AtT.kpassU ?_ | ((first | refine AtT.ksubt ?_ | refine AtT.ksubW ?_)))
        all_goals (first | refine AtT.kpass ?_ | refine AtT.kpassU ?_ | ((first | refine AtT.kmul ?_ | refine AtT.kmulW ?_)))
        all_goals (first | refine AtT.kpassN ?_ | refine AtT.kpassNU ?_ | ((refine AtT.kcallP rfl rfl ok51 (by_r (min w z * ((k : Int) - 1)) 2 _ (by omega) (by omega) (by omega) (by omega)) ?_) ; (rintro _ rfl)))
        all_goals (first | refine AtT.kpass ?_ | refine AtT.kpassU ?_ | ((refine AtT.keqS (eqS31 _ _ _ _) ?_)))
        all_goals (rw [eqR])
        all_goals (refine AtT.kpick ?_)
        all_goals (refine AtT.kmove ?_)
        all_goals (first | refine AtT.kL 118 ?_ | refine AtT.pcase (d := 118) rfl (fun hg118 => ?_) (fun hg118 => ?_) | refine AtT.bcase (d := 118) rfl (fun hg118 => ?_) (fun hg118 => ?_))
        all_goals (first | refine AtT.kpassN ?_ | refine AtT.kpassNU ?_ | ((refine AtT.kcallP rfl rfl ok19 (works_f _) ?_) ; (rintro _ rfl)))
        all_goals (refine AtT.kpick ?_)
        all_goals (refine AtT.kassign ?_)
        exact AtT.done (fun a w hk hm => ⟨hk, hm⟩)
      refine At.nrm ?_
      exact At.ret1 rfl (.tmp rfl) rfl
end Go.Proofs.Ytnionkopmncopaa
