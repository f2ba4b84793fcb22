/- Texts that the last one of this claim imports. -/
import Derived.Test.YtnionkopmncopaaB5
set_option linter.unusedVariables false
set_option linter.unusedSimpArgs false
set_option linter.unusedSectionVars false
set_option linter.unusedVariables false
namespace Go.Proofs.Ytnionkopmncopaa
open Go.Lw Go.Pl Go.RowKit

theorem tmod_pos {x m : Int} (h0 : 0 ≤ x) (hm : 0 < m) : 0 ≤ x.tmod m ∧ x.tmod m < m := by
  have := tmod_lt x hm
  have := Int.tmod_nonneg m h0
  omega

theorem peelScaled_f (L : Lg) (times far : Int) (V : View) (v : Value) (hv : LogV V v L) (h1 : 0 ≤ times ∧ times ≤ 255) (h2 : 0 ≤ far ∧ far ≤ 255) :
    Fnc Try.prog 13 [v, .int .u8 times, .int .u8 far] V fun r _ => r = .bool true := by
  have hv' := hv
  obtain ⟨a, c, a', c', rfl, g2, g3⟩ := hv
  refine fn_of Try.func13 rfl Try.ntmps13 (Nat.le_of_ble_eq_true rfl) ?_
  intro w0 hw0
  refine At.nrm ?_
  refine At.ktext (.n false 0 (.q 1 .done)) ?_
  refine AtT.kbox ?_
  intro b3
  refine AtT.kassign ?_
  refine AtT.done ?_
  refine At.nrm ?_
  refine At.ktext (.q 0 (.n false 1 (.q 2 .done))) ?_
  first | refine AtT.kloadOA tk25 ?_ | refine AtT.kloadA tk25 ?_ | refine AtT.kloadOP tk25 ?_
  refine AtT.kcallP rfl rfl ok41 (fine_f L _ _ hv') ?_
  rintro _ rfl
  refine AtT.knot ?_
  refine AtT.done ?_
  refine At.nrm ?_
  by_cases he : logE L = 0
  rotate_left
  · refine At.condT rfl (by rw [decide_eq_false he]; rfl) ?_
    refine At.nrm ?_
    refine At.ktext (.n false 0 (.q 1 .done)) ?_
    refine AtT.kcallP rfl rfl ok19 (works_f _) ?_
    rintro _ rfl
    refine AtT.kassign ?_
    refine AtT.done ?_
    refine At.nrm ?_
    exact At.ret1 rfl (.tmp rfl) rfl
  refine At.condF rfl (by rw [decide_eq_true he]; rfl) ?_
  have hL := logE_ok he
  have n8 := hL.n8
  have el := hL.el
  have hb1 := tmod_pos h1.1 (m := 4) (by decide)
  have hb2 := tmod_pos h2.1 (m := 50) (by decide)
  obtain ⟨T, hT⟩ : ∃ T, T = 1 + times.tmod 4 := ⟨_, rfl⟩
  obtain ⟨M, hM⟩ : ∃ M, M = far.tmod 50 := ⟨_, rfl⟩
  have hT0 : 0 < T ∧ T ≤ 4 := by omega
  have hM0 : 0 ≤ M ∧ M < 50 := by omega
  refine At.nrm ?_
  refine At.ktext (.q 0 (.q 1 (.q 2 (.q 3 (.q 4 (.q 5 (.q 6 (.q 7 (.q 8 .done))))))))) ?_
  refine AtT.kmove ?_
  refine AtT.krem ?_
  refine AtT.kconv un5 Try.underlying2 ?_
  rw [wrap_fit (Fit.of (by omega) (by omega))]
  first | refine AtT.kadd ?_ | refine AtT.kaddW ?_
  refine AtT.kmove ?_
  refine AtT.krem ?_
  refine AtT.kconv un5 Try.underlying2 ?_
  rw [wrap_fit (Fit.of (by omega) (by omega))]
  refine AtT.kassign ?_
  refine AtT.kassign ?_
  refine AtT.done ?_
  refine At.nrm ?_
  refine At.re (d := 7) rfl (show iv (1 + times.tmod 4) = iv T from by rw [hT]) ?_
  refine At.re (d := 8) rfl (show iv (far.tmod 50) = iv M from by rw [hM]) ?_
  apply At.draw3 (.q 0 (.q 1 (.q 2 (.q 3 (.q 4 (.q 5 (.q 6 (.q 7 (.q 8 (Tr.al 3 [9, 10, 11] (.n false 12 (.n false 13 (.n false 14 .done))))))))))))) ffm (by kernel_rfl)
  · refine AtC.start ?_
    refine AtC.pre (fun hle0 => ?_)
    refine AtC.kq (by (first | refine AtT.kfieldO fo25_0 ?_ | with_reducible refine AtT.kfield2 fo25_0 ?_ | refine AtT.kfield fo25_0 ?_); exact At.knows) ?_
    refine AtC.kq (by (first | refine AtT.kloadO tk22 ?_ | refine AtT.kload tk22 ?_); exact At.knows) ?_
    refine AtC.kq (by (refine AtT.kbuild (bd25_0 _ _ _) ?_); exact At.knows) ?_
    refine AtC.kq (by (first | refine AtT.kfieldO fo25_1 ?_ | with_reducible refine AtT.kfield2 fo25_1 ?_ | refine AtT.kfield fo25_1 ?_); exact At.knows) ?_
    refine AtC.kq (by (first | refine AtT.kloadO tk23 ?_ | refine AtT.kload tk23 ?_); exact At.knows) ?_
    refine AtC.kq (by (refine AtT.kbuild (bd25_1 _ _ _) ?_); exact At.knows) ?_
    refine AtC.kq (by (first | refine AtT.kfieldO fo25_1 ?_ | with_reducible refine AtT.kfield2 fo25_1 ?_ | refine AtT.kfield fo25_1 ?_); exact At.knows) ?_
    refine AtC.kq (by (first | refine AtT.kloadO tk23 ?_ | refine AtT.kload tk23 ?_); exact At.knows) ?_
    refine AtC.kq (by (refine AtT.kbuild (bd25_1 _ _ _) ?_); exact At.knows) ?_
    refine AtC.als3 ⟨⟨_, _, _, _, rfl, z25, rfl, by decide⟩, ⟨_, _, _, _, rfl, z25, rfl, by decide⟩, ⟨_, _, _, _, rfl, z25, rfl, by decide⟩, trivial⟩ (by decide) (by decide) (AtC.sub1 Pt.auto (by first | exact Le.refl _ | assumption | exact Le.trans (by assumption) (by assumption)) (by assumption)) ?_
    intro b9 b10 b11
    refine AtC.nz ?_
    refine AtT.kstoreA tk25 ?_
    refine AtC.kgo ?_
    refine AtC.nz ?_
    refine AtT.kstoreA tk25 ?_
    refine AtC.kgo ?_
    refine AtC.nz ?_
    refine AtT.kstoreA tk25 ?_
    refine AtC.kgo ?_
    exact AtC.done (fun a w hk hm => ⟨b9, b10, b11, hk, hm⟩)
  intro b9 b10 b11
  refine At.nrm ?_
  refine At.ktext (.q 0 .done) ?_
  refine AtT.kassign ?_
  refine AtT.done ?_
  refine At.nrm ?_
  refine At.newRow 69 2 ?_
  refine At.newRow 2 1 ?_
  refine At.newRow 2 1 ?_
  refine At.lp (ι := Nat × (Option Addr × Nat) × (Option Addr × Nat) × (Option Addr × Nat)) (KS := fun g => [(3, .pointer (some ⟨b3, 0, none⟩)), (7, iv T), (8, iv M), (9, .pointer (some ⟨b9, 0, none⟩)), (10, .pointer (some ⟨b10, 0, none⟩)), (11, .pointer (some ⟨b11, 0, none⟩)), (12, iv g.1)])
    (OS := fun g => [.blk b3 (LC [.slice a L.pl.length c, .slice a' L.ed.length c'] 25), .blk b9 (LC [.slice a L.pl.length c, .slice g.2.1.1 g.1 g.2.1.2] 25), .blk b10 (LC [.slice g.2.2.1.1 g.1 g.2.2.1.2, .slice a' L.ed.length c'] 25), .blk b11 (LC [.slice g.2.2.2.1 g.1 g.2.2.2.2, .slice a' L.ed.length c'] 25),
      .row (.slice g.2.1.1 g.1 g.2.1.2) 69 2 g.1 (flat rge ((sclE L T).ed.take g.1)), .row (.slice g.2.2.1.1 g.1 g.2.2.1.2) 2 1 g.1 (flat ei ((farP L M).pl.take g.1)), .row (.slice g.2.2.2.1 g.1 g.2.2.2.2) 2 1 g.1 (flat ei ((sclP L T).pl.take g.1))])
    (VS := fun g V' => Le V V' ∧ g.1 ≤ L.pl.length) (μ := fun g => L.pl.length - g.1) (0, (none, 0), (none, 0), (none, 0)) ?_ ?_ ?_ ?_
  · exact ⟨rfl, rfl, rfl, rfl, rfl, rfl, rfl, trivial⟩
  · exact Pt.auto
  · exact ⟨Le.refl _, Nat.zero_le _⟩
  · rintro ⟨k, ⟨ao, co⟩, ⟨ap, cp⟩, ⟨aq, cq⟩⟩ V' ks' O' ⟨hVV, hkl⟩ hk hO hl2
    dsimp only at hkl hk hO
    subst hk hO
    have g2' := g2.le hVV
    have g3' := g3.le hVV
    refine At.nrm ?_
    refine At.ktext (.q 0 (.q 1 (.q 2 (.q 3 (.q 4 .done))))) ?_
    refine AtT.kmove ?_
    first | refine AtT.kfieldO fo25_0 ?_ | with_reducible refine AtT.kfield2 fo25_0 ?_ | refine AtT.kfield fo25_0 ?_
    first | refine AtT.kloadO tk22 ?_ | refine AtT.kload tk22 ?_
    first | refine AtT.klenS Try.underlying22 ?_ | refine AtT.klenR Try.underlying22 ?_
    refine AtT.klss ?_
    refine AtT.done ?_
    refine At.nrm ?_
    refine At.condP rfl (fun hb => ?_) (fun hb => ?_)
    · have hkn : k < L.pl.length := by omega
      have pb := hL.plB (i := (k : Int)) (by omega) (by omega)
      have eb := hL.edB (i := (k : Int)) (by omega) (by omega)
      have k1 : (sclE L T).ed[k]? = some (sclR T (edP L k)) := by simp only [sclE, List.getElem?_map, edP_at (L := L) (i := k) (by omega)]; rfl
      have k2 : (farP L M).pl[k]? = some (plP L k + M) := by simp only [farP, List.getElem?_map, plP_at hkn]; rfl
      have k3 : (sclP L T).pl[k]? = some (T * plP L k) := by simp only [sclP, List.getElem?_map, plP_at hkn]; rfl
      have m1 := mul_bd (a := T) (b := (edP L k).lo) (A := 4) (B := 1000) (by decide) (by decide) (by omega) (by omega) (by omega) (by omega)
      have m2 := mul_bd (a := T) (b := (edP L k).hi) (A := 4) (B := 1000) (by decide) (by decide) (by omega) (by omega) (by omega) (by omega)
      have m3 := mul_bd (a := T) (b := plP L k) (A := 4) (B := 100) (by decide) (by decide) (by omega) (by omega) (by omega) (by omega)
      refine At.nrm ?_
      refine At.draw (.q 0 (.q 1 (.q 2 (.q 3 (.q 4 (.q 5 (.q 6 (.q 7 (.q 8 (.q 9 (.q 10 (.q 11 (.q 12 (.q 13 (.q 14 (.q 15 (.q 16 (.q 17 (.n false 18 (.n false 19 (.n true 20 (.q 21 (.n true 22 .done))))))))))))))))))))))) ffm (by kernel_rfl) ?_
      first | refine AtT.kfieldO fo25_1 ?_ | with_reducible refine AtT.kfield2 fo25_1 ?_ | refine AtT.kfield fo25_1 ?_
      first | refine AtT.kloadO tk23 ?_ | refine AtT.kload tk23 ?_
      refine AtT.kmove ?_
      first | refine AtT.kfieldO fo25_1 ?_ | with_reducible refine AtT.kfield2 fo25_1 ?_ | refine AtT.kfield fo25_1 ?_
      first | refine AtT.kloadO tk23 ?_ | refine AtT.kload tk23 ?_
      refine AtT.kmove ?_
      refine AtT.kidx Try.underlying23 tk69 ?_
      intro p53 e53 he53 hc53
      obtain rfl : e53 = edP L k := edP_some he53
      first | refine AtT.kfieldO fo69_0 ?_ | with_reducible refine AtT.kfield2 fo69_0 ?_ | refine AtT.kfield fo69_0 ?_
      first | refine AtT.kloadO tk2 ?_ | refine AtT.kload tk2 ?_
      first | refine AtT.kmul ?_ | refine AtT.kmulW ?_
      refine AtT.kmove ?_
      first | refine AtT.kfieldO fo25_1 ?_ | with_reducible refine AtT.kfield2 fo25_1 ?_ | refine AtT.kfield fo25_1 ?_
      first | refine AtT.kloadO tk23 ?_ | refine AtT.kload tk23 ?_
      refine AtT.kmove ?_
      refine AtT.kidx Try.underlying23 tk69 ?_
      intro p61 e61 he61 hc61
      obtain rfl : e61 = edP L k := edP_some he61
      first | refine AtT.kfieldO fo69_1 ?_ | with_reducible refine AtT.kfield2 fo69_1 ?_ | refine AtT.kfield fo69_1 ?_
      first | refine AtT.kloadO tk2 ?_ | refine AtT.kload tk2 ?_
      first | refine AtT.kmul ?_ | refine AtT.kmulW ?_
      refine AtT.kcallP rfl rfl ok49 (to49_f _ _ _) ?_
      rintro _ rfl
      refine AtT.kbsliceG (bs23_1_0 _ _) ?_
      intro q66 V66 hV66 hq66
      have g66 : Le V V66 := by first | exact hV66 | exact Le.trans (by assumption) hV66
      first | refine AtT.kappend Try.underlying23 rw69 ?_
      intro a67 c67
      first | refine AtT.kfieldO fo25_1 ?_ | with_reducible refine AtT.kfield2 fo25_1 ?_ | refine AtT.kfield fo25_1 ?_
      first | refine AtT.kstore1 tk23 ?_ | refine AtT.kstoreA tk23 ?_
      refine AtT.done ?_
      refine At.nrm ?_
      have g2'' := g2'.le hV66
      refine At.cutG (ι := (Option Addr × Nat) × (Option Addr × Nat)) (fun _ => [(3, .pointer (some ⟨b3, 0, none⟩)), (7, iv T), (8, iv M), (9, .pointer (some ⟨b9, 0, none⟩)), (10, .pointer (some ⟨b10, 0, none⟩)), (11, .pointer (some ⟨b11, 0, none⟩)), (12, iv k)])
        (fun g => [.blk b3 (LC [.slice a L.pl.length c, .slice a' L.ed.length c'] 25), .blk b9 (LC [.slice a L.pl.length c, .slice a67 (k + 1) c67] 25), .blk b10 (LC [.slice g.1.1 (k + 1) g.1.2, .slice a' L.ed.length c'] 25), .blk b11 (LC [.slice g.2.1 (k + 1) g.2.2, .slice a' L.ed.length c'] 25),
          .row (.slice a67 (k + 1) c67) 69 2 (k + 1) (flat rge ((sclE L T).ed.take (k + 1))), .row (.slice g.1.1 (k + 1) g.1.2) 2 1 (k + 1) (flat ei ((farP L M).pl.take (k + 1))), .row (.slice g.2.1 (k + 1) g.2.2) 2 1 (k + 1) (flat ei ((sclP L T).pl.take (k + 1)))]) (fun _ V'' => Le V66 V'') ?_ ?_
      · rw [take_snoc' k1, take_snoc' k2, take_snoc' k3, flat_snoc, flat_snoc, flat_snoc]
        refine At.drawC [.blk b3 (LC [.slice a L.pl.length c, .slice a' L.ed.length c'] 25), .blk b10 (LC [.slice ap k cp, .slice a' L.ed.length c'] 25), .blk b11 (LC [.slice aq k cq, .slice a' L.ed.length c'] 25)] (.q 0 (.q 1 (.q 2 (.q 3 (.q 4 (.q 5 (.q 6 (.q 7 (.q 8 (.q 11 (.q 12 (.q 13 (.q 14 (.q 15 (.q 16 (.q 17 (.q 18 (.q 19 (.two 9 (.two 10 (.q 22 (.n false 20 (.n false 21 (.n true 23 (.q 24 (.n true 25 .done)))))) 20 (.n false 10 (.q 22 (.n false 21 (.n true 23 (.q 24 (.n true 25 .done))))))) 20 (.n false 9 (.n false 10 (.q 22 (.n false 21 (.n true 23 (.q 24 (.n true 25 .done)))))))))))))))))))))))))) ffm (by kernel_rfl) Pt.auto ?_
        refine AtC.pre (fun hle0 => ?_)
        refine AtC.kq (by (first | refine AtT.kfieldO fo25_0 ?_ | with_reducible refine AtT.kfield2 fo25_0 ?_ | refine AtT.kfield fo25_0 ?_); exact At.knows) ?_
        refine AtC.kq (by (first | refine AtT.kloadO tk22 ?_ | refine AtT.kload tk22 ?_); exact At.knows) ?_
        refine AtC.kq (by (first | refine AtT.kfieldO fo25_0 ?_ | with_reducible refine AtT.kfield2 fo25_0 ?_ | refine AtT.kfield fo25_0 ?_); exact At.knows) ?_
        refine AtC.kq (by (first | refine AtT.kloadO tk22 ?_ | refine AtT.kload tk22 ?_); exact At.knows) ?_
        refine AtC.kq (by (refine AtT.kmove ?_); exact At.knows) ?_
        refine AtC.kidx Try.underlying22 tk2 ?_
        intro p74 e74 he74 hc74
        obtain rfl : e74 = plP L k := plP_some he74
        refine AtC.kq (by (first | refine AtT.kloadO tk2 ?_ | refine AtT.kload tk2 ?_); exact At.knows) ?_
        refine AtC.kq (by (refine AtT.kmove ?_); exact At.knows) ?_
        refine AtC.kq (by (first | refine AtT.kadd ?_ | refine AtT.kaddW ?_); exact At.knows) ?_
        refine AtC.kq (by (first | refine AtT.kfieldO fo25_0 ?_ | with_reducible refine AtT.kfield2 fo25_0 ?_ | refine AtT.kfield fo25_0 ?_); exact At.knows) ?_
        refine AtC.kq (by (first | refine AtT.kloadO tk22 ?_ | refine AtT.kload tk22 ?_); exact At.knows) ?_
        refine AtC.kq (by (refine AtT.kmove ?_); exact At.knows) ?_
        refine AtC.kq (by (first | refine AtT.kfieldO fo25_0 ?_ | with_reducible refine AtT.kfield2 fo25_0 ?_ | refine AtT.kfield fo25_0 ?_); exact At.knows) ?_
        refine AtC.kq (by (first | refine AtT.kloadO tk22 ?_ | refine AtT.kload tk22 ?_); exact At.knows) ?_
        refine AtC.kq (by (refine AtT.kmove ?_); exact At.knows) ?_
        refine AtC.kidx Try.underlying22 tk2 ?_
        intro p86 e86 he86 hc86
        obtain rfl : e86 = plP L k := plP_some he86
        refine AtC.kq (by (first | refine AtT.kloadO tk2 ?_ | refine AtT.kload tk2 ?_); exact At.knows) ?_
        refine AtC.kq (by (first | refine AtT.kmul ?_ | refine AtT.kmulW ?_); exact At.knows) ?_
        refine AtC.two ?_ ?_
        focus
          refine AtC.nz ?_
          refine AtT.kbsliceG (bs22_1_0 _) ?_
          intro q78 V78 hV78 hq78
          have g78 : Le V V78 := by first | exact hV78 | exact Le.trans (by assumption) hV78
          refine AtC.kgo ?_
          refine AtC.two ?_ ?_
          focus
            refine AtC.nz ?_
            first | refine AtT.kappend Try.underlying22 rw2 ?_
            intro a79 c79
            refine AtC.kgo ?_
            refine AtC.kq (by (first | refine AtT.kfieldO fo25_0 ?_ | with_reducible refine AtT.kfield2 fo25_0 ?_ | refine AtT.kfield fo25_0 ?_); exact At.knows) ?_
            refine AtC.nz ?_
            refine AtT.kbsliceG (bs22_1_0 _) ?_
            intro q89 V89 hV89 hq89
            have g89 : Le V V89 := by first | exact hV89 | exact Le.trans (by assumption) hV89
            refine AtC.kgo ?_
            refine AtC.nz ?_
            first | refine AtT.kappend Try.underlying22 rw2 ?_
            intro a90 c90
            refine AtC.kgo ?_
            refine AtC.toT ?_
            first | refine AtT.kstore1 tk22 ?_ | refine AtT.kstoreA tk22 ?_
            first | refine AtT.kfieldO fo25_0 ?_ | with_reducible refine AtT.kfield2 fo25_0 ?_ | refine AtT.kfield fo25_0 ?_
            first | refine AtT.kstore1 tk22 ?_ | refine AtT.kstoreA tk22 ?_
            refine AtT.done ?_
          rotate_right
          focus
            refine AtC.nz ?_
            refine AtT.kbsliceG (bs22_1_0 _) ?_
            intro q89 V89 hV89 hq89
            have g89 : Le V V89 := by first | exact hV89 | exact Le.trans (by assumption) hV89
            refine AtC.kgo ?_
            refine AtC.nz ?_
            first | refine AtT.kappend Try.underlying22 rw2 ?_
            intro a79 c79
            refine AtC.kgo ?_
            refine AtC.kq (by (first | refine AtT.kfieldO fo25_0 ?_ | with_reducible refine AtT.kfield2 fo25_0 ?_ | refine AtT.kfield fo25_0 ?_); exact At.knows) ?_
            refine AtC.nz ?_
            first | refine AtT.kappend Try.underlying22 rw2 ?_
            intro a90 c90
            refine AtC.kgo ?_
            refine AtC.toT ?_
            first | refine AtT.kstore1 tk22 ?_ | refine AtT.kstoreA tk22 ?_
            first | refine AtT.kfieldO fo25_0 ?_ | with_reducible refine AtT.kfield2 fo25_0 ?_ | refine AtT.kfield fo25_0 ?_
            first | refine AtT.kstore1 tk22 ?_ | refine AtT.kstoreA tk22 ?_
            refine AtT.done ?_
        rotate_right
        focus
          refine AtC.nz ?_
          refine AtT.kbsliceG (bs22_1_0 _) ?_
          intro q89 V89 hV89 hq89
          have g89 : Le V V89 := by first | exact hV89 | exact Le.trans (by assumption) hV89
          refine AtC.kgo ?_
          refine AtC.nz ?_
          refine AtT.kbsliceG (bs22_1_0 _) ?_
          intro q78 V78 hV78 hq78
          have g78 : Le V V78 := by first | exact hV78 | exact Le.trans (by assumption) hV78
          refine AtC.kgo ?_
          refine AtC.nz ?_
          first | refine AtT.kappend Try.underlying22 rw2 ?_
          intro a79 c79
          refine AtC.kgo ?_
          refine AtC.kq (by (first | refine AtT.kfieldO fo25_0 ?_ | with_reducible refine AtT.kfield2 fo25_0 ?_ | refine AtT.kfield fo25_0 ?_); exact At.knows) ?_
          refine AtC.nz ?_
          first | refine AtT.kappend Try.underlying22 rw2 ?_
          intro a90 c90
          refine AtC.kgo ?_
          refine AtC.toT ?_
          first | refine AtT.kstore1 tk22 ?_ | refine AtT.kstoreA tk22 ?_
          first | refine AtT.kfieldO fo25_0 ?_ | with_reducible refine AtT.kfield2 fo25_0 ?_ | refine AtT.kfield fo25_0 ?_
          first | refine AtT.kstore1 tk22 ?_ | refine AtT.kstoreA tk22 ?_
          refine AtT.done ?_
        all_goals (refine At.nrm ?_)
        all_goals (exact At.meetG ((a79, c79), (a90, c90)) (by first | exact Le.refl _ | assumption | exact Le.trans (by assumption) (by assumption)) ⟨rfl, rfl, rfl, rfl, rfl, rfl, rfl, trivial⟩ Pt.auto)
      rintro ⟨⟨a79, c79⟩, ⟨a90, c90⟩⟩ V9 ks' O' hV9 hk hO hl3
      dsimp only at hk hO
      subst hk hO
      refine At.nrm ?_
      refine At.ktext (.q 0 (.q 1 (.q 2 .done))) ?_
      refine AtT.kmove ?_
      first | refine AtT.kadd ?_ | refine AtT.kaddW ?_
      refine AtT.kassign ?_
      refine AtT.done ?_
      refine At.nrm ?_
      refine At.round (k + 1, (a67, c67), (a79, c79), (a90, c90)) ?_ ?_ ?_ ?_
      · show L.pl.length - (k + 1) < L.pl.length - k; omega
      · exact ⟨(hVV.trans hV66).trans hV9, by dsimp only; omega⟩
      · exact ⟨rfl, rfl, rfl, rfl, rfl, rfl, ivs (by dsimp only; omega), trivial⟩
      dsimp only
      · exact Pt.auto
    · obtain rfl : k = L.pl.length := by omega
      have lx : (sclE L T).ed.length = L.pl.length := by simp [sclE, el]
      have ly : (farP L M).pl.length = L.pl.length := by simp [farP]
      have lz : (sclP L T).pl.length = L.pl.length := by simp [sclP]
      rw [show (sclE L T).ed.take L.pl.length = (sclE L T).ed from by rw [← lx, List.take_length], show (farP L M).pl.take L.pl.length = (farP L M).pl from by rw [← ly, List.take_length], show (sclP L T).pl.take L.pl.length = (sclP L T).pl from by rw [← lz, List.take_length]]
      refine At.nrm ?_
      refine At.giveSl rge_len rfl lx.symm Pick.auto (fun V4 hV4 hs4 => ?_)
      refine At.giveSl ei_len rfl ly.symm Pick.auto (fun V5 hV5 hs5 => ?_)
      refine At.giveSl ei_len rfl lz.symm Pick.auto (fun V6 hV6 hs6 => ?_)
      have hle := ((hVV.trans hV4).trans hV5).trans hV6
      have hvl : LogV V6 (.agg #[.slice a L.pl.length c, .slice a' L.ed.length c']) L := ⟨_, _, _, _, rfl, g2.le hle, g3.le hle⟩
      have hvx : LogV V6 (.agg #[.slice a L.pl.length c, .slice ao L.pl.length co]) (sclE L T) := ⟨a, c, ao, co, by rw [lx]; rfl, g2.le hle, by rw [lx]; exact (hs4.le hV5).le hV6⟩
      have hvy : LogV V6 (.agg #[.slice ap L.pl.length cp, .slice a' L.ed.length c']) (farP L M) := ⟨ap, cp, a', c', by rw [ly]; rfl, by rw [ly]; exact hs5.le hV6, g3.le hle⟩
      have hvz : LogV V6 (.agg #[.slice aq L.pl.length cq, .slice a' L.ed.length c']) (sclP L T) := ⟨aq, cq, a', c', by rw [lz]; rfl, by rw [lz]; exact hs6, g3.le hle⟩
      have hbs := best_sm hL
      have bp := hbs.can.pos
      have bd := hbs.d
      have bl := hbs.lo
      have bh := hbs.hi
      have mt := mul_bd (a := T) (b := (bestV L).num) (A := 4) (B := 600000) (by decide) (by decide) (by omega) (by omega) (by omega) (by omega)
      refine At.ktext (.q 0 (.n false 1 (.q 2 (.q 3 (.q 4 (.n false 5 (.n true 6 (.q 7 .done)))))))) ?_
      first | refine AtT.kloadOA tk25 ?_ | refine AtT.kloadA tk25 ?_ | refine AtT.kloadOP tk25 ?_
      refine AtT.kcallP rfl rfl ok42 (best42_f L _ _ hvl he) ?_
      rintro _ rfl
      refine AtT.kmove ?_
      refine AtT.kextract ?_
      refine AtT.kextract ?_
      refine AtT.kalloc z31 ?_
      intro b13
      refine AtT.kstoreA tk31 ?_
      refine AtT.kassign ?_
      refine AtT.done ?_
      refine At.nrm ?_
      refine At.ktext (.q 0 (.q 1 .done)) ?_
      refine AtT.kmove ?_
      refine AtT.knot ?_
      refine AtT.done ?_
      refine At.nrm ?_
      refine At.condF rfl rfl ?_
      refine At.nrm ?_
      refine At.ktext (.q 0 (.n false 1 .done)) ?_
      first | refine AtT.kloadOA tk25 ?_ | refine AtT.kloadA tk25 ?_ | refine AtT.kloadOP tk25 ?_
      refine AtT.kcallP rfl rfl ok41 (fine_f (sclE L T) _ _ hvx) ?_
      rintro _ rfl
      refine AtT.done ?_
      refine At.nrm ?_
      refine At.cutG (ι := Unit) (fun _ => [(10, .pointer (some ⟨b10, 0, none⟩)), (11, .pointer (some ⟨b11, 0, none⟩)), (13, .pointer (some ⟨b13, 0, none⟩))])
        (fun _ => [.blk b10 (LC [.slice ap L.pl.length cp, .slice a' L.ed.length c'] 25), .blk b11 (LC [.slice aq L.pl.length cq, .slice a' L.ed.length c'] 25), .blk b13 (LC (rte (bestV L)) 31)]) (fun _ V' => V6 = V') ?_ ?_
      · refine At.condP rfl (fun hx => ?_) (fun hx => ?_)
        · have hbx := sclE_best hL hT0.1 (logE_ok hx)
          refine At.nrm ?_
          refine At.ktext (.q 0 (.n false 1 (.q 2 (.q 3 (.q 4 (.n false 5 (.n true 6 (.q 7 .done)))))))) ?_
          first | refine AtT.kloadOA tk25 ?_ | refine AtT.kloadA tk25 ?_ | refine AtT.kloadOP tk25 ?_
          refine AtT.kcallP rfl rfl ok42 (best42_f (sclE L T) _ _ hvx hx) ?_
          rintro _ rfl; rw [hbx]
          refine AtT.kmove ?_
          refine AtT.kextract ?_
          refine AtT.kextract ?_
          refine AtT.kalloc z31 ?_
          intro b15
          refine AtT.kstoreA tk31 ?_
          refine AtT.kassign ?_
          refine AtT.done ?_
          refine At.nrm ?_
          apply At.draw0 (.q 0 (.q 1 (.q 2 (.q 3 (.q 4 (.q 5 (.q 6 (.q 7 (.q 8 (.q 9 (.n false 10 (.q 11 (.q 12 .done))))))))))))) ffm (by kernel_rfl)
          · refine AtT.kmove ?_
            refine AtT.knot ?_
            refine AtT.kmove ?_
            all_goals (first | refine AtT.kL 109 ?_ | refine AtT.pcase (d := 109) rfl (fun hg109 => ?_) (fun hg109 => ?_) | refine AtT.bcase (d := 109) rfl (fun hg109 => ?_) (fun hg109 => ?_))
            all_goals (first | refine AtT.kpass ?_ | refine AtT.kpassU ?_ | ((first | refine AtT.kloadOA tk31 ?_ | refine AtT.kloadA tk31 ?_ | refine AtT.kloadOP tk31 ?_)))
            all_goals (first | refine AtT.kpass ?_ | refine AtT.kpassU ?_ | ((refine AtT.kmove ?_)))
            all_goals (first | refine AtT.kpass ?_ | refine AtT.kpassU ?_ | ((first | refine AtT.kfieldO fo31_0 ?_ | with_reducible refine AtT.kfield2 fo31_0 ?_ | refine AtT.kfield fo31_0 ?_)))
            all_goals (first | refine AtT.kpass ?_ | refine AtT.kpassU ?_ | ((first | refine AtT.kloadO tk2 ?_ | refine AtT.kload tk2 ?_)))
            all_goals (first | refine AtT.kpass ?_ | refine AtT.kpassU ?_ | ((first | refine AtT.kmul ?_ | refine AtT.kmulW ?_)))
            all_goals (first | refine AtT.kpass ?_ | refine AtT.kpassU ?_ | ((first | refine AtT.kfieldO fo31_1 ?_ | with_reducible refine AtT.kfield2 fo31_1 ?_ | refine AtT.kfield fo31_1 ?_)))
            all_goals (first | refine AtT.kpass ?_ | refine AtT.kpassU ?_ | ((first | refine AtT.kloadO tk2 ?_ | refine AtT.kload tk2 ?_)))
            all_goals (first | refine AtT.kpassN ?_ | refine AtT.kpassNU ?_ | ((refine AtT.kcallP rfl rfl ok51 (by_r (T * (bestV L).num) (bestV L).den _ (by omega) (by omega) bp (by omega)) ?_) ; (rintro _ rfl)))
            all_goals (first | refine AtT.kpass ?_ | refine AtT.kpassU ?_ | ((refine AtT.kneS (eqS31 _ _ _ _) ?_)))
            all_goals (rw [neR])
            all_goals (refine AtT.kpick ?_)
            exact AtT.done (fun a w hk hm => ⟨hk, hm⟩)
          refine At.nrm ?_
          refine At.condF rfl rfl ?_
          refine At.nrm ?_
          exact At.meetG () rfl ⟨rfl, rfl, rfl, trivial⟩ Pt.auto
        · refine At.nrm ?_
          exact At.meetG () rfl ⟨rfl, rfl, rfl, trivial⟩ Pt.auto
      rintro _ V' ks' O' rfl hk hO hl3
      subst hk hO
      refine At.nrm ?_
      refine At.ktext (.q 0 (.n false 1 .done)) ?_
      first | refine AtT.kloadOA tk25 ?_ | refine AtT.kloadA tk25 ?_ | refine AtT.kloadOP tk25 ?_
      refine AtT.kcallP rfl rfl ok41 (fine_f (farP L M) _ _ hvy) ?_
      rintro _ rfl
      refine AtT.done ?_
      refine At.nrm ?_
      refine At.cutG (ι := Unit) (fun _ => [(11, .pointer (some ⟨b11, 0, none⟩)), (13, .pointer (some ⟨b13, 0, none⟩))])
        (fun _ => [.blk b11 (LC [.slice aq L.pl.length cq, .slice a' L.ed.length c'] 25), .blk b13 (LC (rte (bestV L)) 31)]) (fun _ V' => V6 = V') ?_ ?_
      · refine At.condP rfl (fun hx => ?_) (fun hx => ?_)
        · have hbx := (farP_best hL M (logE_ok hx)).symm
          refine At.nrm ?_
          refine At.ktext (.q 0 (.n false 1 (.q 2 (.q 3 (.q 4 (.n false 5 (.n true 6 (.q 7 .done)))))))) ?_
          first | refine AtT.kloadOA tk25 ?_ | refine AtT.kloadA tk25 ?_ | refine AtT.kloadOP tk25 ?_
          refine AtT.kcallP rfl rfl ok42 (best42_f (farP L M) _ _ hvy hx) ?_
          rintro _ rfl; rw [hbx]
          refine AtT.kmove ?_
          refine AtT.kextract ?_
          refine AtT.kextract ?_
          refine AtT.kalloc z31 ?_
          intro b17
          refine AtT.kstoreA tk31 ?_
          refine AtT.kassign ?_
          refine AtT.done ?_
          refine At.nrm ?_
          refine At.ktext (.q 0 (.q 1 (.q 2 (.q 3 (.q 4 (.q 5 (.q 6 .done))))))) ?_
          refine AtT.kmove ?_
          refine AtT.knot ?_
          refine AtT.kmove ?_
          all_goals (first | refine AtT.kL 129 ?_ | refine AtT.pcase (d := 129) rfl (fun hg129 => ?_) (fun hg129 => ?_) | refine AtT.bcase (d := 129) rfl (fun hg129 => ?_) (fun hg129 => ?_))
          all_goals (first | refine AtT.kpass ?_ | refine AtT.kpassU ?_ | ((first | refine AtT.kloadOA tk31 ?_ | refine AtT.kloadA tk31 ?_ | refine AtT.kloadOP tk31 ?_)))
          all_goals (first | refine AtT.kpass ?_ | refine AtT.kpassU ?_ | ((first | refine AtT.kloadOA tk31 ?_ | refine AtT.kloadA tk31 ?_ | refine AtT.kloadOP tk31 ?_)))
          all_goals (first | refine AtT.kpass ?_ | refine AtT.kpassU ?_ | ((refine AtT.kneS (eqS31 _ _ _ _) ?_)))
          all_goals (rw [neR])
          all_goals (refine AtT.kpick ?_)
          all_goals refine AtT.done ?_
          all_goals (refine At.nrm ?_)
          refine At.condF rfl rfl ?_
          refine At.nrm ?_
          exact At.meetG () rfl ⟨rfl, rfl, trivial⟩ Pt.auto
        · refine At.nrm ?_
          exact At.meetG () rfl ⟨rfl, rfl, trivial⟩ Pt.auto
      rintro _ V' ks' O' rfl hk hO hl4
      subst hk hO
      refine At.nrm ?_
      refine At.ktext (.q 0 (.n false 1 (.q 2 .done))) ?_
      first | refine AtT.kloadOA tk25 ?_ | refine AtT.kloadA tk25 ?_ | refine AtT.kloadOP tk25 ?_
      refine AtT.kcallP rfl rfl ok41 (fine_f (sclP L T) _ _ hvz) ?_
      rintro _ rfl
      refine AtT.knot ?_
      refine AtT.done ?_
      refine At.nrm ?_
      by_cases hx : logE (sclP L T) = 0
      rotate_left
      · refine At.condT rfl (by rw [decide_eq_false hx]; rfl) ?_
        refine At.nrm ?_
        refine At.ktext (.n false 0 (.q 1 .done)) ?_
        refine AtT.kcallP rfl rfl ok19 (works_f _) ?_
        rintro _ rfl
        refine AtT.kassign ?_
        refine AtT.done ?_
        refine At.nrm ?_
        exact At.ret1 rfl (.tmp rfl) rfl
      refine At.condF rfl (by rw [decide_eq_true hx]; rfl) ?_
      have hbx := (sclP_best hL hT0.1 (logE_ok hx)).symm
      refine At.nrm ?_
      refine At.ktext (.q 0 (.n false 1 (.q 2 (.q 3 (.q 4 (.n false 5 (.n true 6 (.q 7 .done)))))))) ?_
      first | refine AtT.kloadOA tk25 ?_ | refine AtT.kloadA tk25 ?_ | refine AtT.kloadOP tk25 ?_
      refine AtT.kcallP rfl rfl ok42 (best42_f (sclP L T) _ _ hvz hx) ?_
      rintro _ rfl; rw [hbx]
      refine AtT.kmove ?_
      refine AtT.kextract ?_
      refine AtT.kextract ?_
      refine AtT.kalloc z31 ?_
      intro b19
      refine AtT.kstoreA tk31 ?_
      refine AtT.kassign ?_
      refine AtT.done ?_
      refine At.nrm ?_
      refine At.ktext (.q 0 (.q 1 (.q 2 (.q 3 (.q 4 (.q 5 (.q 6 (.n false 7 (.q 8 (.q 9 .done)))))))))) ?_
      refine AtT.kmove ?_
      refine AtT.kmove ?_
      all_goals (first | refine AtT.kL 144 ?_ | refine AtT.pcase (d := 144) rfl (fun hg144 => ?_) (fun hg144 => ?_) | refine AtT.bcase (d := 144) rfl (fun hg144 => ?_) (fun hg144 => ?_))
      all_goals (first | refine AtT.kpass ?_ | refine AtT.kpassU ?_ | ((first | refine AtT.kloadOA tk31 ?_ | refine AtT.kloadA tk31 ?_ | refine AtT.kloadOP tk31 ?_)))
      all_goals (first | refine AtT.kpass ?_ | refine AtT.kpassU ?_ | ((first | refine AtT.kloadOA tk31 ?_ | refine AtT.kloadA tk31 ?_ | refine AtT.kloadOP tk31 ?_)))
      all_goals (first | refine AtT.kpass ?_ | refine AtT.kpassU ?_ | ((refine AtT.keqS (eqS31 _ _ _ _) ?_)))
      all_goals (rw [eqR])
      all_goals (refine AtT.kpick ?_)
      all_goals (refine AtT.kmove ?_)
      all_goals (first | refine AtT.kL 149 ?_ | refine AtT.pcase (d := 149) rfl (fun hg149 => ?_) (fun hg149 => ?_) | refine AtT.bcase (d := 149) rfl (fun hg149 => ?_) (fun hg149 => ?_))
      all_goals (first | refine AtT.kpassN ?_ | refine AtT.kpassNU ?_ | ((refine AtT.kcallP rfl rfl ok19 (works_f _) ?_) ; (rintro _ rfl)))
      all_goals (refine AtT.kpick ?_)
      all_goals (refine AtT.kassign ?_)
      all_goals refine AtT.done ?_
      all_goals (refine At.nrm ?_)
      exact At.ret1 rfl (.tmp rfl) rfl
end Go.Proofs.Ytnionkopmncopaa
set_option linter.unusedVariables false
namespace Go.Proofs.Ytnionkopmncopaa
open Go.Lw Go.Pl Go.RowKit

theorem erase_snoc {α : Type} {l : List α} {k I : Nat} {x : α} (h : l[k]? = some x) (hne : k ≠ I) : (l.take (k + 1)).eraseIdx I = (l.take k).eraseIdx I ++ [x] := by
  have hk := (List.getElem?_eq_some_iff.1 h).1
  have hl : (l.take k).length = k := by simp; omega
  rw [take_snoc' h]
  by_cases c : I < k
  · rw [List.eraseIdx_append_of_lt_length (by omega)]
  · rw [List.eraseIdx_append_of_length_le (by omega), hl, List.eraseIdx_of_length_le (k := I) (l := l.take k) (by omega)]
    rw [List.eraseIdx_of_length_le (by simp; omega)]
theorem erase_same {α : Type} {l : List α} {I : Nat} {x : α} (h : l[I]? = some x) : (l.take (I + 1)).eraseIdx I = (l.take I).eraseIdx I := by
  have hk := (List.getElem?_eq_some_iff.1 h).1
  have hl : (l.take I).length = I := by simp; omega
  rw [take_snoc' h, List.eraseIdx_append_of_length_le (by omega), hl, List.eraseIdx_of_length_le (k := I) (l := l.take I) (by omega), Nat.sub_self]
  simp
theorem erase_len {α β : Type} {l : List α} {m : List β} (h : m.length = l.length) (k I : Nat) : ((m.take k).eraseIdx I).length = ((l.take k).eraseIdx I).length := by
  simp [List.length_eraseIdx, h]

theorem peelMore_f (L : Lg) (which wider : Int) (V : View) (v : Value) (hv : LogV V v L) (h1 : 0 ≤ which ∧ which ≤ 255) (h2 : 0 ≤ wider ∧ wider ≤ 255) :
    Fnc Try.prog 14 [v, .int .u8 which, .int .u8 wider] V fun r _ => r = .bool true := by
  have hv' := hv
  obtain ⟨a, c, a', c', rfl, g2, g3⟩ := hv
  refine fn_of Try.func14 rfl Try.ntmps14 (Nat.le_of_ble_eq_true rfl) ?_
  intro w0 hw0
  refine At.nrm ?_
  refine At.ktext (.n false 0 (.q 1 .done)) ?_
  refine AtT.kbox ?_
  intro b3
  refine AtT.kassign ?_
  refine AtT.done ?_
  refine At.nrm ?_
  refine At.ktext (.q 0 (.n false 1 (.q 2 .done))) ?_
  first | refine AtT.kloadOA tk25 ?_ | refine AtT.kloadA tk25 ?_ | refine AtT.kloadOP tk25 ?_
  refine AtT.kcallP rfl rfl ok41 (fine_f L _ _ hv') ?_
  rintro _ rfl
  refine AtT.knot ?_
  refine AtT.done ?_
  refine At.nrm ?_
  by_cases he : logE L = 0
  rotate_left
  · refine At.condT rfl (by rw [decide_eq_false he]; rfl) ?_
    refine At.nrm ?_
    refine At.ktext (.n false 0 (.q 1 .done)) ?_
    refine AtT.kcallP rfl rfl ok19 (works_f _) ?_
    rintro _ rfl
    refine AtT.kassign ?_
    refine AtT.done ?_
    refine At.nrm ?_
    exact At.ret1 rfl (.tmp rfl) rfl
  refine At.condF rfl (by rw [decide_eq_true he]; rfl) ?_
  have hL := logE_ok he
  have n2 := hL.n2
  have n8 := hL.n8
  have el := hL.el
  have hI0 := tmod_pos h1.1 (m := (L.pl.length : Int)) (by omega)
  obtain ⟨I, hI⟩ : ∃ I : Nat, which.tmod L.pl.length = I := ⟨(which.tmod L.pl.length).toNat, by omega⟩
  have hIn : I < L.pl.length := by omega
  have hd2 : 0 ≤ wider.tdiv 2 ∧ wider.tdiv 2 ≤ 255 := by
    have := Int.tdiv_nonneg h2.1 (b := 2) (by decide)
    have := Int.mul_tdiv_add_tmod wider 2
    have := Int.tmod_nonneg (a := wider) 2 h2.1
    omega
  have lx : (widL L wider).ed.length = L.pl.length := by simp [widL, el]
  refine At.nrm ?_
  refine At.ktext (.q 0 (.q 1 (.q 2 (.q 3 (.q 4 (.q 5 (.q 6 (.q 7 (.q 8 (.q 9 .done)))))))))) ?_
  refine AtT.kmove ?_
  refine AtT.kconv un5 Try.underlying3 ?_
  rw [wrap_fit (Fit.of (by omega) (by omega))]
  first | refine AtT.kfieldO fo25_0 ?_ | with_reducible refine AtT.kfield2 fo25_0 ?_ | refine AtT.kfield fo25_0 ?_
  first | refine AtT.kloadO tk22 ?_ | refine AtT.kload tk22 ?_
  first | refine AtT.klenS Try.underlying22 ?_ | refine AtT.klenR Try.underlying22 ?_
  refine AtT.krem ?_
  refine AtT.kmove ?_
  refine AtT.kconv un5 Try.underlying2 ?_
  rw [wrap_fit (Fit.of (by omega) (by omega))]
  refine AtT.kassign ?_
  refine AtT.kassign ?_
  refine AtT.done ?_
  refine At.nrm ?_
  refine At.re (d := 7) rfl (show iv (which.tmod L.pl.length) = iv I from by rw [hI]) ?_
  refine At.ktext (.q 0 (.n false 1 (.q 2 (.q 3 (.q 4 (.n false 5 (.n true 6 (.q 7 .done)))))))) ?_
  first | refine AtT.kloadOA tk25 ?_ | refine AtT.kloadA tk25 ?_ | refine AtT.kloadOP tk25 ?_
  refine AtT.kcallP rfl rfl ok42 (best42_f L _ _ hv' he) ?_
  rintro _ rfl
  refine AtT.kmove ?_
  refine AtT.kextract ?_
  refine AtT.kextract ?_
  refine AtT.kalloc z31 ?_
  intro b9
  refine AtT.kstoreA tk31 ?_
  refine AtT.kassign ?_
  refine AtT.done ?_
  refine At.nrm ?_
  refine At.ktext (.q 0 (.q 1 (.q 2 (.n false 3 (.n true 4 .done))))) ?_
  first | refine AtT.kfieldO fo25_0 ?_ | with_reducible refine AtT.kfield2 fo25_0 ?_ | refine AtT.kfield fo25_0 ?_
  first | refine AtT.kloadO tk22 ?_ | refine AtT.kload tk22 ?_
  refine AtT.kbuild (bd25_0 _ _ _) ?_
  refine AtT.kalloc z25 ?_
  intro b11
  refine AtT.kstoreA tk25 ?_
  refine AtT.done ?_
  refine At.nrm ?_
  refine At.ktext (.n false 0 .done) ?_
  refine AtT.kalloc z25 ?_
  intro b12
  refine AtT.done ?_
  refine At.nrm ?_
  refine At.ktext (.q 0 .done) ?_
  refine AtT.kassign ?_
  refine AtT.done ?_
  refine At.nrm ?_
  refine At.newRow 69 2 ?_
  refine At.newRow 2 1 ?_
  refine At.newRow 69 2 ?_
  refine At.lp (ι := Nat × (Option Addr × Nat) × (Option Addr × Nat) × (Option Addr × Nat)) (KS := fun g => [(3, .pointer (some ⟨b3, 0, none⟩)), (7, iv I), (8, iv wider), (9, .pointer (some ⟨b9, 0, none⟩)), (10, .bool true), (11, .pointer (some ⟨b11, 0, none⟩)), (12, .pointer (some ⟨b12, 0, none⟩)), (13, iv g.1)])
    (OS := fun g => [.blk b3 (LC [.slice a L.pl.length c, .slice a' L.ed.length c'] 25), .blk b9 (LC (rte (bestV L)) 31), .blk b11 (LC [.slice a L.pl.length c, .slice g.2.1.1 g.1 g.2.1.2] 25), .blk b12 (LC [.slice g.2.2.1.1 ((L.pl.take g.1).eraseIdx I).length g.2.2.1.2, .slice g.2.2.2.1 ((L.pl.take g.1).eraseIdx I).length g.2.2.2.2] 25),
      .row (.slice g.2.1.1 g.1 g.2.1.2) 69 2 g.1 (flat rge ((widL L wider).ed.take g.1)), .row (.slice g.2.2.1.1 ((L.pl.take g.1).eraseIdx I).length g.2.2.1.2) 2 1 ((L.pl.take g.1).eraseIdx I).length (flat ei ((L.pl.take g.1).eraseIdx I)), .row (.slice g.2.2.2.1 ((L.pl.take g.1).eraseIdx I).length g.2.2.2.2) 69 2 ((L.pl.take g.1).eraseIdx I).length (flat rge ((L.ed.take g.1).eraseIdx I))])
    (VS := fun g V' => Le V V' ∧ g.1 ≤ L.pl.length) (μ := fun g => L.pl.length - g.1) (0, (none, 0), (none, 0), (none, 0)) ?_ ?_ ?_ ?_
  · exact ⟨rfl, rfl, rfl, rfl, rfl, rfl, rfl, rfl, trivial⟩
  · exact Pt.auto
  · exact ⟨Le.refl _, Nat.zero_le _⟩
  · rintro ⟨k, ⟨ao, co⟩, ⟨ap, cp⟩, ⟨aq, cq⟩⟩ V' ks' O' ⟨hVV, hkl⟩ hk hO hl2
    dsimp only at hkl hk hO
    subst hk hO
    have g2' := g2.le hVV
    have g3' := g3.le hVV
    refine At.nrm ?_
    refine At.ktext (.q 0 (.q 1 (.q 2 (.q 3 (.q 4 .done))))) ?_
    refine AtT.kmove ?_
    first | refine AtT.kfieldO fo25_0 ?_ | with_reducible refine AtT.kfield2 fo25_0 ?_ | refine AtT.kfield fo25_0 ?_
    first | refine AtT.kloadO tk22 ?_ | refine AtT.kload tk22 ?_
    first | refine AtT.klenS Try.underlying22 ?_ | refine AtT.klenR Try.underlying22 ?_
    refine AtT.klss ?_
    refine AtT.done ?_
    refine At.nrm ?_
    refine At.condP rfl (fun hb => ?_) (fun hb => ?_)
    · have hkn : k < L.pl.length := by omega
      have pb := hL.plB (i := (k : Int)) (by omega) (by omega)
      have eb := hL.edB (i := (k : Int)) (by omega) (by omega)
      have k1 : (widL L wider).ed[k]? = some (widR wider (edP L k)) := by simp only [widL, List.getElem?_map, edP_at (L := L) (i := k) (by omega)]; rfl
      have k2 := plP_at (L := L) hkn
      have k3 := edP_at (L := L) (i := k) (by omega)
      have hel := erase_len (l := L.pl) (m := L.ed) el k I
      have hlen : ((L.pl.take k).eraseIdx I).length ≤ k := by
        have := List.length_eraseIdx_le (L.pl.take k) I
        have : (L.pl.take k).length ≤ k := by simp; omega
        omega
      refine At.nrm ?_
      refine At.draw (.q 0 (.q 1 (.q 2 (.q 3 (.q 4 (.q 5 (.q 6 (.q 7 (.q 8 (.q 9 (.q 10 (.q 11 (.q 12 (.q 13 (.q 14 (.q 15 (.q 16 (.q 17 (.q 18 (.q 19 (.q 20 (.n false 21 (.n false 22 (.n true 23 (.q 24 (.n true 25 .done)))))))))))))))))))))))))) ffm (by kernel_rfl) ?_
      first | refine AtT.kfieldO fo25_1 ?_ | with_reducible refine AtT.kfield2 fo25_1 ?_ | refine AtT.kfield fo25_1 ?_
      first | refine AtT.kloadO tk23 ?_ | refine AtT.kload tk23 ?_
      first | refine AtT.kfieldO fo25_1 ?_ | with_reducible refine AtT.kfield2 fo25_1 ?_ | refine AtT.kfield fo25_1 ?_
      first | refine AtT.kloadO tk23 ?_ | refine AtT.kload tk23 ?_
      refine AtT.kmove ?_
      refine AtT.kidx Try.underlying23 tk69 ?_
      intro p48 e48 he48 hc48
      obtain rfl : e48 = edP L k := edP_some he48
      first | refine AtT.kfieldO fo69_0 ?_ | with_reducible refine AtT.kfield2 fo69_0 ?_ | refine AtT.kfield fo69_0 ?_
      first | refine AtT.kloadO tk2 ?_ | refine AtT.kload tk2 ?_
      refine AtT.kmove ?_
      first | refine AtT.ksubt ?_ | refine AtT.ksubW ?_
      refine AtT.kmax2 ?_
      first | refine AtT.kfieldO fo25_1 ?_ | with_reducible refine AtT.kfield2 fo25_1 ?_ | refine AtT.kfield fo25_1 ?_
      first | refine AtT.kloadO tk23 ?_ | refine AtT.kload tk23 ?_
      refine AtT.kmove ?_
      refine AtT.kidx Try.underlying23 tk69 ?_
      intro p57 e57 he57 hc57
      obtain rfl : e57 = edP L k := edP_some he57
      first | refine AtT.kfieldO fo69_1 ?_ | with_reducible refine AtT.kfield2 fo69_1 ?_ | refine AtT.kfield fo69_1 ?_
      first | refine AtT.kloadO tk2 ?_ | refine AtT.kload tk2 ?_
      refine AtT.kmove ?_
      refine AtT.kquo ?_
      first | refine AtT.kadd ?_ | refine AtT.kaddW ?_
      refine AtT.kmin2 ?_
      refine AtT.kcallP rfl rfl ok49 (to49_f _ _ _) ?_
      rintro _ rfl
      refine AtT.kbsliceG (bs23_1_0 _ _) ?_
      intro q65 V65 hV65 hq65
      have g65 : Le V V65 := by first | exact hV65 | exact Le.trans (by assumption) hV65
      first | refine AtT.kappend Try.underlying23 rw69 ?_
      intro a66 c66
      first | refine AtT.kfieldO fo25_1 ?_ | with_reducible refine AtT.kfield2 fo25_1 ?_ | refine AtT.kfield fo25_1 ?_
      first | refine AtT.kstore1 tk23 ?_ | refine AtT.kstoreA tk23 ?_
      refine AtT.done ?_
      refine At.nrm ?_
      have g2'' := g2'.le hV65
      have g3'' := g3'.le hV65
      refine At.ktext (.q 0 (.q 1 (.q 2 .done))) ?_
      refine AtT.kmove ?_
      refine AtT.kmove ?_
      refine AtT.kneI ?_
      refine AtT.done ?_
      refine At.nrm ?_
      refine At.cutG (ι := (Option Addr × Nat) × (Option Addr × Nat)) (fun _ => [(3, .pointer (some ⟨b3, 0, none⟩)), (7, iv I), (8, iv wider), (9, .pointer (some ⟨b9, 0, none⟩)), (10, .bool true), (11, .pointer (some ⟨b11, 0, none⟩)), (12, .pointer (some ⟨b12, 0, none⟩)), (13, iv k)])
        (fun g => [.blk b3 (LC [.slice a L.pl.length c, .slice a' L.ed.length c'] 25), .blk b9 (LC (rte (bestV L)) 31), .blk b11 (LC [.slice a L.pl.length c, .slice a66 (k + 1) c66] 25), .blk b12 (LC [.slice g.1.1 ((L.pl.take (k + 1)).eraseIdx I).length g.1.2, .slice g.2.1 ((L.pl.take (k + 1)).eraseIdx I).length g.2.2] 25),
          .row (.slice a66 (k + 1) c66) 69 2 (k + 1) (flat rge ((widL L wider).ed.take (k + 1))), .row (.slice g.1.1 ((L.pl.take (k + 1)).eraseIdx I).length g.1.2) 2 1 ((L.pl.take (k + 1)).eraseIdx I).length (flat ei ((L.pl.take (k + 1)).eraseIdx I)), .row (.slice g.2.1 ((L.pl.take (k + 1)).eraseIdx I).length g.2.2) 69 2 ((L.pl.take (k + 1)).eraseIdx I).length (flat rge ((L.ed.take (k + 1)).eraseIdx I))]) (fun _ V'' => Le V65 V'') ?_ ?_
      · refine At.condP rfl (fun hc => ?_) (fun hc => ?_)
        · have hne : k ≠ I := fun e => hc (by rw [e])
          rw [take_snoc' k1, erase_snoc k2 hne, erase_snoc k3 hne, flat_snoc, flat_snoc, flat_snoc, List.length_append]
          refine At.nrm ?_
          refine At.drawC [.blk b3 (LC [.slice a L.pl.length c, .slice a' L.ed.length c'] 25), .blk b12 (LC [.slice ap ((L.pl.take k).eraseIdx I).length cp, .slice aq ((L.pl.take k).eraseIdx I).length cq] 25)] (.q 0 (.q 1 (.q 2 (.q 3 (.q 4 (.q 5 (.q 6 (.q 9 (.q 10 (.q 11 (.q 12 (.q 13 (.q 14 (.q 15 (.two 7 (.two 8 (.q 18 (.n false 16 (.n false 17 (.n true 19 (.q 20 (.n true 21 .done)))))) 16 (.n false 8 (.q 18 (.n false 17 (.n true 19 (.q 20 (.n true 21 .done))))))) 16 (.n false 7 (.n false 8 (.q 18 (.n false 17 (.n true 19 (.q 20 (.n true 21 .done)))))))))))))))))))))) ffm (by kernel_rfl) Pt.auto ?_
          refine AtC.pre (fun hle0 => ?_)
          refine AtC.kq (by (first | refine AtT.kfieldO fo25_0 ?_ | with_reducible refine AtT.kfield2 fo25_0 ?_ | refine AtT.kfield fo25_0 ?_); exact At.knows) ?_
          refine AtC.kq (by (first | refine AtT.kloadO tk22 ?_ | refine AtT.kload tk22 ?_); exact At.knows) ?_
          refine AtC.kq (by (first | refine AtT.kfieldO fo25_0 ?_ | with_reducible refine AtT.kfield2 fo25_0 ?_ | refine AtT.kfield fo25_0 ?_); exact At.knows) ?_
          refine AtC.kq (by (first | refine AtT.kloadO tk22 ?_ | refine AtT.kload tk22 ?_); exact At.knows) ?_
          refine AtC.kq (by (refine AtT.kmove ?_); exact At.knows) ?_
          refine AtC.kidx Try.underlying22 tk2 ?_
          intro p76 e76 he76 hc76
          obtain rfl : e76 = plP L k := plP_some he76
          refine AtC.kq (by (first | refine AtT.kloadO tk2 ?_ | refine AtT.kload tk2 ?_); exact At.knows) ?_
          refine AtC.kq (by (first | refine AtT.kfieldO fo25_1 ?_ | with_reducible refine AtT.kfield2 fo25_1 ?_ | refine AtT.kfield fo25_1 ?_); exact At.knows) ?_
          refine AtC.kq (by (first | refine AtT.kloadO tk23 ?_ | refine AtT.kload tk23 ?_); exact At.knows) ?_
          refine AtC.kq (by (first | refine AtT.kfieldO fo25_1 ?_ | with_reducible refine AtT.kfield2 fo25_1 ?_ | refine AtT.kfield fo25_1 ?_); exact At.knows) ?_
          refine AtC.kq (by (first | refine AtT.kloadO tk23 ?_ | refine AtT.kload tk23 ?_); exact At.knows) ?_
          refine AtC.kq (by (refine AtT.kmove ?_); exact At.knows) ?_
          refine AtC.kidx Try.underlying23 tk69 ?_
          intro p85 e85 he85 hc85
          obtain rfl : e85 = edP L k := edP_some he85
          refine AtC.kq (by (first | refine AtT.kloadOA tk69 ?_ | refine AtT.kloadA tk69 ?_ | refine AtT.kloadOP tk69 ?_); exact At.knows) ?_
          refine AtC.two ?_ ?_
          focus
            refine AtC.nz ?_
            refine AtT.kbsliceG (bs22_1_0 _) ?_
            intro q78 V78 hV78 hq78
            have g78 : Le V V78 := by first | exact hV78 | exact Le.trans (by assumption) hV78
            refine AtC.kgo ?_
            refine AtC.two ?_ ?_
            focus
              refine AtC.nz ?_
              first | refine AtT.kappend Try.underlying22 rw2 ?_
              intro a79 c79
              refine AtC.kgo ?_
              refine AtC.kq (by (first | refine AtT.kfieldO fo25_0 ?_ | with_reducible refine AtT.kfield2 fo25_0 ?_ | refine AtT.kfield fo25_0 ?_); exact At.knows) ?_
              refine AtC.nz ?_
              refine AtT.kbsliceG (bs23_1_0 _ _) ?_
              intro q87 V87 hV87 hq87
              have g87 : Le V V87 := by first | exact hV87 | exact Le.trans (by assumption) hV87
              refine AtC.kgo ?_
              refine AtC.nz ?_
              first | refine AtT.kappend Try.underlying23 rw69 ?_
              intro a88 c88
              refine AtC.kgo ?_
              refine AtC.toT ?_
              first | refine AtT.kstore1 tk22 ?_ | refine AtT.kstoreA tk22 ?_
              first | refine AtT.kfieldO fo25_1 ?_ | with_reducible refine AtT.kfield2 fo25_1 ?_ | refine AtT.kfield fo25_1 ?_
              first | refine AtT.kstore1 tk23 ?_ | refine AtT.kstoreA tk23 ?_
              refine AtT.done ?_
            rotate_right
            focus
              refine AtC.nz ?_
              refine AtT.kbsliceG (bs23_1_0 _ _) ?_
              intro q87 V87 hV87 hq87
              have g87 : Le V V87 := by first | exact hV87 | exact Le.trans (by assumption) hV87
              refine AtC.kgo ?_
              refine AtC.nz ?_
              first | refine AtT.kappend Try.underlying22 rw2 ?_
              intro a79 c79
              refine AtC.kgo ?_
              refine AtC.kq (by (first | refine AtT.kfieldO fo25_0 ?_ | with_reducible refine AtT.kfield2 fo25_0 ?_ | refine AtT.kfield fo25_0 ?_); exact At.knows) ?_
              refine AtC.nz ?_
              first | refine AtT.kappend Try.underlying23 rw69 ?_
              intro a88 c88
              refine AtC.kgo ?_
              refine AtC.toT ?_
              first | refine AtT.kstore1 tk22 ?_ | refine AtT.kstoreA tk22 ?_
              first | refine AtT.kfieldO fo25_1 ?_ | with_reducible refine AtT.kfield2 fo25_1 ?_ | refine AtT.kfield fo25_1 ?_
              first | refine AtT.kstore1 tk23 ?_ | refine AtT.kstoreA tk23 ?_
              refine AtT.done ?_
          rotate_right
          focus
            refine AtC.nz ?_
            refine AtT.kbsliceG (bs23_1_0 _ _) ?_
            intro q87 V87 hV87 hq87
            have g87 : Le V V87 := by first | exact hV87 | exact Le.trans (by assumption) hV87
            refine AtC.kgo ?_
            refine AtC.nz ?_
            refine AtT.kbsliceG (bs22_1_0 _) ?_
            intro q78 V78 hV78 hq78
            have g78 : Le V V78 := by first | exact hV78 | exact Le.trans (by assumption) hV78
            refine AtC.kgo ?_
            refine AtC.nz ?_
            first | refine AtT.kappend Try.underlying22 rw2 ?_
            intro a79 c79
            refine AtC.kgo ?_
            refine AtC.kq (by (first | refine AtT.kfieldO fo25_0 ?_ | with_reducible refine AtT.kfield2 fo25_0 ?_ | refine AtT.kfield fo25_0 ?_); exact At.knows) ?_
            refine AtC.nz ?_
            first | refine AtT.kappend Try.underlying23 rw69 ?_
            intro a88 c88
            refine AtC.kgo ?_
            refine AtC.toT ?_
            first | refine AtT.kstore1 tk22 ?_ | refine AtT.kstoreA tk22 ?_
            first | refine AtT.kfieldO fo25_1 ?_ | with_reducible refine AtT.kfield2 fo25_1 ?_ | refine AtT.kfield fo25_1 ?_
            first | refine AtT.kstore1 tk23 ?_ | refine AtT.kstoreA tk23 ?_
            refine AtT.done ?_
          all_goals (refine At.nrm ?_)
          all_goals (exact At.meetG ((a79, c79), (a88, c88)) (by first | exact Le.refl _ | assumption | exact Le.trans (by assumption) (by assumption)) ⟨rfl, rfl, rfl, rfl, rfl, rfl, rfl, rfl, trivial⟩ Pt.auto)
        · have hne : k = I := by
            have := Decidable.not_not.1 hc; omega
          subst hne
          rw [take_snoc' k1, erase_same k2, erase_same k3, flat_snoc]
          refine At.nrm ?_
          exact At.meetG ((ap, cp), (aq, cq)) (Le.refl _) ⟨rfl, rfl, rfl, rfl, rfl, rfl, rfl, rfl, trivial⟩ Pt.auto
      rintro ⟨⟨a79, c79⟩, ⟨a88, c88⟩⟩ V9 ks' O' hV9 hk hO hl3
      dsimp only at hk hO
      subst hk hO
      refine At.nrm ?_
      refine At.ktext (.q 0 (.q 1 (.q 2 .done))) ?_
      refine AtT.kmove ?_
      first | refine AtT.kadd ?_ | refine AtT.kaddW ?_
      refine AtT.kassign ?_
      refine AtT.done ?_
      refine At.nrm ?_
      refine At.round (k + 1, (a66, c66), (a79, c79), (a88, c88)) ?_ ?_ ?_ ?_
      · show L.pl.length - (k + 1) < L.pl.length - k; omega
      · exact ⟨(hVV.trans hV65).trans hV9, by dsimp only; omega⟩
      · exact ⟨rfl, rfl, rfl, rfl, rfl, rfl, rfl, ivs (by dsimp only; omega), trivial⟩
      dsimp only
      · exact Pt.auto
    · obtain rfl : k = L.pl.length := by omega
      have e1 : L.ed.take L.pl.length = L.ed := by rw [← el, List.take_length]
      rw [show (widL L wider).ed.take L.pl.length = (widL L wider).ed from by rw [← lx, List.take_length], e1, List.take_length]
      have ly : (L.ed.eraseIdx I).length = (L.pl.eraseIdx I).length := by simp [List.length_eraseIdx, el]
      refine At.nrm ?_
      refine At.giveSl rge_len rfl lx.symm Pick.auto (fun V4 hV4 hs4 => ?_)
      refine At.giveSl ei_len rfl rfl Pick.auto (fun V5 hV5 hs5 => ?_)
      refine At.giveSl rge_len rfl ly.symm Pick.auto (fun V6 hV6 hs6 => ?_)
      have hle := ((hVV.trans hV4).trans hV5).trans hV6
      have hvx : LogV V6 (.agg #[.slice a L.pl.length c, .slice ao L.pl.length co]) (widL L wider) := ⟨a, c, ao, co, by rw [lx]; rfl, g2.le hle, by rw [lx]; exact (hs4.le hV5).le hV6⟩
      have hvy : LogV V6 (.agg #[.slice ap (L.pl.eraseIdx I).length cp, .slice aq (L.pl.eraseIdx I).length cq]) (lessL L I) := ⟨ap, cp, aq, cq, by show _ = Value.agg #[_, .slice aq (L.ed.eraseIdx I).length cq]; rw [ly]; rfl, hs5.le hV6, by show Sl V6 rge 2 (.slice aq (L.ed.eraseIdx I).length cq) _; rw [ly]; exact hs6⟩
      have hXo := widL_ok hL h2.1
      have hxe := ok_logE hXo
      have hbw := widL_best hL h2.1
      have hbs := best_sm hL
      have hbx := best_sm hXo
      have bp := hbs.can.pos
      have bd := hbs.d
      have bl := hbs.lo
      have bh := hbs.hi
      have mt := mul_bd (a := wider) (b := (bestV L).den) (A := 255) (B := 200) (by decide) (by decide) (by omega) (by omega) (by omega) (by omega)
      have hq : (rat ((bestV L).num + wider * (bestV L).den) (bestV L).den).q = (bestV L).q + wider := by
        have := cne bp
        rw [rat_q bp]; unfold Rt.q; push_cast; grind
      have hrc : Go.Pl.Can (rat ((bestV L).num + wider * (bestV L).den) (bestV L).den) := rat_can bp
      have hrf : Ft (rat ((bestV L).num + wider * (bestV L).den) (bestV L).den) := by
        have r := rat_bd ((bestV L).num + wider * (bestV L).den) (bestV L).den bp
        exact ⟨hrc, by omega, by have := hrc.pos; omega, by have := hrc.pos; omega⟩
      refine At.ktext (.q 0 (.n false 1 (.q 2 (.q 3 (.q 4 (.n false 5 (.n true 6 (.q 7 .done)))))))) ?_
      first | refine AtT.kloadOA tk25 ?_ | refine AtT.kloadA tk25 ?_ | refine AtT.kloadOP tk25 ?_
      refine AtT.kcallP rfl rfl ok42 (best42_f (widL L wider) _ _ hvx hxe) ?_
      rintro _ rfl
      refine AtT.kmove ?_
      refine AtT.kextract ?_
      refine AtT.kextract ?_
      refine AtT.kalloc z31 ?_
      intro b14
      refine AtT.kstoreA tk31 ?_
      refine AtT.kassign ?_
      refine AtT.done ?_
      refine At.nrm ?_
      apply At.draw0 (.q 0 (.q 1 (.q 2 (.q 3 (.q 4 (.q 5 (.q 6 (.q 7 (.q 8 (.n false 9 (.q 10 (.q 11 (.q 12 (.q 13 (.q 14 (.q 15 (.q 16 (.q 17 (.q 18 (.q 19 (.q 20 (.q 22 (.n false 21 (.n false 23 (.q 24 .done))))))))))))))))))))))))) ffm (by kernel_rfl)
      · refine AtT.kmove ?_
        refine AtT.knot ?_
        refine AtT.kmove ?_
        all_goals (first | refine AtT.kL 98 ?_ | refine AtT.pcase (d := 98) rfl (fun hg98 => ?_) (fun hg98 => ?_) | refine AtT.bcase (d := 98) rfl (fun hg98 => ?_) (fun hg98 => ?_))
        all_goals (first | refine AtT.kpass ?_ | refine AtT.kpassU ?_ | ((refine AtT.kmove ?_)))
        all_goals (first | refine AtT.kpass ?_ | refine AtT.kpassU ?_ | ((refine AtT.knot ?_)))
        all_goals (refine AtT.kpick ?_)
        all_goals (refine AtT.kmove ?_)
        all_goals (first | refine AtT.kL 102 ?_ | refine AtT.pcase (d := 102) rfl (fun hg102 => ?_) (fun hg102 => ?_) | refine AtT.bcase (d := 102) rfl (fun hg102 => ?_) (fun hg102 => ?_))
        all_goals (first | refine AtT.kpass ?_ | refine AtT.kpassU ?_ | ((first | refine AtT.kloadOA tk31 ?_ | refine AtT.kloadA tk31 ?_ | refine AtT.kloadOP tk31 ?_)))
        all_goals (first | refine AtT.kpass ?_ | refine AtT.kpassU ?_ | ((first | refine AtT.kloadOA tk31 ?_ | refine AtT.kloadA tk31 ?_ | refine AtT.kloadOP tk31 ?_)))
        all_goals (first | refine AtT.kpassN ?_ | refine AtT.kpassNU ?_ | ((refine AtT.kcallP rfl rfl ok45 (rless_f (bestV (widL L wider)) (bestV L) _ (sm_fit hbx hbs) (sm_fit hbs hbx)) ?_) ; (rintro _ rfl)))
        all_goals (refine AtT.setB (d := 105) rfl (less_not hbx.can hbs.can hbw.1) ?_)
        all_goals (refine AtT.kpick ?_)
        all_goals (refine AtT.kmove ?_)
        all_goals (first | refine AtT.kL 107 ?_ | refine AtT.pcase (d := 107) rfl (fun hg107 => ?_) (fun hg107 => ?_) | refine AtT.bcase (d := 107) rfl (fun hg107 => ?_) (fun hg107 => ?_))
        all_goals (first | refine AtT.kpass ?_ | refine AtT.kpassU ?_ | ((first | refine AtT.kfieldO fo31_0 ?_ | with_reducible refine AtT.kfield2 fo31_0 ?_ | refine AtT.kfield fo31_0 ?_)))
        all_goals (first | refine AtT.kpass ?_ | refine AtT.kpassU ?_ | ((first | refine AtT.kloadO tk2 ?_ | refine AtT.kload tk2 ?_)))
        all_goals (first | refine AtT.kpass ?_ | refine AtT.kpassU ?_ | ((refine AtT.kmove ?_)))
        all_goals (first | refine AtT.kpass ?_ | refine AtT.kpassU ?_ | ((first | refine AtT.kfieldO fo31_1 ?_ | with_reducible refine AtT.kfield2 fo31_1 ?_ | refine AtT.kfield fo31_1 ?_)))
        all_goals (first | refine AtT.kpass ?_ | refine AtT.kpassU ?_ | ((first | refine AtT.kloadO tk2 ?_ | refine AtT.kload tk2 ?_)))
        all_goals (first | refine AtT.kpass ?_ | refine AtT.kpassU ?_ | ((first | refine AtT.kmul ?_ | refine AtT.kmulW ?_)))
        all_goals (first | refine AtT.kpass ?_ | refine AtT.kpassU ?_ | ((first | refine AtT.kadd ?_ | refine AtT.kaddW ?_)))
        all_goals (first | refine AtT.kpass ?_ | refine AtT.kpassU ?_ | ((first | refine AtT.kfieldO fo31_1 ?_ | with_reducible refine AtT.kfield2 fo31_1 ?_ | refine AtT.kfield fo31_1 ?_)))
        all_goals (first | refine AtT.kpass ?_ | refine AtT.kpassU ?_ | ((first | refine AtT.kloadO tk2 ?_ | refine AtT.kload tk2 ?_)))
        all_goals (first | refine AtT.kpass ?_ | refine AtT.kpassU ?_ | ((first | refine AtT.kloadOA tk31 ?_ | refine AtT.kloadA tk31 ?_ | refine AtT.kloadOP tk31 ?_)))
        all_goals (first | refine AtT.kpassN ?_ | refine AtT.kpassNU ?_ | ((refine AtT.kcallP rfl rfl ok51 (by_r ((bestV L).num + wider * (bestV L).den) (bestV L).den _ (by omega) (by omega) bp (by omega)) ?_) ; (rintro _ rfl)))
        all_goals (first | refine AtT.kpassN ?_ | refine AtT.kpassNU ?_ | ((refine AtT.kcallP rfl rfl ok45 (rless_f (rat ((bestV L).num + wider * (bestV L).den) (bestV L).den) (bestV (widL L wider)) _ (ft_fit hrf hbx.ft) (ft_fit hbx.ft hrf)) ?_) ; (rintro _ rfl)))
        all_goals (refine AtT.setB (d := 119) rfl (less_not hrc hbx.can (by rw [hq]; exact hbw.2)) ?_)
        all_goals (refine AtT.kpick ?_)
        exact AtT.done (fun a w hk hm => ⟨hk, hm⟩)
      refine At.nrm ?_
      refine At.condF rfl rfl ?_
      refine At.nrm ?_
      refine At.ktext (.q 0 (.n false 1 (.q 2 .done))) ?_
      first | refine AtT.kloadOA tk25 ?_ | refine AtT.kloadA tk25 ?_ | refine AtT.kloadOP tk25 ?_
      refine AtT.kcallP rfl rfl ok41 (fine_f (lessL L I) _ _ hvy) ?_
      rintro _ rfl
      refine AtT.knot ?_
      refine AtT.done ?_
      refine At.nrm ?_
      by_cases hy : logE (lessL L I) = 0
      rotate_left
      · refine At.condT rfl (by rw [decide_eq_false hy]; rfl) ?_
        refine At.nrm ?_
        refine At.ktext (.n false 0 (.q 1 .done)) ?_
        refine AtT.kcallP rfl rfl ok19 (works_f _) ?_
        rintro _ rfl
        refine AtT.kassign ?_
        refine AtT.done ?_
        refine At.nrm ?_
        exact At.ret1 rfl (.tmp rfl) rfl
      refine At.condF rfl (by rw [decide_eq_true hy]; rfl) ?_
      have hYo := logE_ok hy
      have hby := best_sm hYo
      have hbm := lessL_best hL hIn hYo
      refine At.nrm ?_
      refine At.ktext (.q 0 (.n false 1 (.q 2 (.q 3 (.q 4 (.n true 5 (.q 6 .done))))))) ?_
      first | refine AtT.kloadOA tk25 ?_ | refine AtT.kloadA tk25 ?_ | refine AtT.kloadOP tk25 ?_
      refine AtT.kcallP rfl rfl ok42 (best42_f (lessL L I) _ _ hvy hy) ?_
      rintro _ rfl
      refine AtT.kmove ?_
      refine AtT.kextract ?_
      refine AtT.kextract ?_
      refine AtT.kstoreA tk31 ?_
      refine AtT.kassign ?_
      refine AtT.done ?_
      refine At.nrm ?_
      refine At.ktext (.q 0 (.q 1 (.q 2 (.q 3 (.n false 4 (.q 5 (.q 6 (.q 7 (.n false 8 (.q 9 (.q 10 .done))))))))))) ?_
      refine AtT.kmove ?_
      refine AtT.kmove ?_
      all_goals (first | refine AtT.kL 131 ?_ | refine AtT.pcase (d := 131) rfl (fun hg131 => ?_) (fun hg131 => ?_) | refine AtT.bcase (d := 131) rfl (fun hg131 => ?_) (fun hg131 => ?_))
      all_goals (first | refine AtT.kpass ?_ | refine AtT.kpassU ?_ | ((first | refine AtT.kloadOA tk31 ?_ | refine AtT.kloadA tk31 ?_ | refine AtT.kloadOP tk31 ?_)))
      all_goals (first | refine AtT.kpass ?_ | refine AtT.kpassU ?_ | ((first | refine AtT.kloadOA tk31 ?_ | refine AtT.kloadA tk31 ?_ | refine AtT.kloadOP tk31 ?_)))
      all_goals (first | refine AtT.kpassN ?_ | refine AtT.kpassNU ?_ | ((refine AtT.kcallP rfl rfl ok45 (rless_f (bestV (lessL L I)) (bestV L) _ (sm_fit hby hbs) (sm_fit hbs hby)) ?_) ; (rintro _ rfl)))
      all_goals (refine AtT.setB (d := 134) rfl (less_not hby.can hbs.can hbm) ?_)
      all_goals (first | refine AtT.kpass ?_ | refine AtT.kpassU ?_ | ((refine AtT.knot ?_)))
      all_goals (refine AtT.kpick ?_)
      all_goals (refine AtT.kmove ?_)
      all_goals (first | refine AtT.kL 137 ?_ | refine AtT.pcase (d := 137) rfl (fun hg137 => ?_) (fun hg137 => ?_) | refine AtT.bcase (d := 137) rfl (fun hg137 => ?_) (fun hg137 => ?_))
      all_goals (first | refine AtT.kpassN ?_ | refine AtT.kpassNU ?_ | ((refine AtT.kcallP rfl rfl ok19 (works_f _) ?_) ; (rintro _ rfl)))
      all_goals (refine AtT.kpick ?_)
      all_goals (refine AtT.kassign ?_)
      all_goals refine AtT.done ?_
      all_goals (refine At.nrm ?_)
      exact At.ret1 rfl (.tmp rfl) rfl
end Go.Proofs.Ytnionkopmncopaa
