/- Texts that the last one of this claim imports. -/
import Derived.Test.YtnionkopmncopaaB2
set_option linter.unusedVariables false
set_option linter.unusedSimpArgs false
set_option linter.unusedSectionVars false
set_option linter.unusedVariables false
namespace Go.Proofs.Ytnionkopmncopaa
open Go.Lw Go.Pl Go.RowKit

theorem shaped_f (L : Lg) (p : Pf) (V : View) (v : Value) (hv : LogV V v L) : Fnc Try.prog 68 [v, pfv p] V fun r _ => r = .bool (shapedB L p) := by
  obtain ⟨a, c, a', c', rfl, h2, h3⟩ := hv
  have hlen := h2.lenLe
  unfold shapedB
  refine fn_of Try.func68 rfl Try.ntmps68 (Nat.le_of_ble_eq_true rfl) ?_
  intro w0 hw0
  refine At.nrm ?_
  refine At.ktext (.n false 0 (.n false 1 (.q 2 .done))) ?_
  refine AtT.kbox ?_
  intro b2
  refine AtT.kbox ?_
  intro b3
  refine AtT.kassign ?_
  refine AtT.done ?_
  refine At.nrm ?_
  refine At.cut [(2, .pointer (some ⟨b2, 0, none⟩)), (3, .pointer (some ⟨b3, 0, none⟩)), (29, .bool (decide ¬ (0 ≤ p.f ∧ p.f ≤ p.m ∧ p.m ≤ p.l ∧ p.l < L.pl.length)))] [.blk b2 (LC [.slice a L.pl.length c, .slice a' L.ed.length c'] 25), .blk b3 (LC [iv p.f, iv p.m, iv p.l, iv p.s] 45)] (fun V' => V = V') ?_ ?_
  · refine At.ktext (.q 0 (.q 1 (.q 2 (.q 3 (.q 4 (.q 5 (.q 6 (.q 7 (.q 8 (.q 9 (.q 10 (.q 11 (.q 12 (.q 13 (.q 14 (.q 15 (.q 16 (.q 17 (.q 18 (.q 19 (.q 20 (.q 21 (.q 22 (.q 23 (.q 24 .done))))))))))))))))))))))))) ?_
    first | refine AtT.kfieldO fo45_0 ?_ | with_reducible refine AtT.kfield2 fo45_0 ?_ | refine AtT.kfield fo45_0 ?_
    first | refine AtT.kloadO tk3 ?_ | refine AtT.kload tk3 ?_
    refine AtT.klss ?_
    refine AtT.kmove ?_
    all_goals (first | refine AtT.kL 8 ?_ | refine AtT.pcase (d := 8) rfl (fun hg8 => ?_) (fun hg8 => ?_) | refine AtT.bcase (d := 8) rfl (fun hg8 => ?_) (fun hg8 => ?_))
    all_goals (first | refine AtT.kpass ?_ | refine AtT.kpassU ?_ | ((first | refine AtT.kfieldO fo45_0 ?_ | with_reducible refine AtT.kfield2 fo45_0 ?_ | refine AtT.kfield fo45_0 ?_)))
    all_goals (first | refine AtT.kpass ?_ | refine AtT.kpassU ?_ | ((first | refine AtT.kloadO tk3 ?_ | refine AtT.kload tk3 ?_)))
    all_goals (first | refine AtT.kpass ?_ | refine AtT.kpassU ?_ | ((first | refine AtT.kfieldO fo45_1 ?_ | with_reducible refine AtT.kfield2 fo45_1 ?_ | refine AtT.kfield fo45_1 ?_)))
    all_goals (first | refine AtT.kpass ?_ | refine AtT.kpassU ?_ | ((first | refine AtT.kloadO tk3 ?_ | refine AtT.kload tk3 ?_)))
    all_goals (first | refine AtT.kpass ?_ | refine AtT.kpassU ?_ | ((refine AtT.kgtr ?_)))
    all_goals (refine AtT.kpick ?_)
    all_goals (refine AtT.kmove ?_)
    all_goals (first | refine AtT.kL 15 ?_ | refine AtT.pcase (d := 15) rfl (fun hg15 => ?_) (fun hg15 => ?_) | refine AtT.bcase (d := 15) rfl (fun hg15 => ?_) (fun hg15 => ?_))
    all_goals (first | refine AtT.kpass ?_ | refine AtT.kpassU ?_ | ((first | refine AtT.kfieldO fo45_1 ?_ | with_reducible refine AtT.kfield2 fo45_1 ?_ | refine AtT.kfield fo45_1 ?_)))
    all_goals (first | refine AtT.kpass ?_ | refine AtT.kpassU ?_ | ((first | refine AtT.kloadO tk3 ?_ | refine AtT.kload tk3 ?_)))
    all_goals (first | refine AtT.kpass ?_ | refine AtT.kpassU ?_ | ((first | refine AtT.kfieldO fo45_2 ?_ | with_reducible refine AtT.kfield2 fo45_2 ?_ | refine AtT.kfield fo45_2 ?_)))
    all_goals (first | refine AtT.kpass ?_ | refine AtT.kpassU ?_ | ((first | refine AtT.kloadO tk3 ?_ | refine AtT.kload tk3 ?_)))
    all_goals (first | refine AtT.kpass ?_ | refine AtT.kpassU ?_ | ((refine AtT.kgtr ?_)))
    all_goals (refine AtT.kpick ?_)
    all_goals (refine AtT.kmove ?_)
    all_goals (first | refine AtT.kL 22 ?_ | refine AtT.pcase (d := 22) rfl (fun hg22 => ?_) (fun hg22 => ?_) | refine AtT.bcase (d := 22) rfl (fun hg22 => ?_) (fun hg22 => ?_))
    all_goals (first | refine AtT.kpass ?_ | refine AtT.kpassU ?_ | ((first | refine AtT.kfieldO fo45_2 ?_ | with_reducible refine AtT.kfield2 fo45_2 ?_ | refine AtT.kfield fo45_2 ?_)))
    all_goals (first | refine AtT.kpass ?_ | refine AtT.kpassU ?_ | ((first | refine AtT.kloadO tk3 ?_ | refine AtT.kload tk3 ?_)))
    all_goals (first | refine AtT.kpass ?_ | refine AtT.kpassU ?_ | ((first | refine AtT.kfieldO fo25_0 ?_ | with_reducible refine AtT.kfield2 fo25_0 ?_ | refine AtT.kfield fo25_0 ?_)))
    all_goals (first | refine AtT.kpass ?_ | refine AtT.kpassU ?_ | ((first | refine AtT.kloadO tk22 ?_ | refine AtT.kload tk22 ?_)))
    all_goals (first | refine AtT.kpass ?_ | refine AtT.kpassU ?_ | ((first | refine AtT.klenS Try.underlying22 ?_ | refine AtT.klenR Try.underlying22 ?_)))
    all_goals (first | refine AtT.kpass ?_ | refine AtT.kpassU ?_ | ((refine AtT.kgeq ?_)))
    all_goals (refine AtT.kpick ?_)
    all_goals refine AtT.done ?_
    all_goals (refine At.nrm ?_)
    all_goals (refine At.meet rfl ⟨rfl, rfl, bsome ?_, trivial⟩ ?_)
    all_goals (first | (repeat (first | exact Pt.nil | refine Pt.cons Pick.auto ?_)); done | skip)
    all_goals (first | (rw [Bool.eq_iff_iff]; simp [*]; done) | (rw [Bool.eq_iff_iff]; simp [*]; omega) | simp [*])
  rintro _ rfl
  refine At.condP rfl (fun hb => ?_) (fun hb => ?_)
  · refine At.nrm ?_
    refine At.ktext (.q 0 .done) ?_
    refine AtT.kassign ?_
    refine AtT.done ?_
    refine At.nrm ?_
    refine At.ret1 rfl (.tmp rfl) ?_
    simp [hb]
  have hb' : 0 ≤ p.f ∧ p.f ≤ p.m ∧ p.m ≤ p.l ∧ p.l < L.pl.length := Decidable.not_not.1 hb
  simp only [hb', and_self, decide_true, Bool.true_and]
  refine At.nrm ?_
  refine At.ktext (.q 0 (.q 1 (.q 2 (.q 3 (.q 4 .done))))) ?_
  first | refine AtT.kfieldO fo45_0 ?_ | with_reducible refine AtT.kfield2 fo45_0 ?_ | refine AtT.kfield fo45_0 ?_
  first | refine AtT.kloadO tk3 ?_ | refine AtT.kload tk3 ?_
  first | refine AtT.kfieldO fo45_2 ?_ | with_reducible refine AtT.kfield2 fo45_2 ?_ | refine AtT.kfield fo45_2 ?_
  first | refine AtT.kloadO tk3 ?_ | refine AtT.kload tk3 ?_
  refine AtT.keqI ?_
  refine AtT.done ?_
  refine At.nrm ?_
  refine At.condP rfl (fun hc => ?_) (fun hc => ?_)
  · refine At.nrm ?_
    refine At.ktext (.q 0 (.q 1 (.q 2 (.q 3 .done)))) ?_
    first | refine AtT.kfieldO fo45_3 ?_ | with_reducible refine AtT.kfield2 fo45_3 ?_ | refine AtT.kfield fo45_3 ?_
    first | refine AtT.kloadO tk3 ?_ | refine AtT.kload tk3 ?_
    refine AtT.keqI ?_
    refine AtT.kassign ?_
    refine AtT.done ?_
    refine At.nrm ?_
    refine At.ret1 rfl (.tmp rfl) ?_
    rw [if_pos hc]
  · rw [if_neg hc]
    refine At.nrm ?_
    refine At.ktext (.q 0 (.q 1 (.q 2 (.q 3 (.q 4 (.q 5 (.q 6 (.q 7 (.q 8 (.q 9 (.q 10 (.q 11 (.q 12 (.q 13 (.q 14 (.q 15 (.q 16 (.q 17 (.q 18 (.q 19 (.q 20 (.q 21 (.q 22 .done))))))))))))))))))))))) ?_
    first | refine AtT.kfieldO fo45_0 ?_ | with_reducible refine AtT.kfield2 fo45_0 ?_ | refine AtT.kfield fo45_0 ?_
    first | refine AtT.kloadO tk3 ?_ | refine AtT.kload tk3 ?_
    first | refine AtT.kfieldO fo45_1 ?_ | with_reducible refine AtT.kfield2 fo45_1 ?_ | refine AtT.kfield fo45_1 ?_
    first | refine AtT.kloadO tk3 ?_ | refine AtT.kload tk3 ?_
    refine AtT.klss ?_
    refine AtT.kmove ?_
    all_goals (first | refine AtT.kL 43 ?_ | refine AtT.pcase (d := 43) rfl (fun hg43 => ?_) (fun hg43 => ?_) | refine AtT.bcase (d := 43) rfl (fun hg43 => ?_) (fun hg43 => ?_))
    all_goals (first | refine AtT.kpass ?_ | refine AtT.kpassU ?_ | ((first | refine AtT.kfieldO fo45_1 ?_ | with_reducible refine AtT.kfield2 fo45_1 ?_ | refine AtT.kfield fo45_1 ?_)))
    all_goals (first | refine AtT.kpass ?_ | refine AtT.kpassU ?_ | ((first | refine AtT.kloadO tk3 ?_ | refine AtT.kload tk3 ?_)))
    all_goals (first | refine AtT.kpass ?_ | refine AtT.kpassU ?_ | ((first | refine AtT.kfieldO fo45_2 ?_ | with_reducible refine AtT.kfield2 fo45_2 ?_ | refine AtT.kfield fo45_2 ?_)))
    all_goals (first | refine AtT.kpass ?_ | refine AtT.kpassU ?_ | ((first | refine AtT.kloadO tk3 ?_ | refine AtT.kload tk3 ?_)))
    all_goals (first | refine AtT.kpass ?_ | refine AtT.kpassU ?_ | ((refine AtT.klss ?_)))
    all_goals (refine AtT.kpick ?_)
    all_goals (refine AtT.kmove ?_)
    all_goals (first | refine AtT.kL 50 ?_ | refine AtT.pcase (d := 50) rfl (fun hg50 => ?_) (fun hg50 => ?_) | refine AtT.bcase (d := 50) rfl (fun hg50 => ?_) (fun hg50 => ?_))
    all_goals (first | refine AtT.kpass ?_ | refine AtT.kpassU ?_ | ((first | refine AtT.kfieldO fo45_3 ?_ | with_reducible refine AtT.kfield2 fo45_3 ?_ | refine AtT.kfield fo45_3 ?_)))
    all_goals (first | refine AtT.kpass ?_ | refine AtT.kpassU ?_ | ((first | refine AtT.kloadO tk3 ?_ | refine AtT.kload tk3 ?_)))
    all_goals (first | refine AtT.kpass ?_ | refine AtT.kpassU ?_ | ((refine AtT.keqI ?_)))
    all_goals (first | refine AtT.kpass ?_ | refine AtT.kpassU ?_ | ((refine AtT.kmove ?_)))
    all_goals (first | refine AtT.kL 54 ?_ | refine AtT.pcase (d := 54) rfl (fun hg54 => ?_) (fun hg54 => ?_) | refine AtT.bcase (d := 54) rfl (fun hg54 => ?_) (fun hg54 => ?_))
    all_goals (first | refine AtT.kpass ?_ | refine AtT.kpassU ?_ | ((first | refine AtT.kfieldO fo45_3 ?_ | with_reducible refine AtT.kfield2 fo45_3 ?_ | refine AtT.kfield fo45_3 ?_)))
    all_goals (first | refine AtT.kpass ?_ | refine AtT.kpassU ?_ | ((first | refine AtT.kloadO tk3 ?_ | refine AtT.kload tk3 ?_)))
    all_goals (first | refine AtT.kpass ?_ | refine AtT.kpassU ?_ | ((refine AtT.keqI ?_)))
    all_goals (first | refine AtT.kpass ?_ | refine AtT.kpassU ?_ | ((refine AtT.kpick ?_)))
    all_goals (refine AtT.kpick ?_)
    all_goals (refine AtT.kassign ?_)
    all_goals refine AtT.done ?_
    all_goals (refine At.nrm ?_)
    all_goals (refine At.ret1 rfl (.tmp rfl) ?_)
    all_goals (show Value.bool _ = Value.bool _; congr 1; rw [Bool.eq_iff_iff]; simp [*]; try omega)

theorem between_f (L : Lg) (p : Pf) (x y : Int) (V : View) (v : Value) (hv : LogV V v L) (hL : LgOk L) (hp : PfOk L p) (hx : -1000 ≤ x ∧ x ≤ 1000) (hy : -1000 ≤ y ∧ y ≤ 1000) :
    Fnc Try.prog 86 [v, pfv p, iv x, iv y] V fun r _ => r = iv (x * rgtP L p + y * lftP L p) := by
  obtain ⟨a, c, a', c', rfl, h2, h3⟩ := hv
  obtain ⟨f0, fm, ml, ln, one, many⟩ := hp
  have a1 := hL.plB f0 (by omega)
  have a2 := hL.plB (i := p.m) (by omega) (by omega)
  have a3 := hL.plB (i := p.l) (by omega) (by omega)
  have hr : -100 ≤ rgtP L p ∧ rgtP L p ≤ 100 := by unfold rgtP; omega
  have hl : -100 ≤ lftP L p ∧ lftP L p ≤ 100 := by unfold lftP; omega
  have m1 := mul_bd (a := x) (b := rgtP L p) (A := 1000) (B := 100) (by decide) (by decide) (by omega) (by omega) (by omega) (by omega)
  have m2 := mul_bd (a := y) (b := lftP L p) (A := 1000) (B := 100) (by decide) (by decide) (by omega) (by omega) (by omega) (by omega)
  unfold rgtP at m1
  unfold lftP at m2
  unfold rgtP lftP
  refine fn_of Try.func86 rfl Try.ntmps86 (Nat.le_of_ble_eq_true rfl) ?_
  intro w0 hw0
  refine At.nrm ?_
  refine At.ktext (.n false 0 (.n false 1 (.q 2 .done))) ?_
  refine AtT.kbox ?_
  intro b4
  refine AtT.kbox ?_
  intro b5
  refine AtT.kassign ?_
  refine AtT.done ?_
  refine At.nrm ?_
  refine At.draw (.q 0 (.q 1 (.q 2 (.q 3 (.q 4 (.q 5 (.q 6 (.q 7 (.q 8 (.q 9 (.q 10 (.q 11 (.q 12 (.q 13 (.q 14 (.q 15 (.q 16 (.q 17 (.q 18 (.q 19 (.q 20 .done))))))))))))))))))))) ffm (by kernel_rfl) ?_
  first | refine AtT.kfieldO fo25_0 ?_ | with_reducible refine AtT.kfield2 fo25_0 ?_ | refine AtT.kfield fo25_0 ?_
  first | refine AtT.kloadO tk22 ?_ | refine AtT.kload tk22 ?_
  first | refine AtT.kfieldO fo45_0 ?_ | with_reducible refine AtT.kfield2 fo45_0 ?_ | refine AtT.kfield fo45_0 ?_
  first | refine AtT.kloadO tk3 ?_ | refine AtT.kload tk3 ?_
  refine AtT.kidx Try.underlying22 tk2 ?_
  intro p16 e16 he16 hc16
  obtain rfl := plP_some he16
  first | refine AtT.kloadO tk2 ?_ | refine AtT.kload tk2 ?_
  first | refine AtT.kfieldO fo25_0 ?_ | with_reducible refine AtT.kfield2 fo25_0 ?_ | refine AtT.kfield fo25_0 ?_
  first | refine AtT.kloadO tk22 ?_ | refine AtT.kload tk22 ?_
  first | refine AtT.kfieldO fo45_1 ?_ | with_reducible refine AtT.kfield2 fo45_1 ?_ | refine AtT.kfield fo45_1 ?_
  first | refine AtT.kloadO tk3 ?_ | refine AtT.kload tk3 ?_
  refine AtT.kidx Try.underlying22 tk2 ?_
  intro p22 e22 he22 hc22
  obtain rfl := plP_some he22
  first | refine AtT.kloadO tk2 ?_ | refine AtT.kload tk2 ?_
  first | refine AtT.kfieldO fo25_0 ?_ | with_reducible refine AtT.kfield2 fo25_0 ?_ | refine AtT.kfield fo25_0 ?_
  first | refine AtT.kloadO tk22 ?_ | refine AtT.kload tk22 ?_
  first | refine AtT.kfieldO fo45_2 ?_ | with_reducible refine AtT.kfield2 fo45_2 ?_ | refine AtT.kfield fo45_2 ?_
  first | refine AtT.kloadO tk3 ?_ | refine AtT.kload tk3 ?_
  refine AtT.kidx Try.underlying22 tk2 ?_
  intro p28 e28 he28 hc28
  obtain rfl := plP_some he28
  first | refine AtT.kloadO tk2 ?_ | refine AtT.kload tk2 ?_
  refine AtT.kassign ?_
  refine AtT.kassign ?_
  refine AtT.kassign ?_
  refine AtT.done ?_
  refine At.nrm ?_
  refine At.ktext (.q 0 (.q 1 (.q 2 (.q 3 (.q 4 (.q 5 (.q 6 (.q 7 (.q 8 (.q 9 (.q 10 (.q 11 .done)))))))))))) ?_
  refine AtT.kmove ?_
  refine AtT.kmove ?_
  refine AtT.kmove ?_
  first | refine AtT.ksubt ?_ | refine AtT.ksubW ?_
  first | refine AtT.kmul ?_ | refine AtT.kmulW ?_
  refine AtT.kmove ?_
  refine AtT.kmove ?_
  refine AtT.kmove ?_
  first | refine AtT.ksubt ?_ | refine AtT.ksubW ?_
  first | refine AtT.kmul ?_ | refine AtT.kmulW ?_
  first | refine AtT.kadd ?_ | refine AtT.kaddW ?_
  refine AtT.kassign ?_
  refine AtT.done ?_
  refine At.nrm ?_
  exact At.ret1 rfl (.tmp rfl) rfl

theorem prov1 (eh fl ll r l : Int) : eh * (l + r) - (fl * r + ll * l) = (eh - fl) * r + (eh - ll) * l := by
  rw [Int.sub_mul, Int.sub_mul, Int.mul_add]; omega
theorem prov2 (el fh lh r l : Int) : fh * r + lh * l - el * (l + r) = (fh - el) * r + (lh - el) * l := by
  rw [Int.sub_mul, Int.sub_mul, Int.mul_add]; omega

theorem rproves_f (L : Lg) (p : Pf) (V : View) (v : Value) (hv : LogV V v L) (hL : LgOk L) (hp : PfOk L p) : Fnc Try.prog 69 [v, pfv p] V fun r _ => r = rtv (provV L p) := by
  have hv' := hv
  obtain ⟨a, c, a', c', rfl, h2, h3⟩ := hv
  obtain ⟨f0, fm, ml, ln, one, many⟩ := id hp
  obtain ⟨hpos, d0, d1, n0, n1⟩ := prov_bd hL hp
  have el := hL.el
  have e1 := hL.edB f0 (by omega)
  have e2 := hL.edB (i := p.m) (by omega) (by omega)
  have e3 := hL.edB (i := p.l) (by omega) (by omega)
  have a1 := hL.plB f0 (by omega)
  have a3 := hL.plB (i := p.l) (by omega) (by omega)
  have hw : plP L p.l - plP L p.f = lftP L p + rgtP L p := by unfold lftP rgtP; omega
  have m1 := mul_bd (a := (edP L p.m).hi) (b := plP L p.l - plP L p.f) (A := 1000) (B := 100) (by decide) (by decide) (by omega) (by omega) (by omega) (by omega)
  have m2 := mul_bd (a := (edP L p.m).lo) (b := plP L p.l - plP L p.f) (A := 1000) (B := 100) (by decide) (by decide) (by omega) (by omega) (by omega) (by omega)
  unfold provV
  refine fn_of Try.func69 rfl Try.ntmps69 (Nat.le_of_ble_eq_true rfl) ?_
  intro w0 hw0
  refine At.nrm ?_
  refine At.ktext (.n false 0 (.n false 1 (.n false 2 .done))) ?_
  refine AtT.kbox ?_
  intro b2
  refine AtT.kbox ?_
  intro b3
  refine AtT.kalloc z31 ?_
  intro b4
  refine AtT.done ?_
  refine At.nrm ?_
  refine At.draw (.q 0 (.q 1 (.q 2 (.q 3 (.q 4 (.q 5 (.q 6 (.q 7 (.q 8 (.q 9 (.q 10 (.q 11 (.q 12 (.q 13 (.q 14 (.q 15 (.q 16 (.q 17 (Tr.al 3 [18, 19, 20] (.n false 21 (.n false 22 (.n false 23 .done)))))))))))))))))))))) ffm (by kernel_rfl) ?_
  refine AtC.start ?_
  refine AtC.pre (fun hle0 => ?_)
  refine AtC.kq (by (first | refine AtT.kfieldO fo25_1 ?_ | with_reducible refine AtT.kfield2 fo25_1 ?_ | refine AtT.kfield fo25_1 ?_); exact At.knows) ?_
  refine AtC.kq (by (first | refine AtT.kloadO tk23 ?_ | refine AtT.kload tk23 ?_); exact At.knows) ?_
  refine AtC.kq (by (first | refine AtT.kfieldO fo45_1 ?_ | with_reducible refine AtT.kfield2 fo45_1 ?_ | refine AtT.kfield fo45_1 ?_); exact At.knows) ?_
  refine AtC.kq (by (first | refine AtT.kloadO tk3 ?_ | refine AtT.kload tk3 ?_); exact At.knows) ?_
  refine AtC.kidx Try.underlying23 tk69 ?_
  intro p13 e13 he13 hc13
  obtain rfl := edP_some he13
  refine AtC.kq (by (first | refine AtT.kloadOA tk69 ?_ | refine AtT.kloadA tk69 ?_ | refine AtT.kloadOP tk69 ?_); exact At.knows) ?_
  refine AtC.kq (by (first | refine AtT.kfieldO fo25_1 ?_ | with_reducible refine AtT.kfield2 fo25_1 ?_ | refine AtT.kfield fo25_1 ?_); exact At.knows) ?_
  refine AtC.kq (by (first | refine AtT.kloadO tk23 ?_ | refine AtT.kload tk23 ?_); exact At.knows) ?_
  refine AtC.kq (by (first | refine AtT.kfieldO fo45_0 ?_ | with_reducible refine AtT.kfield2 fo45_0 ?_ | refine AtT.kfield fo45_0 ?_); exact At.knows) ?_
  refine AtC.kq (by (first | refine AtT.kloadO tk3 ?_ | refine AtT.kload tk3 ?_); exact At.knows) ?_
  refine AtC.kidx Try.underlying23 tk69 ?_
  intro p19 e19 he19 hc19
  obtain rfl := edP_some he19
  refine AtC.kq (by (first | refine AtT.kloadOA tk69 ?_ | refine AtT.kloadA tk69 ?_ | refine AtT.kloadOP tk69 ?_); exact At.knows) ?_
  refine AtC.kq (by (first | refine AtT.kfieldO fo25_1 ?_ | with_reducible refine AtT.kfield2 fo25_1 ?_ | refine AtT.kfield fo25_1 ?_); exact At.knows) ?_
  refine AtC.kq (by (first | refine AtT.kloadO tk23 ?_ | refine AtT.kload tk23 ?_); exact At.knows) ?_
  refine AtC.kq (by (first | refine AtT.kfieldO fo45_2 ?_ | with_reducible refine AtT.kfield2 fo45_2 ?_ | refine AtT.kfield fo45_2 ?_); exact At.knows) ?_
  refine AtC.kq (by (first | refine AtT.kloadO tk3 ?_ | refine AtT.kload tk3 ?_); exact At.knows) ?_
  refine AtC.kidx Try.underlying23 tk69 ?_
  intro p25 e25 he25 hc25
  obtain rfl := edP_some he25
  refine AtC.kq (by (first | refine AtT.kloadOA tk69 ?_ | refine AtT.kloadA tk69 ?_ | refine AtT.kloadOP tk69 ?_); exact At.knows) ?_
  refine AtC.als3 ⟨⟨_, _, _, _, rfl, z69, rfl, by decide⟩, ⟨_, _, _, _, rfl, z69, rfl, by decide⟩, ⟨_, _, _, _, rfl, z69, rfl, by decide⟩, trivial⟩ (by decide) (by decide) (AtC.sub1 Pt.auto (by first | exact Le.refl _ | assumption | exact Le.trans (by assumption) (by assumption)) (by assumption)) ?_
  intro b5 b6 b7
  refine AtC.nz ?_
  refine AtT.kstoreA tk69 ?_
  refine AtC.kgo ?_
  refine AtC.nz ?_
  refine AtT.kstoreA tk69 ?_
  refine AtC.kgo ?_
  refine AtC.nz ?_
  refine AtT.kstoreA tk69 ?_
  refine AtC.kgo ?_
  refine AtC.done ?_
  refine At.nrm ?_
  refine At.ktext (.q 0 (.q 1 (.q 2 .done))) ?_
  first | refine AtT.kfieldO fo45_3 ?_ | with_reducible refine AtT.kfield2 fo45_3 ?_ | refine AtT.kfield fo45_3 ?_
  first | refine AtT.kloadO tk3 ?_ | refine AtT.kload tk3 ?_
  refine AtT.keqI ?_
  refine AtT.done ?_
  refine At.nrm ?_
  refine At.condP rfl (fun hb => ?_) (fun hb => ?_)
  · have hfl : p.f = p.l := Decidable.byContradiction fun h => by have := (many h).2.2; omega
    have hN : provN L p = (edP L p.m).hi - (edP L p.m).lo := by rw [provN, if_pos hfl]
    have hD : provD L p = 2 := by rw [provD, if_pos hfl]
    rw [hN, hD]
    refine At.nrm ?_
    refine At.ktext (.q 0 (.q 1 (.q 2 (.q 3 (.q 4 (.n false 5 (.n true 6 .done))))))) ?_
    first | refine AtT.kfieldO fo69_1 ?_ | with_reducible refine AtT.kfield2 fo69_1 ?_ | refine AtT.kfield fo69_1 ?_
    first | refine AtT.kloadO tk2 ?_ | refine AtT.kload tk2 ?_
    first | refine AtT.kfieldO fo69_0 ?_ | with_reducible refine AtT.kfield2 fo69_0 ?_ | refine AtT.kfield fo69_0 ?_
    first | refine AtT.kloadO tk2 ?_ | refine AtT.kload tk2 ?_
    first | refine AtT.ksubt ?_ | refine AtT.ksubW ?_
    refine AtT.kcallP rfl rfl ok51 (by_r _ _ _ (by omega) (by omega) (by omega) (by omega)) ?_
    rintro _ rfl
    refine AtT.kstoreA tk31 ?_
    refine AtT.done ?_
    refine At.nrm ?_
    exact At.ret1 rfl (.agg rfl tk31 Pick.auto rfl) rfl
  have hfl : p.f ≠ p.l := fun h => hb (one h)
  obtain ⟨l0, l1, r0, r1⟩ := hpos hfl
  have hD : provD L p = 2 * (plP L p.l - plP L p.f) := by rw [provD, if_neg hfl, hw]
  have b1 := mul_bd (a := (edP L p.f).lo) (b := rgtP L p) (A := 1000) (B := 100) (by decide) (by decide) (by omega) (by omega) (by omega) (by omega)
  have b2 := mul_bd (a := (edP L p.l).lo) (b := lftP L p) (A := 1000) (B := 100) (by decide) (by decide) (by omega) (by omega) (by omega) (by omega)
  have b3' := mul_bd (a := (edP L p.f).hi) (b := rgtP L p) (A := 1000) (B := 100) (by decide) (by decide) (by omega) (by omega) (by omega) (by omega)
  have b4' := mul_bd (a := (edP L p.l).hi) (b := lftP L p) (A := 1000) (B := 100) (by decide) (by decide) (by omega) (by omega) (by omega) (by omega)
  rw [hD]
  refine At.nrm ?_
  refine At.draw (.q 0 (.q 1 (.q 2 (.q 3 (.q 4 (.q 5 (.q 6 (.q 7 (.q 8 (.q 9 (.q 10 (.q 11 (.q 12 (.q 13 .done)))))))))))))) ffm (by kernel_rfl) ?_
  first | refine AtT.kfieldO fo25_0 ?_ | with_reducible refine AtT.kfield2 fo25_0 ?_ | refine AtT.kfield fo25_0 ?_
  first | refine AtT.kloadO tk22 ?_ | refine AtT.kload tk22 ?_
  first | refine AtT.kfieldO fo45_2 ?_ | with_reducible refine AtT.kfield2 fo45_2 ?_ | refine AtT.kfield fo45_2 ?_
  first | refine AtT.kloadO tk3 ?_ | refine AtT.kload tk3 ?_
  refine AtT.kidx Try.underlying22 tk2 ?_
  intro p40 e40 he40 hc40
  obtain rfl := plP_some he40
  first | refine AtT.kloadO tk2 ?_ | refine AtT.kload tk2 ?_
  first | refine AtT.kfieldO fo25_0 ?_ | with_reducible refine AtT.kfield2 fo25_0 ?_ | refine AtT.kfield fo25_0 ?_
  first | refine AtT.kloadO tk22 ?_ | refine AtT.kload tk22 ?_
  first | refine AtT.kfieldO fo45_0 ?_ | with_reducible refine AtT.kfield2 fo45_0 ?_ | refine AtT.kfield fo45_0 ?_
  first | refine AtT.kloadO tk3 ?_ | refine AtT.kload tk3 ?_
  refine AtT.kidx Try.underlying22 tk2 ?_
  intro p46 e46 he46 hc46
  obtain rfl := plP_some he46
  first | refine AtT.kloadO tk2 ?_ | refine AtT.kload tk2 ?_
  first | refine AtT.ksubt ?_ | refine AtT.ksubW ?_
  refine AtT.kassign ?_
  refine AtT.done ?_
  refine At.nrm ?_
  refine At.ktext (.q 0 (.q 1 (.q 2 .done))) ?_
  first | refine AtT.kfieldO fo45_3 ?_ | with_reducible refine AtT.kfield2 fo45_3 ?_ | refine AtT.kfield fo45_3 ?_
  first | refine AtT.kloadO tk3 ?_ | refine AtT.kload tk3 ?_
  refine AtT.keqI ?_
  refine AtT.done ?_
  refine At.nrm ?_
  refine At.condP rfl (fun hs => ?_) (fun hs => ?_)
  · have hN : provN L p = (edP L p.m).hi * (plP L p.l - plP L p.f) - ((edP L p.f).lo * rgtP L p + (edP L p.l).lo * lftP L p) := by
      rw [provN, if_neg hfl, if_pos hs, hw, prov1]
    rw [hN]
    refine At.nrm ?_
    refine At.draw (.q 0 (.q 1 (.q 2 (.q 3 (.q 4 (.q 5 (.q 6 (.q 7 (.q 8 (.q 9 (.q 12 (.q 13 (.n false 10 (.q 11 (.n false 14 (.n true 15 .done)))))))))))))))) ffm (by kernel_rfl) ?_
    first | refine AtT.kfieldO fo69_1 ?_ | with_reducible refine AtT.kfield2 fo69_1 ?_ | refine AtT.kfield fo69_1 ?_
    first | refine AtT.kloadO tk2 ?_ | refine AtT.kload tk2 ?_
    refine AtT.kmove ?_
    first | refine AtT.kmul ?_ | refine AtT.kmulW ?_
    first | refine AtT.kloadOA tk25 ?_ | refine AtT.kloadA tk25 ?_ | refine AtT.kloadOP tk25 ?_
    first | refine AtT.kloadOA tk45 ?_ | refine AtT.kloadA tk45 ?_ | refine AtT.kloadOP tk45 ?_
    first | refine AtT.kfieldO fo69_0 ?_ | with_reducible refine AtT.kfield2 fo69_0 ?_ | refine AtT.kfield fo69_0 ?_
    first | refine AtT.kloadO tk2 ?_ | refine AtT.kload tk2 ?_
    first | refine AtT.kfieldO fo69_0 ?_ | with_reducible refine AtT.kfield2 fo69_0 ?_ | refine AtT.kfield fo69_0 ?_
    first | refine AtT.kloadO tk2 ?_ | refine AtT.kload tk2 ?_
    refine AtT.kmove ?_
    first | refine AtT.kmul ?_ | refine AtT.kmulW ?_
    refine AtT.kcallP rfl rfl ok86 (between_f L p _ _ _ _ hv' hL hp (by omega) (by omega)) ?_
    rintro _ rfl
    first | refine AtT.ksubt ?_ | refine AtT.ksubW ?_
    refine AtT.kcallP rfl rfl ok51 (by_r _ _ _ (by omega) (by omega) (by omega) (by omega)) ?_
    rintro _ rfl
    refine AtT.kstoreA tk31 ?_
    refine AtT.done ?_
    refine At.nrm ?_
    exact At.ret1 rfl (.agg rfl tk31 Pick.auto rfl) rfl
  · have hN : provN L p = ((edP L p.f).hi * rgtP L p + (edP L p.l).hi * lftP L p) - (edP L p.m).lo * (plP L p.l - plP L p.f) := by
      rw [provN, if_neg hfl, if_neg hs, hw, prov2]
    rw [hN]
    refine At.nrm ?_
    refine At.draw (.q 0 (.q 1 (.q 2 (.q 3 (.q 4 (.q 5 (.q 7 (.q 8 (.q 9 (.q 10 (.q 12 (.q 13 (.n false 6 (.q 11 (.n false 14 (.n true 15 .done)))))))))))))))) ffm (by kernel_rfl) ?_
    first | refine AtT.kloadOA tk25 ?_ | refine AtT.kloadA tk25 ?_ | refine AtT.kloadOP tk25 ?_
    first | refine AtT.kloadOA tk45 ?_ | refine AtT.kloadA tk45 ?_ | refine AtT.kloadOP tk45 ?_
    first | refine AtT.kfieldO fo69_1 ?_ | with_reducible refine AtT.kfield2 fo69_1 ?_ | refine AtT.kfield fo69_1 ?_
    first | refine AtT.kloadO tk2 ?_ | refine AtT.kload tk2 ?_
    first | refine AtT.kfieldO fo69_1 ?_ | with_reducible refine AtT.kfield2 fo69_1 ?_ | refine AtT.kfield fo69_1 ?_
    first | refine AtT.kloadO tk2 ?_ | refine AtT.kload tk2 ?_
    first | refine AtT.kfieldO fo69_0 ?_ | with_reducible refine AtT.kfield2 fo69_0 ?_ | refine AtT.kfield fo69_0 ?_
    first | refine AtT.kloadO tk2 ?_ | refine AtT.kload tk2 ?_
    refine AtT.kmove ?_
    first | refine AtT.kmul ?_ | refine AtT.kmulW ?_
    refine AtT.kmove ?_
    first | refine AtT.kmul ?_ | refine AtT.kmulW ?_
    refine AtT.kcallP rfl rfl ok86 (between_f L p _ _ _ _ hv' hL hp (by omega) (by omega)) ?_
    rintro _ rfl
    first | refine AtT.ksubt ?_ | refine AtT.ksubW ?_
    refine AtT.kcallP rfl rfl ok51 (by_r _ _ _ (by omega) (by omega) (by omega) (by omega)) ?_
    rintro _ rfl
    refine AtT.kstoreA tk31 ?_
    refine AtT.done ?_
    refine At.nrm ?_
    exact At.ret1 rfl (.agg rfl tk31 Pick.auto rfl) rfl

theorem proves_f (L : Lg) (p : Pf) (V : View) (q : Addr) (hv : LathV V q L) (hL : LgOk L) (hp : PfOk L p) : Fnc Try.prog 67 [.pointer (some q), pfv p] V fun r _ => r = rtv (provV L p) := by
  obtain ⟨a, c, a', c', h1, h2, h3⟩ := hv
  obtain ⟨f0, fm, ml, ln, one, many⟩ := id hp
  obtain ⟨hpos, d0, d1, n0, n1⟩ := prov_bd hL hp
  have el := hL.el
  have e1 := hL.edB f0 (by omega)
  have e2 := hL.edB (i := p.m) (by omega) (by omega)
  have e3 := hL.edB (i := p.l) (by omega) (by omega)
  have a1 := hL.plB f0 (by omega)
  have a2 := hL.plB (i := p.m) (by omega) (by omega)
  have a3 := hL.plB (i := p.l) (by omega) (by omega)
  unfold provV
  refine fn_of Try.func67 rfl Try.ntmps67 (Nat.le_of_ble_eq_true rfl) ?_
  intro w0 hw0
  refine At.nrm ?_
  refine At.ktext (.n false 0 (.n false 1 .done)) ?_
  refine AtT.kbox ?_
  intro b3
  refine AtT.kalloc z31 ?_
  intro b4
  refine AtT.done ?_
  refine At.nrm ?_
  refine At.ktext (.q 0 (.q 1 (.q 2 (.q 3 (.q 4 (.q 5 (.q 6 (.n false 7 (.n true 8 .done))))))))) ?_
  first | refine AtT.kfieldO fo45_0 ?_ | with_reducible refine AtT.kfield2 fo45_0 ?_ | refine AtT.kfield fo45_0 ?_
  first | refine AtT.kloadO tk3 ?_ | refine AtT.kload tk3 ?_
  first | refine AtT.kfieldO fo45_1 ?_ | with_reducible refine AtT.kfield2 fo45_1 ?_ | refine AtT.kfield fo45_1 ?_
  first | refine AtT.kloadO tk3 ?_ | refine AtT.kload tk3 ?_
  first | refine AtT.kfieldO fo45_2 ?_ | with_reducible refine AtT.kfield2 fo45_2 ?_ | refine AtT.kfield fo45_2 ?_
  first | refine AtT.kloadO tk3 ?_ | refine AtT.kload tk3 ?_
  refine AtT.kbuild (bd122_0_1_2 _ _ _) ?_
  refine AtT.kalloc z122 ?_
  intro b5
  refine AtT.kstoreA tk122 ?_
  refine AtT.done ?_
  refine At.nrm ?_
  refine At.draw (.q 0 (.q 1 (.q 2 (.q 3 (.q 4 (.q 5 (.q 6 (.q 7 (.q 8 (.n false 9 (.n true 10 .done))))))))))) ffm (by kernel_rfl) ?_
  refine AtT.kmove ?_
  refine AtT.knil ?_
  first | refine AtT.kfieldO fo106_0 ?_ | with_reducible refine AtT.kfield2 fo106_0 ?_ | refine AtT.kfield fo106_0 ?_
  first | refine AtT.kfieldO fo25_1 ?_ | with_reducible refine AtT.kfield2 fo25_1 ?_ | refine AtT.kfield fo25_1 ?_
  first | refine AtT.kloadO tk23 ?_ | refine AtT.kload tk23 ?_
  first | refine AtT.kfieldO fo45_1 ?_ | with_reducible refine AtT.kfield2 fo45_1 ?_ | refine AtT.kfield fo45_1 ?_
  first | refine AtT.kloadO tk3 ?_ | refine AtT.kload tk3 ?_
  refine AtT.kidx Try.underlying23 tk69 ?_
  intro p25 e25 he25 hc25
  obtain rfl := edP_some he25
  first | refine AtT.kloadOA tk69 ?_ | refine AtT.kloadA tk69 ?_ | refine AtT.kloadOP tk69 ?_
  refine AtT.kalloc z69 ?_
  intro b6
  refine AtT.kstoreA tk69 ?_
  refine AtT.done ?_
  refine At.nrm ?_
  refine At.cutG (ι := Unit) (fun _ => [(0, .pointer (some q)), (3, .pointer (some ⟨b3, 0, none⟩)), (4, .pointer (some ⟨b4, 0, none⟩)), (6, .pointer (some ⟨b6, 0, none⟩)), (36, .bool (decide (p.f = p.l)))]) (fun _ => [.blk b3 (LC [iv p.f, iv p.m, iv p.l, iv p.s] 45), .blk b4 (LC [iv 0, iv 0] 31), .blk b6 (LC [iv (edP L p.m).lo, iv (edP L p.m).hi] 69)]) (fun _ V' => V = V') ?_ ?_
  · refine At.ktext (.q 0 (.q 1 (.q 2 (.q 3 (.q 4 (.q 5 (.q 6 (.q 7 (.q 8 (.q 9 .done)))))))))) ?_
    first | refine AtT.kloadOA tk122 ?_ | refine AtT.kloadA tk122 ?_ | refine AtT.kloadOP tk122 ?_
    refine AtT.kbuild (bd122) ?_
    refine AtT.keqS (eqS122 _ _ _ _ _ _) ?_
    refine AtT.kmove ?_
    all_goals (first | refine AtT.kL 30 ?_ | refine AtT.pcase (d := 30) rfl (fun hg30 => ?_) (fun hg30 => ?_) | refine AtT.bcase (d := 30) rfl (fun hg30 => ?_) (fun hg30 => ?_))
    all_goals (first | refine AtT.kpass ?_ | refine AtT.kpassU ?_ | ((first | refine AtT.kfieldO fo45_0 ?_ | with_reducible refine AtT.kfield2 fo45_0 ?_ | refine AtT.kfield fo45_0 ?_)))
    all_goals (first | refine AtT.kpass ?_ | refine AtT.kpassU ?_ | ((first | refine AtT.kloadO tk3 ?_ | refine AtT.kload tk3 ?_)))
    all_goals (first | refine AtT.kpass ?_ | refine AtT.kpassU ?_ | ((first | refine AtT.kfieldO fo45_2 ?_ | with_reducible refine AtT.kfield2 fo45_2 ?_ | refine AtT.kfield fo45_2 ?_)))
    all_goals (first | refine AtT.kpass ?_ | refine AtT.kpassU ?_ | ((first | refine AtT.kloadO tk3 ?_ | refine AtT.kload tk3 ?_)))
    all_goals (first | refine AtT.kpass ?_ | refine AtT.kpassU ?_ | ((refine AtT.keqI ?_)))
    all_goals (refine AtT.kpick ?_)
    all_goals refine AtT.done ?_
    all_goals (refine At.nrm ?_)
    all_goals (refine At.meetG () rfl ⟨rfl, rfl, rfl, rfl, bsome ?_, trivial⟩ ?_)
    all_goals (first | (repeat (first | exact Pt.nil | refine Pt.cons Pick.auto ?_)); done | skip)
    all_goals (first | (rw [Bool.eq_iff_iff]; simp [*]; done) | (rw [Bool.eq_iff_iff]; simp [*]; omega) | simp [*])
  rintro _ _ ks' O' rfl hk hO hl
  subst hk hO
  refine At.condP rfl (fun hfl => ?_) (fun hfl => ?_)
  · have hN : provN L p = (edP L p.m).hi - (edP L p.m).lo := by rw [provN, if_pos hfl]
    have hD : provD L p = 2 := by rw [provD, if_pos hfl]
    rw [hN, hD]
    refine At.nrm ?_
    refine At.ktext (.q 0 (.q 1 (.q 2 (.q 3 (.q 4 (.n false 5 (.n true 6 .done))))))) ?_
    first | refine AtT.kfieldO fo69_1 ?_ | with_reducible refine AtT.kfield2 fo69_1 ?_ | refine AtT.kfield fo69_1 ?_
    first | refine AtT.kloadO tk2 ?_ | refine AtT.kload tk2 ?_
    first | refine AtT.kfieldO fo69_0 ?_ | with_reducible refine AtT.kfield2 fo69_0 ?_ | refine AtT.kfield fo69_0 ?_
    first | refine AtT.kloadO tk2 ?_ | refine AtT.kload tk2 ?_
    first | refine AtT.ksubt ?_ | refine AtT.ksubW ?_
    refine AtT.kcallP rfl rfl ok76 (by_f _ _ _ (by omega) (by omega) (by omega) (by omega)) ?_
    rintro _ rfl
    refine AtT.kstoreA tk31 ?_
    refine AtT.done ?_
    refine At.nrm ?_
    exact At.ret1 rfl (.agg rfl tk31 Pick.auto rfl) rfl
  obtain ⟨l0, l1, r0, r1⟩ := hpos hfl
  have hD : provD L p = 2 * (lftP L p + rgtP L p) := by rw [provD, if_neg hfl]
  have b1 := mul_bd (a := (edP L p.m).hi - (edP L p.f).lo) (b := rgtP L p) (A := 2000) (B := 100) (by decide) (by decide) (by omega) (by omega) (by omega) (by omega)
  have b2 := mul_bd (a := (edP L p.m).hi - (edP L p.l).lo) (b := lftP L p) (A := 2000) (B := 100) (by decide) (by decide) (by omega) (by omega) (by omega) (by omega)
  have b3' := mul_bd (a := (edP L p.f).hi - (edP L p.m).lo) (b := rgtP L p) (A := 2000) (B := 100) (by decide) (by decide) (by omega) (by omega) (by omega) (by omega)
  have b4' := mul_bd (a := (edP L p.l).hi - (edP L p.m).lo) (b := lftP L p) (A := 2000) (B := 100) (by decide) (by decide) (by omega) (by omega) (by omega) (by omega)
  rw [hD]
  refine At.nrm ?_
  refine At.draw (.q 0 (.q 1 (.q 2 (.q 3 (.q 4 (.q 5 (.q 6 (.q 7 (.q 8 (.q 9 (.q 10 (.q 11 (.q 12 (.q 13 (.q 14 (.q 15 (.q 16 (.q 17 (.q 18 (.q 19 (.q 20 (.q 21 (.q 22 (.q 23 (.q 24 (.q 25 (.q 26 (.q 27 (.q 28 (.q 29 (.q 30 (.q 31 (.q 32 (.q 33 (.q 34 (.q 35 (.q 36 (.q 37 (.q 38 (.q 39 .done)))))))))))))))))))))))))))))))))))))))) ffm (by kernel_rfl) ?_
  refine AtT.kmove ?_
  refine AtT.knil ?_
  first | refine AtT.kfieldO fo106_0 ?_ | with_reducible refine AtT.kfield2 fo106_0 ?_ | refine AtT.kfield fo106_0 ?_
  first | refine AtT.kfieldO fo25_0 ?_ | with_reducible refine AtT.kfield2 fo25_0 ?_ | refine AtT.kfield fo25_0 ?_
  first | refine AtT.kloadO tk22 ?_ | refine AtT.kload tk22 ?_
  first | refine AtT.kfieldO fo45_1 ?_ | with_reducible refine AtT.kfield2 fo45_1 ?_ | refine AtT.kfield fo45_1 ?_
  first | refine AtT.kloadO tk3 ?_ | refine AtT.kload tk3 ?_
  refine AtT.kidx Try.underlying22 tk2 ?_
  intro p50 e50 he50 hc50
  obtain rfl := plP_some he50
  first | refine AtT.kloadO tk2 ?_ | refine AtT.kload tk2 ?_
  refine AtT.kmove ?_
  refine AtT.knil ?_
  first | refine AtT.kfieldO fo106_0 ?_ | with_reducible refine AtT.kfield2 fo106_0 ?_ | refine AtT.kfield fo106_0 ?_
  first | refine AtT.kfieldO fo25_0 ?_ | with_reducible refine AtT.kfield2 fo25_0 ?_ | refine AtT.kfield fo25_0 ?_
  first | refine AtT.kloadO tk22 ?_ | refine AtT.kload tk22 ?_
  first | refine AtT.kfieldO fo45_0 ?_ | with_reducible refine AtT.kfield2 fo45_0 ?_ | refine AtT.kfield fo45_0 ?_
  first | refine AtT.kloadO tk3 ?_ | refine AtT.kload tk3 ?_
  refine AtT.kidx Try.underlying22 tk2 ?_
  intro p59 e59 he59 hc59
  obtain rfl := plP_some he59
  first | refine AtT.kloadO tk2 ?_ | refine AtT.kload tk2 ?_
  first | refine AtT.ksubt ?_ | refine AtT.ksubW ?_
  refine AtT.kmove ?_
  refine AtT.knil ?_
  first | refine AtT.kfieldO fo106_0 ?_ | with_reducible refine AtT.kfield2 fo106_0 ?_ | refine AtT.kfield fo106_0 ?_
  first | refine AtT.kfieldO fo25_0 ?_ | with_reducible refine AtT.kfield2 fo25_0 ?_ | refine AtT.kfield fo25_0 ?_
  first | refine AtT.kloadO tk22 ?_ | refine AtT.kload tk22 ?_
  first | refine AtT.kfieldO fo45_2 ?_ | with_reducible refine AtT.kfield2 fo45_2 ?_ | refine AtT.kfield fo45_2 ?_
  first | refine AtT.kloadO tk3 ?_ | refine AtT.kload tk3 ?_
  refine AtT.kidx Try.underlying22 tk2 ?_
  intro p69 e69 he69 hc69
  obtain rfl := plP_some he69
  first | refine AtT.kloadO tk2 ?_ | refine AtT.kload tk2 ?_
  refine AtT.kmove ?_
  refine AtT.knil ?_
  first | refine AtT.kfieldO fo106_0 ?_ | with_reducible refine AtT.kfield2 fo106_0 ?_ | refine AtT.kfield fo106_0 ?_
  first | refine AtT.kfieldO fo25_0 ?_ | with_reducible refine AtT.kfield2 fo25_0 ?_ | refine AtT.kfield fo25_0 ?_
  first | refine AtT.kloadO tk22 ?_ | refine AtT.kload tk22 ?_
  first | refine AtT.kfieldO fo45_1 ?_ | with_reducible refine AtT.kfield2 fo45_1 ?_ | refine AtT.kfield fo45_1 ?_
  first | refine AtT.kloadO tk3 ?_ | refine AtT.kload tk3 ?_
  refine AtT.kidx Try.underlying22 tk2 ?_
  intro p78 e78 he78 hc78
  obtain rfl := plP_some he78
  first | refine AtT.kloadO tk2 ?_ | refine AtT.kload tk2 ?_
  first | refine AtT.ksubt ?_ | refine AtT.ksubW ?_
  refine AtT.kassign ?_
  refine AtT.kassign ?_
  refine AtT.done ?_
  refine At.nrm ?_
  refine At.draw (.q 0 (.q 1 (.q 2 (.q 3 (.q 4 (.q 5 (.q 6 (.q 7 (.q 8 (.q 9 (.q 10 (.q 11 (.q 12 (.q 13 (.q 14 (.q 15 (.q 16 (.q 17 (Tr.al 2 [18, 19] (.n false 20 (.n false 21 .done))))))))))))))))))))) ffm (by kernel_rfl) ?_
  refine AtC.start ?_
  refine AtC.pre (fun hle0 => ?_)
  refine AtC.kq (by (refine AtT.kmove ?_); exact At.knows) ?_
  refine AtC.kq (by (refine AtT.knil ?_); exact At.knows) ?_
  refine AtC.kq (by (first | refine AtT.kfieldO fo106_0 ?_ | with_reducible refine AtT.kfield2 fo106_0 ?_ | refine AtT.kfield fo106_0 ?_); exact At.knows) ?_
  refine AtC.kq (by (first | refine AtT.kfieldO fo25_1 ?_ | with_reducible refine AtT.kfield2 fo25_1 ?_ | refine AtT.kfield fo25_1 ?_); exact At.knows) ?_
  refine AtC.kq (by (first | refine AtT.kloadO tk23 ?_ | refine AtT.kload tk23 ?_); exact At.knows) ?_
  refine AtC.kq (by (first | refine AtT.kfieldO fo45_0 ?_ | with_reducible refine AtT.kfield2 fo45_0 ?_ | refine AtT.kfield fo45_0 ?_); exact At.knows) ?_
  refine AtC.kq (by (first | refine AtT.kloadO tk3 ?_ | refine AtT.kload tk3 ?_); exact At.knows) ?_
  refine AtC.kidx Try.underlying23 tk69 ?_
  intro p88 e88 he88 hc88
  obtain rfl := edP_some he88
  refine AtC.kq (by (first | refine AtT.kloadOA tk69 ?_ | refine AtT.kloadA tk69 ?_ | refine AtT.kloadOP tk69 ?_); exact At.knows) ?_
  refine AtC.kq (by (refine AtT.kmove ?_); exact At.knows) ?_
  refine AtC.kq (by (refine AtT.knil ?_); exact At.knows) ?_
  refine AtC.kq (by (first | refine AtT.kfieldO fo106_0 ?_ | with_reducible refine AtT.kfield2 fo106_0 ?_ | refine AtT.kfield fo106_0 ?_); exact At.knows) ?_
  refine AtC.kq (by (first | refine AtT.kfieldO fo25_1 ?_ | with_reducible refine AtT.kfield2 fo25_1 ?_ | refine AtT.kfield fo25_1 ?_); exact At.knows) ?_
  refine AtC.kq (by (first | refine AtT.kloadO tk23 ?_ | refine AtT.kload tk23 ?_); exact At.knows) ?_
  refine AtC.kq (by (first | refine AtT.kfieldO fo45_2 ?_ | with_reducible refine AtT.kfield2 fo45_2 ?_ | refine AtT.kfield fo45_2 ?_); exact At.knows) ?_
  refine AtC.kq (by (first | refine AtT.kloadO tk3 ?_ | refine AtT.kload tk3 ?_); exact At.knows) ?_
  refine AtC.kidx Try.underlying23 tk69 ?_
  intro p97 e97 he97 hc97
  obtain rfl := edP_some he97
  refine AtC.kq (by (first | refine AtT.kloadOA tk69 ?_ | refine AtT.kloadA tk69 ?_ | refine AtT.kloadOP tk69 ?_); exact At.knows) ?_
  refine AtC.als2 ⟨⟨_, _, _, _, rfl, z69, rfl, by decide⟩, ⟨_, _, _, _, rfl, z69, rfl, by decide⟩, trivial⟩ (by decide) (by decide) (AtC.sub1 Pt.auto (by first | exact Le.refl _ | assumption | exact Le.trans (by assumption) (by assumption)) (by assumption)) ?_
  intro b9 b10
  refine AtC.nz ?_
  refine AtT.kstoreA tk69 ?_
  refine AtC.kgo ?_
  refine AtC.nz ?_
  refine AtT.kstoreA tk69 ?_
  refine AtC.kgo ?_
  refine AtC.done ?_
  refine At.nrm ?_
  all_goals (refine At.sub (ks' := [(3, .pointer (some ⟨b3, 0, none⟩)), (4, .pointer (some ⟨b4, 0, none⟩)), (6, .pointer (some ⟨b6, 0, none⟩)), (7, iv (lftP L p)), (8, iv (rgtP L p)), (9, .pointer (some ⟨b9, 0, none⟩)), (10, .pointer (some ⟨b10, 0, none⟩))]) ⟨rfl, rfl, rfl, rfl, rfl, rfl, rfl, trivial⟩ ?_)
  refine At.ktext (.q 0 (.q 1 (.q 2 .done))) ?_
  first | refine AtT.kfieldO fo45_3 ?_ | with_reducible refine AtT.kfield2 fo45_3 ?_ | refine AtT.kfield fo45_3 ?_
  first | refine AtT.kloadO tk3 ?_ | refine AtT.kload tk3 ?_
  refine AtT.keqI ?_
  refine AtT.done ?_
  refine At.nrm ?_
  refine At.condP rfl (fun hs => ?_) (fun hs => ?_)
  · have hN : provN L p = ((edP L p.m).hi - (edP L p.f).lo) * rgtP L p + ((edP L p.m).hi - (edP L p.l).lo) * lftP L p := by
      rw [provN, if_neg hfl, if_pos hs]
    rw [hN]
    refine At.nrm ?_
    refine At.ktext (.q 0 (.q 1 (.q 2 (.q 3 (.q 4 (.q 5 (.q 6 (.q 7 (.q 8 (.q 9 (.q 10 (.q 11 (.q 12 (.q 13 (.q 14 (.q 15 (.q 16 (.q 17 (.q 18 (.n false 19 (.n true 20 .done))))))))))))))))))))) ?_
    first | refine AtT.kfieldO fo69_1 ?_ | with_reducible refine AtT.kfield2 fo69_1 ?_ | refine AtT.kfield fo69_1 ?_
    first | refine AtT.kloadO tk2 ?_ | refine AtT.kload tk2 ?_
    first | refine AtT.kfieldO fo69_0 ?_ | with_reducible refine AtT.kfield2 fo69_0 ?_ | refine AtT.kfield fo69_0 ?_
    first | refine AtT.kloadO tk2 ?_ | refine AtT.kload tk2 ?_
    first | refine AtT.ksubt ?_ | refine AtT.ksubW ?_
    refine AtT.kmove ?_
    first | refine AtT.kmul ?_ | refine AtT.kmulW ?_
    first | refine AtT.kfieldO fo69_1 ?_ | with_reducible refine AtT.kfield2 fo69_1 ?_ | refine AtT.kfield fo69_1 ?_
    first | refine AtT.kloadO tk2 ?_ | refine AtT.kload tk2 ?_
    first | refine AtT.kfieldO fo69_0 ?_ | with_reducible refine AtT.kfield2 fo69_0 ?_ | refine AtT.kfield fo69_0 ?_
    first | refine AtT.kloadO tk2 ?_ | refine AtT.kload tk2 ?_
    first | refine AtT.ksubt ?_ | refine AtT.ksubW ?_
    refine AtT.kmove ?_
    first | refine AtT.kmul ?_ | refine AtT.kmulW ?_
    first | refine AtT.kadd ?_ | refine AtT.kaddW ?_
    refine AtT.kmove ?_
    refine AtT.kmove ?_
    first | refine AtT.kadd ?_ | refine AtT.kaddW ?_
    first | refine AtT.kmul ?_ | refine AtT.kmulW ?_
    refine AtT.kcallP rfl rfl ok76 (by_f _ _ _ (by omega) (by omega) (by omega) (by omega)) ?_
    rintro _ rfl
    refine AtT.kstoreA tk31 ?_
    refine AtT.done ?_
    refine At.nrm ?_
    exact At.ret1 rfl (.agg rfl tk31 Pick.auto rfl) rfl
  · have hN : provN L p = ((edP L p.f).hi - (edP L p.m).lo) * rgtP L p + ((edP L p.l).hi - (edP L p.m).lo) * lftP L p := by
      rw [provN, if_neg hfl, if_neg hs]
    rw [hN]
    refine At.nrm ?_
    refine At.ktext (.q 0 (.q 1 (.q 2 (.q 3 (.q 4 (.q 5 (.q 6 (.q 7 (.q 8 (.q 9 (.q 10 (.q 11 (.q 12 (.q 13 (.q 14 (.q 15 (.q 16 (.q 17 (.q 18 (.n false 19 (.n true 20 .done))))))))))))))))))))) ?_
    first | refine AtT.kfieldO fo69_1 ?_ | with_reducible refine AtT.kfield2 fo69_1 ?_ | refine AtT.kfield fo69_1 ?_
    first | refine AtT.kloadO tk2 ?_ | refine AtT.kload tk2 ?_
    first | refine AtT.kfieldO fo69_0 ?_ | with_reducible refine AtT.kfield2 fo69_0 ?_ | refine AtT.kfield fo69_0 ?_
    first | refine AtT.kloadO tk2 ?_ | refine AtT.kload tk2 ?_
    first | refine AtT.ksubt ?_ | refine AtT.ksubW ?_
    refine AtT.kmove ?_
    first | refine AtT.kmul ?_ | refine AtT.kmulW ?_
    first | refine AtT.kfieldO fo69_1 ?_ | with_reducible refine AtT.kfield2 fo69_1 ?_ | refine AtT.kfield fo69_1 ?_
    first | refine AtT.kloadO tk2 ?_ | refine AtT.kload tk2 ?_
    first | refine AtT.kfieldO fo69_0 ?_ | with_reducible refine AtT.kfield2 fo69_0 ?_ | refine AtT.kfield fo69_0 ?_
    first | refine AtT.kloadO tk2 ?_ | refine AtT.kload tk2 ?_
    first | refine AtT.ksubt ?_ | refine AtT.ksubW ?_
    refine AtT.kmove ?_
    first | refine AtT.kmul ?_ | refine AtT.kmulW ?_
    first | refine AtT.kadd ?_ | refine AtT.kaddW ?_
    refine AtT.kmove ?_
    refine AtT.kmove ?_
    first | refine AtT.kadd ?_ | refine AtT.kaddW ?_
    first | refine AtT.kmul ?_ | refine AtT.kmulW ?_
    refine AtT.kcallP rfl rfl ok76 (by_f _ _ _ (by omega) (by omega) (by omega) (by omega)) ?_
    rintro _ rfl
    refine AtT.kstoreA tk31 ?_
    refine AtT.done ?_
    refine At.nrm ?_
    exact At.ret1 rfl (.agg rfl tk31 Pick.auto rfl) rfl
end Go.Proofs.Ytnionkopmncopaa
set_option linter.unusedVariables false
namespace Go.Proofs.Ytnionkopmncopaa
open Go.Lw Go.Pl Go.RowKit

def checkR (L : Lg) (p : Pf) : Rt × Int := if logE L ≠ 0 then (⟨0, 0⟩, logE L) else if shapedB L p = false then (⟨0, 0⟩, 2) else (provV L p, 0)

theorem check_q (L : Lg) (p : Pf) (V : View) (v : Value) (hv : LogV V v L) : Fnc Try.prog 32 [v, pfv p] V fun r _ => r = .tuple #[rtv (checkR L p).1, iv (checkR L p).2] := by
  have hv' := hv
  obtain ⟨a, c, a', c', rfl, h2, h3⟩ := hv
  refine fn_of Try.func32 rfl Try.ntmps32 (Nat.le_of_ble_eq_true rfl) ?_
  intro w0 hw0
  refine At.nrm ?_
  refine At.ktext (.n false 0 (.n false 1 (.n false 2 (.q 3 .done)))) ?_
  refine AtT.kbox ?_
  intro b2
  refine AtT.kbox ?_
  intro b3
  refine AtT.kalloc z31 ?_
  intro b4
  refine AtT.kassign ?_
  refine AtT.done ?_
  refine At.nrm ?_
  refine At.ktext (.q 0 (.n false 1 (.q 2 .done))) ?_
  first | refine AtT.kloadOA tk25 ?_ | refine AtT.kloadA tk25 ?_ | refine AtT.kloadOP tk25 ?_
  refine AtT.kcallP rfl rfl ok23 (rcheckLog_f L _ _ hv') ?_
  rintro _ rfl
  refine AtT.kneI ?_
  refine AtT.done ?_
  refine At.nrm ?_
  refine At.condP rfl (fun hb => ?_) (fun hb => ?_)
  · refine At.nrm ?_
    refine At.ktext (.q 0 (.q 1 (.n false 2 (.n true 3 (.q 4 .done))))) ?_
    refine AtT.kbuild (bd31) ?_
    first | refine AtT.kloadOA tk25 ?_ | refine AtT.kloadA tk25 ?_ | refine AtT.kloadOP tk25 ?_
    refine AtT.kcallP rfl rfl ok23 (rcheckLog_f L _ _ hv') ?_
    rintro _ rfl
    refine AtT.kstoreA tk31 ?_
    refine AtT.kassign ?_
    refine AtT.done ?_
    refine At.nrm ?_
    refine At.ret2 rfl (.agg rfl tk31 Pick.auto rfl) (.tmp rfl) ?_
    rw [checkR, if_pos hb]
  · have he : logE L = 0 := by simpa using hb
    refine At.nrm ?_
    refine At.ktext (.q 0 (.q 1 (.n false 2 (.q 3 .done)))) ?_
    first | refine AtT.kloadOA tk25 ?_ | refine AtT.kloadA tk25 ?_ | refine AtT.kloadOP tk25 ?_
    first | refine AtT.kloadOA tk45 ?_ | refine AtT.kloadA tk45 ?_ | refine AtT.kloadOP tk45 ?_
    refine AtT.kcallP rfl rfl ok68 (shaped_f L p _ _ hv') ?_
    rintro _ rfl
    refine AtT.knot ?_
    refine AtT.done ?_
    refine At.nrm ?_
    refine At.cond rfl (fun hb => ?_) (fun hb => ?_)
    · refine At.nrm ?_
      refine At.ktext (.q 0 (.n true 1 (.q 2 .done))) ?_
      refine AtT.kbuild (bd31) ?_
      refine AtT.kstoreA tk31 ?_
      refine AtT.kassign ?_
      refine AtT.done ?_
      refine At.nrm ?_
      refine At.ret2 rfl (.agg rfl tk31 Pick.auto rfl) (.tmp rfl) ?_
      rw [checkR, if_neg (by simp [he]), if_pos (by simpa using hb)]
    · have hs : shapedB L p = true := by simpa using hb
      refine At.nrm ?_
      refine At.ktext (.q 0 (.q 1 (.n false 2 (.n true 3 (.q 4 .done))))) ?_
      first | refine AtT.kloadOA tk25 ?_ | refine AtT.kloadA tk25 ?_ | refine AtT.kloadOP tk25 ?_
      first | refine AtT.kloadOA tk45 ?_ | refine AtT.kloadA tk45 ?_ | refine AtT.kloadOP tk45 ?_
      refine AtT.kcallP rfl rfl ok69 (rproves_f L p _ _ hv' (logE_ok he) ((shapedB_iff L p).1 hs)) ?_
      rintro _ rfl
      refine AtT.kstoreA tk31 ?_
      refine AtT.kassign ?_
      refine AtT.done ?_
      refine At.nrm ?_
      refine At.ret2 rfl (.agg rfl tk31 Pick.auto rfl) (.tmp rfl) ?_
      rw [checkR, if_neg (by simp [he]), if_neg (by simp [hs])]

theorem check_p (L : Lg) (p : Pf) (V : View) (v : Value) (hv : LogV V v L) : Fnc Try.prog 31 [v, pfv p] V fun r _ => r = .tuple #[rtv (checkR L p).1, iv (checkR L p).2] := by
  have hv' := hv
  obtain ⟨a, c, a', c', rfl, h2, h3⟩ := hv
  have hlen := h2.lenLe
  refine fn_of Try.func31 rfl Try.ntmps31 (Nat.le_of_ble_eq_true rfl) ?_
  intro w0 hw0
  refine At.nrm ?_
  refine At.ktext (.n false 0 (.n false 1 (.n false 2 (.q 3 .done)))) ?_
  refine AtT.kbox ?_
  intro b2
  refine AtT.kbox ?_
  intro b3
  refine AtT.kalloc z31 ?_
  intro b4
  refine AtT.kassign ?_
  refine AtT.done ?_
  refine At.nrm ?_
  refine At.ktext (.q 0 (.n false 1 (.q 2 (.q 3 (.q 4 (.q 5 (.q 6 .done))))))) ?_
  first | refine AtT.kloadOA tk25 ?_ | refine AtT.kloadA tk25 ?_ | refine AtT.kloadOP tk25 ?_
  all_goals (refine AtT.kcall rfl rfl ok59 (open_f L _ _ hv') ?_)
  all_goals (rintro _ V1 hV1 (⟨he, rfl⟩ | ⟨he, q, rfl, hq⟩))
  all_goals (refine AtT.kmove ?_)
  all_goals (refine AtT.kextract ?_)
  all_goals (refine AtT.kextract ?_)
  all_goals (refine AtT.kassign ?_)
  all_goals (refine AtT.kassign ?_)
  all_goals refine AtT.done ?_
  all_goals (refine At.nrm ?_)
  · refine At.ktext (.q 0 (.q 1 .done)) ?_
    refine AtT.kmove ?_
    refine AtT.kneI ?_
    refine AtT.done ?_
    refine At.nrm ?_
    refine At.condP rfl (fun hb => ?_) (fun hb => absurd he hb)
    refine At.nrm ?_
    refine At.ktext (.q 0 (.q 1 (.n true 2 (.q 3 .done)))) ?_
    refine AtT.kbuild (bd31) ?_
    refine AtT.kmove ?_
    refine AtT.kstoreA tk31 ?_
    refine AtT.kassign ?_
    refine AtT.done ?_
    refine At.nrm ?_
    refine At.ret2 rfl (.agg rfl tk31 Pick.auto rfl) (.tmp rfl) ?_
    rw [checkR, if_pos he]
  · refine At.ktext (.q 0 (.q 1 .done)) ?_
    refine AtT.kmove ?_
    refine AtT.kneI ?_
    refine AtT.done ?_
    refine At.nrm ?_
    refine At.condF rfl rfl ?_
    refine At.nrm ?_
    refine At.ktext (.q 0 (.q 1 (.q 2 (.q 3 (.q 4 .done))))) ?_
    first | refine AtT.kfieldO fo25_0 ?_ | with_reducible refine AtT.kfield2 fo25_0 ?_ | refine AtT.kfield fo25_0 ?_
    first | refine AtT.kloadO tk22 ?_ | refine AtT.kload tk22 ?_
    first | refine AtT.klenS Try.underlying22 ?_ | refine AtT.klenR Try.underlying22 ?_
    first | refine AtT.ksubt ?_ | refine AtT.ksubW ?_
    refine AtT.kassign ?_
    refine AtT.done ?_
    refine At.nrm ?_
    refine At.draw (.q 0 (.q 1 (.q 2 (.q 3 (.q 4 (.q 5 (.q 6 (.q 7 (.q 8 .done))))))))) ffm (by kernel_rfl) ?_
    first | refine AtT.kfieldO fo45_0 ?_ | with_reducible refine AtT.kfield2 fo45_0 ?_ | refine AtT.kfield fo45_0 ?_
    first | refine AtT.kloadO tk3 ?_ | refine AtT.kload tk3 ?_
    first | refine AtT.kfieldO fo45_1 ?_ | with_reducible refine AtT.kfield2 fo45_1 ?_ | refine AtT.kfield fo45_1 ?_
    first | refine AtT.kloadO tk3 ?_ | refine AtT.kload tk3 ?_
    first | refine AtT.kfieldO fo45_2 ?_ | with_reducible refine AtT.kfield2 fo45_2 ?_ | refine AtT.kfield fo45_2 ?_
    first | refine AtT.kloadO tk3 ?_ | refine AtT.kload tk3 ?_
    refine AtT.kassign ?_
    refine AtT.kassign ?_
    refine AtT.kassign ?_
    refine AtT.done ?_
    refine At.nrm ?_
    refine At.cutG (ι := Unit) (fun _ => [(3, .pointer (some ⟨b3, 0, none⟩)), (4, .pointer (some ⟨b4, 0, none⟩)), (6, .pointer (some q)), (8, iv ((L.pl.length : Int) - 1)), (9, iv p.f), (10, iv p.m), (11, iv p.l), (12, .bool (decide (p.f = p.l ∧ p.m = p.f ∧ p.s = 0)))])
      (fun _ => [.blk b3 (LC [iv p.f, iv p.m, iv p.l, iv p.s] 45), .blk b4 (LC [iv 0, iv 0] 31)]) (fun _ V' => V1 = V') ?_ ?_
    · refine At.ktext (.q 0 (.q 1 (.q 2 (.q 3 (.q 4 (.q 5 (.q 6 (.q 7 (.q 8 (.q 9 (.q 10 (.q 11 (.q 12 (.q 13 (.q 14 (.q 15 (.q 16 (.q 17 .done)))))))))))))))))) ?_
      first | refine AtT.kfieldO fo45_0 ?_ | with_reducible refine AtT.kfield2 fo45_0 ?_ | refine AtT.kfield fo45_0 ?_
      first | refine AtT.kloadO tk3 ?_ | refine AtT.kload tk3 ?_
      first | refine AtT.kfieldO fo45_2 ?_ | with_reducible refine AtT.kfield2 fo45_2 ?_ | refine AtT.kfield fo45_2 ?_
      first | refine AtT.kloadO tk3 ?_ | refine AtT.kload tk3 ?_
      refine AtT.keqI ?_
      refine AtT.kmove ?_
      all_goals (first | refine AtT.kL 37 ?_ | refine AtT.pcase (d := 37) rfl (fun hg37 => ?_) (fun hg37 => ?_) | refine AtT.bcase (d := 37) rfl (fun hg37 => ?_) (fun hg37 => ?_))
      all_goals (first | refine AtT.kpass ?_ | refine AtT.kpassU ?_ | ((first | refine AtT.kfieldO fo45_1 ?_ | with_reducible refine AtT.kfield2 fo45_1 ?_ | refine AtT.kfield fo45_1 ?_)))
      all_goals (first | refine AtT.kpass ?_ | refine AtT.kpassU ?_ | ((first | refine AtT.kloadO tk3 ?_ | refine AtT.kload tk3 ?_)))
      all_goals (first | refine AtT.kpass ?_ | refine AtT.kpassU ?_ | ((first | refine AtT.kfieldO fo45_0 ?_ | with_reducible refine AtT.kfield2 fo45_0 ?_ | refine AtT.kfield fo45_0 ?_)))
      all_goals (first | refine AtT.kpass ?_ | refine AtT.kpassU ?_ | ((first | refine AtT.kloadO tk3 ?_ | refine AtT.kload tk3 ?_)))
      all_goals (first | refine AtT.kpass ?_ | refine AtT.kpassU ?_ | ((refine AtT.keqI ?_)))
      all_goals (refine AtT.kpick ?_)
      all_goals (refine AtT.kmove ?_)
      all_goals (first | refine AtT.kL 44 ?_ | refine AtT.pcase (d := 44) rfl (fun hg44 => ?_) (fun hg44 => ?_) | refine AtT.bcase (d := 44) rfl (fun hg44 => ?_) (fun hg44 => ?_))
      all_goals (first | refine AtT.kpass ?_ | refine AtT.kpassU ?_ | ((first | refine AtT.kfieldO fo45_3 ?_ | with_reducible refine AtT.kfield2 fo45_3 ?_ | refine AtT.kfield fo45_3 ?_)))
      all_goals (first | refine AtT.kpass ?_ | refine AtT.kpassU ?_ | ((first | refine AtT.kloadO tk3 ?_ | refine AtT.kload tk3 ?_)))
      all_goals (first | refine AtT.kpass ?_ | refine AtT.kpassU ?_ | ((refine AtT.keqI ?_)))
      all_goals (refine AtT.kpick ?_)
      all_goals (refine AtT.kassign ?_)
      all_goals refine AtT.done ?_
      all_goals (refine At.nrm ?_)
      all_goals (refine At.meetG () rfl ⟨rfl, rfl, rfl, rfl, rfl, rfl, rfl, bsome ?_, trivial⟩ ?_)
      all_goals (first | (repeat (first | exact Pt.nil | refine Pt.cons Pick.auto ?_)); done | skip)
      all_goals (first | (rw [Bool.eq_iff_iff]; simp [*]; done) | (rw [Bool.eq_iff_iff]; simp [*]; omega) | simp [*])
    rintro _ _ ks' O' rfl hk hO hl
    subst hk hO
    refine At.nrm ?_
    refine At.ktext (.q 0 (.q 1 (.q 2 (.q 3 (.n false 4 (.n false 5 (.q 6 (.q 7 .done)))))))) ?_
    refine AtT.kmove ?_
    refine AtT.kmove ?_
    refine AtT.kmove ?_
    refine AtT.kmove ?_
    refine AtT.kbsliceG (bs22_3_0_1_2 _ _ _) ?_
    intro q54 V54 hV54 hq54
    have g54 : Le V V54 := by first | exact hV54 | exact Le.trans (by assumption) hV54
    refine AtT.kcallP rfl rfl ok63 (within_f 0 _ [p.f, p.m, p.l] _ _ (Sl.lit hq54 rfl (by simp))) ?_
    rintro _ rfl
    refine AtT.knot ?_
    refine AtT.kassign ?_
    refine AtT.done ?_
    refine At.nrm ?_
    have hwi : wi 0 ((L.pl.length : Int) - 1) [p.f, p.m, p.l] = true ↔ 0 ≤ p.f ∧ p.f < L.pl.length ∧ 0 ≤ p.m ∧ p.m < L.pl.length ∧ 0 ≤ p.l ∧ p.l < L.pl.length := by
      simp [wi, outB]; omega
    refine At.cond rfl (fun hb => ?_) (fun hb => ?_)
    · refine At.nrm ?_
      refine At.ktext (.q 0 (.n true 1 (.q 2 .done))) ?_
      refine AtT.kbuild (bd31) ?_
      refine AtT.kstoreA tk31 ?_
      refine AtT.kassign ?_
      refine AtT.done ?_
      refine At.nrm ?_
      refine At.ret2 rfl (.agg rfl tk31 Pick.auto rfl) (.tmp rfl) ?_
      rw [checkR, if_neg (by simp [he]), if_pos]
      cases hs : shapedB L p with
      | false => rfl
      | true =>
        obtain ⟨h1, h2, h3, h4, h5, h6⟩ := (shapedB_iff L p).1 hs
        rw [hwi.2 ⟨h1, by omega, by omega, by omega, by omega, h4⟩] at hb
        cases hb
    have hw2 := hwi.1 (by simpa using hb)
    have hsh : shapedB L p = true ↔ ((p.f = p.l ∧ p.m = p.f ∧ p.s = 0) ∨ (p.f < p.m ∧ p.m < p.l ∧ (p.s = 1 ∨ p.s = 2))) := by
      rw [shapedB_iff]
      constructor
      · intro h
        obtain ⟨h1, h2, h3, h4, h5, h6⟩ := h
        by_cases c : p.f = p.l
        · exact .inl ⟨c, by omega, h5 c⟩
        · exact .inr (h6 c)
      · intro h
        refine ⟨by omega, by omega, by omega, by omega, fun c => by omega, fun c => by omega⟩
    have hsb : shapedB L p = decide ((p.f = p.l ∧ p.m = p.f ∧ p.s = 0) ∨ (p.f < p.m ∧ p.m < p.l ∧ (p.s = 1 ∨ p.s = 2))) := by
      rw [Bool.eq_iff_iff, hsh, decide_eq_true_eq]
    refine At.nrm ?_
    refine At.cutG (ι := Unit) (fun _ => [(3, .pointer (some ⟨b3, 0, none⟩)), (4, .pointer (some ⟨b4, 0, none⟩)), (6, .pointer (some q)), (58, .bool (!shapedB L p))])
      (fun _ => [.blk b3 (LC [iv p.f, iv p.m, iv p.l, iv p.s] 45), .blk b4 (LC [iv 0, iv 0] 31)]) (fun _ V' => Le V1 V') ?_ ?_
    · refine At.ktext (.q 0 (.q 1 (.q 2 (.q 3 (.q 4 (.q 5 (.q 6 (.q 7 (.q 8 (.q 9 (.q 10 (.q 11 (.q 12 (.q 13 (.n false 14 (.n false 15 (.q 16 (.q 17 (.q 18 (.q 19 .done)))))))))))))))))))) ?_
      refine AtT.kmove ?_
      refine AtT.knot ?_
      refine AtT.kmove ?_
      all_goals (first | refine AtT.kL 61 ?_ | refine AtT.pcase (d := 61) rfl (fun hg61 => ?_) (fun hg61 => ?_) | refine AtT.bcase (d := 61) rfl (fun hg61 => ?_) (fun hg61 => ?_))
      all_goals (first | refine AtT.kpass ?_ | refine AtT.kpassU ?_ | ((refine AtT.kmove ?_)))
      all_goals (first | refine AtT.kpass ?_ | refine AtT.kpassU ?_ | ((refine AtT.kmove ?_)))
      all_goals (first | refine AtT.kpass ?_ | refine AtT.kpassU ?_ | ((refine AtT.kgeq ?_)))
      all_goals (first | refine AtT.kpass ?_ | refine AtT.kpassU ?_ | ((refine AtT.kmove ?_)))
      all_goals (first | refine AtT.kL 65 ?_ | refine AtT.pcase (d := 65) rfl (fun hg65 => ?_) (fun hg65 => ?_) | refine AtT.bcase (d := 65) rfl (fun hg65 => ?_) (fun hg65 => ?_))
      all_goals (first | refine AtT.kpass ?_ | refine AtT.kpassU ?_ | ((refine AtT.kmove ?_)))
      all_goals (first | refine AtT.kpass ?_ | refine AtT.kpassU ?_ | ((refine AtT.kmove ?_)))
      all_goals (first | refine AtT.kpass ?_ | refine AtT.kpassU ?_ | ((refine AtT.kgeq ?_)))
      all_goals (first | refine AtT.kpass ?_ | refine AtT.kpassU ?_ | ((refine AtT.kpick ?_)))
      all_goals (first | refine AtT.kpass ?_ | refine AtT.kpassU ?_ | ((refine AtT.kmove ?_)))
      all_goals (first | refine AtT.kL 70 ?_ | refine AtT.pcase (d := 70) rfl (fun hg70 => ?_) (fun hg70 => ?_) | refine AtT.bcase (d := 70) rfl (fun hg70 => ?_) (fun hg70 => ?_))
      all_goals (first | refine AtT.kpass ?_ | refine AtT.kpassU ?_ | ((first | refine AtT.kfieldO fo45_3 ?_ | with_reducible refine AtT.kfield2 fo45_3 ?_ | refine AtT.kfield fo45_3 ?_)))
      all_goals (first | refine AtT.kpass ?_ | refine AtT.kpassU ?_ | ((first | refine AtT.kloadO tk3 ?_ | refine AtT.kload tk3 ?_)))
      all_goals (first | refine AtT.kpassN ?_ | refine AtT.kpassNU ?_ | ((refine AtT.kbsliceG (bs22_1_0 _) ?_) ; (intro q73 V73 hV73 hq73) ; (have g73 : Le V V73 := by first | exact hV73 | exact Le.trans (by assumption) hV73)))
      all_goals (first | refine AtT.kpassN ?_ | refine AtT.kpassNU ?_ | ((refine AtT.kcallP rfl rfl ok63 (within_f 1 2 [p.s] _ _ (Sl.lit hq73 rfl (by simp))) ?_) ; (rintro _ rfl)))
      all_goals (first | refine AtT.kpass ?_ | refine AtT.kpassU ?_ | ((refine AtT.knot ?_)))
      all_goals (first | refine AtT.kpass ?_ | refine AtT.kpassU ?_ | ((refine AtT.kpick ?_)))
      all_goals (refine AtT.kpick ?_)
      all_goals (refine AtT.kassign ?_)
      all_goals refine AtT.done ?_
      all_goals (refine At.nrm ?_)
      all_goals (refine At.meetG () (by first | exact hV54 | exact hV54.trans (by assumption)) ⟨rfl, rfl, rfl, bsome ?_, trivial⟩ Pt.auto)
      all_goals (rw [hsb]; simp at hg61; rw [Bool.eq_iff_iff]; simp [wi, outB]; try omega)
    rintro _ V2 ks' O' hV2 hk hO hl2
    subst hk hO
    refine At.cond rfl (fun hb => ?_) (fun hb => ?_)
    · refine At.nrm ?_
      refine At.ktext (.q 0 (.n true 1 (.q 2 .done))) ?_
      refine AtT.kbuild (bd31) ?_
      refine AtT.kstoreA tk31 ?_
      refine AtT.kassign ?_
      refine AtT.done ?_
      refine At.nrm ?_
      refine At.ret2 rfl (.agg rfl tk31 Pick.auto rfl) (.tmp rfl) ?_
      rw [checkR, if_neg (by simp [he]), if_pos (by simpa using hb)]
    · have hs : shapedB L p = true := by simpa using hb
      refine At.nrm ?_
      refine At.ktext (.q 0 (.q 1 (.n false 2 (.n true 3 (.q 4 .done))))) ?_
      refine AtT.kmove ?_
      first | refine AtT.kloadOA tk45 ?_ | refine AtT.kloadA tk45 ?_ | refine AtT.kloadOP tk45 ?_
      refine AtT.kcallP rfl rfl ok67 (proves_f L p _ q (hq.le hV2) (logE_ok he) ((shapedB_iff L p).1 hs)) ?_
      rintro _ rfl
      refine AtT.kstoreA tk31 ?_
      refine AtT.kassign ?_
      refine AtT.done ?_
      refine At.nrm ?_
      refine At.ret2 rfl (.agg rfl tk31 Pick.auto rfl) (.tmp rfl) ?_
      rw [checkR, if_neg (by simp [he]), if_neg (by simp [hs])]
end Go.Proofs.Ytnionkopmncopaa
namespace Go.Pl

def pfJ (i k : Nat) : Nat → List Pf
  | 0 => []
  | m + 1 => pfJ i k m ++ [⟨i, k, (k + 1 + m : Nat), 1⟩, ⟨i, k, (k + 1 + m : Nat), 2⟩]
def pfK (n i : Nat) : Nat → List Pf
  | 0 => [⟨i, i, i, 0⟩]
  | m + 1 => pfK n i m ++ pfJ i (i + 1 + m) (n - (i + 1 + m + 1))
def pfI (n : Nat) : Nat → List Pf
  | 0 => []
  | i + 1 => pfI n i ++ pfK n i (n - (i + 1))
/-- All proofs, in order. -/
def proofsL (n : Nat) : List Pf := pfI n n

theorem pfx_of {α : Type} {f : Nat → List α} (h : ∀ m, ∃ t, f (m + 1) = f m ++ t) {a b : Nat} (hab : a ≤ b) : f a <+: f b := by
  induction b with
  | zero => have : a = 0 := by omega
            subst this; exact List.prefix_refl _
  | succ b ih =>
    by_cases c : a = b + 1
    · subst c; exact List.prefix_refl _
    · obtain ⟨t, ht⟩ := h b
      exact (ih (by omega)).trans ⟨t, ht.symm⟩
theorem pfI_pfx (n : Nat) {a b : Nat} (h : a ≤ b) : pfI n a <+: pfI n b := pfx_of (fun _ => ⟨_, rfl⟩) h
theorem pfK_pfx (n i : Nat) {a b : Nat} (h : a ≤ b) : pfK n i a <+: pfK n i b := pfx_of (fun _ => ⟨_, rfl⟩) h
theorem pfJ_pfx (i k : Nat) {a b : Nat} (h : a ≤ b) : pfJ i k a <+: pfJ i k b := pfx_of (fun _ => ⟨_, rfl⟩) h

theorem pre_i {n i : Nat} (h : i < n) : pfI n i ++ [⟨i, i, i, 0⟩] <+: proofsL n := by
  refine List.IsPrefix.trans ?_ (pfI_pfx n (a := i + 1) (b := n) (by omega))
  exact (List.prefix_append_right_inj _).2 (pfK_pfx n i (a := 0) (Nat.zero_le _))
theorem pre_k {n i m q : Nat} (h : i + 1 + m + 1 + q < n) : pfI n i ++ pfK n i m ++ pfJ i (i + 1 + m) (q + 1) <+: proofsL n := by
  refine List.IsPrefix.trans ?_ (pfI_pfx n (a := i + 1) (b := n) (by omega))
  rw [List.append_assoc]
  refine (List.prefix_append_right_inj _).2 (List.IsPrefix.trans ?_ (pfK_pfx n i (a := m + 1) (by omega)))
  exact (List.prefix_append_right_inj _).2 (pfJ_pfx _ _ (by omega))
theorem pre_at {α : Type} {l t : List α} {x : α} (h : l ++ [x] <+: t) : t[l.length]? = some x := by
  obtain ⟨s, rfl⟩ := h
  simp
theorem pre_1 {n i m q : Nat} (h : i + 1 + m + 1 + q < n) : (proofsL n)[(pfI n i ++ pfK n i m ++ pfJ i (i + 1 + m) q).length]? = some ⟨i, (i + 1 + m : Nat), (i + 1 + m + 1 + q : Nat), 1⟩ := by
  refine pre_at (List.IsPrefix.trans ?_ (pre_k h))
  refine ⟨[⟨i, (i + 1 + m : Nat), (i + 1 + m + 1 + q : Nat), 2⟩], ?_⟩
  simp [pfJ]
theorem pre_2 {n i m q : Nat} (h : i + 1 + m + 1 + q < n) : (proofsL n)[(pfI n i ++ pfK n i m ++ pfJ i (i + 1 + m) q).length + 1]? = some ⟨i, (i + 1 + m : Nat), (i + 1 + m + 1 + q : Nat), 2⟩ := by
  have := pre_at (l := pfI n i ++ pfK n i m ++ pfJ i (i + 1 + m) q ++ [⟨i, (i + 1 + m : Nat), (i + 1 + m + 1 + q : Nat), 1⟩]) (x := (⟨i, (i + 1 + m : Nat), (i + 1 + m + 1 + q : Nat), 2⟩ : Pf)) (t := proofsL n) (List.IsPrefix.trans ⟨[], by simp [pfJ]⟩ (pre_k h))
  rw [List.length_append, List.length_singleton] at this
  exact this

theorem pfJ_mem {i k m : Nat} {p : Pf} (h : p ∈ pfJ i k m) : ∃ q, q < m ∧ p.f = i ∧ p.m = k ∧ p.l = (k + 1 + q : Nat) ∧ (p.s = 1 ∨ p.s = 2) := by
  induction m with
  | zero => cases h
  | succ m ih =>
    simp only [pfJ, List.mem_append, List.mem_cons, List.not_mem_nil, or_false] at h
    rcases h with h | rfl | rfl
    · obtain ⟨q, h1, h2⟩ := ih h; exact ⟨q, by omega, h2⟩
    · exact ⟨m, by omega, rfl, rfl, rfl, .inl rfl⟩
    · exact ⟨m, by omega, rfl, rfl, rfl, .inr rfl⟩
theorem pfK_mem {n i m : Nat} {p : Pf} (h : p ∈ pfK n i m) : (p = ⟨i, i, i, 0⟩) ∨ ∃ k q : Nat, i < k ∧ k < i + 1 + m ∧ k + 1 + q < n ∧ p.f = i ∧ p.m = k ∧ p.l = (k + 1 + q : Nat) ∧ (p.s = 1 ∨ p.s = 2) := by
  induction m with
  | zero => simp [pfK] at h; exact .inl h
  | succ m ih =>
    simp only [pfK, List.mem_append] at h
    rcases h with h | h
    · rcases ih h with h | ⟨k, q, h1, h2, h3⟩
      · exact .inl h
      · exact .inr ⟨k, q, h1, by omega, h3⟩
    · obtain ⟨q, h1, h2, h3, h4, h5⟩ := pfJ_mem h
      exact .inr ⟨i + 1 + m, q, by omega, by omega, by omega, h2, h3, h4, h5⟩
theorem pfI_mem {n i : Nat} (hi : i ≤ n) {p : Pf} (h : p ∈ pfI n i) : ∃ j : Nat, j < n ∧ ((p = ⟨j, j, j, 0⟩) ∨ ∃ k q : Nat, j < k ∧ k + 1 + q < n ∧ p.f = j ∧ p.m = k ∧ p.l = (k + 1 + q : Nat) ∧ (p.s = 1 ∨ p.s = 2)) := by
  induction i with
  | zero => cases h
  | succ i ih =>
    simp only [pfI, List.mem_append] at h
    rcases h with h | h
    · exact ih (by omega) h
    · refine ⟨i, by omega, ?_⟩
      rcases pfK_mem h with h | ⟨k, q, h1, h2, h3⟩
      · exact .inl h
      · exact .inr ⟨k, q, h1, h3⟩
theorem proofs_ok {L : Lg} {p : Pf} (h : p ∈ proofsL L.pl.length) : PfOk L p := by
  obtain ⟨j, hj, rfl | ⟨k, q, h1, h2, h3, h4, h5, h6⟩⟩ := pfI_mem (Nat.le_refl _) h
  · exact ⟨Int.natCast_nonneg _, Int.le_refl _, Int.le_refl _, Int.ofNat_lt.2 hj, fun _ => rfl, fun h => absurd rfl h⟩
  · exact ⟨by omega, by omega, by omega, by omega, fun e => by omega, fun _ => ⟨by omega, by omega, h6⟩⟩
/-- Each proof is there. -/
theorem pfJ_has {i k m q : Nat} (h : q < m) {s : Int} (hs : s = 1 ∨ s = 2) : (⟨i, k, (k + 1 + q : Nat), s⟩ : Pf) ∈ pfJ i k m := by
  have := (pfJ_pfx i k (a := q + 1) (b := m) (by omega)).subset
  refine this ?_
  simp only [pfJ, List.mem_append, List.mem_cons, List.not_mem_nil, or_false]
  rcases hs with rfl | rfl
  · exact .inr (.inl rfl)
  · exact .inr (.inr rfl)
theorem ok_proofs {L : Lg} {p : Pf} (h : PfOk L p) : p ∈ proofsL L.pl.length := by
  obtain ⟨f0, fm, ml, ln, one, many⟩ := h
  obtain ⟨pf, pm, pl, ps⟩ := p
  dsimp only at *
  by_cases c : pf = pl
  · have h0 := one c
    obtain ⟨i, rfl⟩ : ∃ i : Nat, pf = i := ⟨pf.toNat, by omega⟩
    have e1 : pm = i := by omega
    subst e1 c h0
    refine (pre_i (n := L.pl.length) (i := i) (by omega)).subset ?_
    simp
  · obtain ⟨h1, h2, h3⟩ := many c
    obtain ⟨i, rfl⟩ : ∃ i : Nat, pf = i := ⟨pf.toNat, by omega⟩
    obtain ⟨m, rfl⟩ : ∃ m : Nat, pm = (i + 1 + m : Nat) := ⟨(pm - i - 1).toNat, by omega⟩
    obtain ⟨q, rfl⟩ : ∃ q : Nat, pl = (i + 1 + m + 1 + q : Nat) := ⟨(pl - (i + 1 + m : Nat) - 1).toNat, by omega⟩
    refine (pre_k (n := L.pl.length) (i := i) (m := m) (q := q) (by omega)).subset ?_
    exact List.mem_append_right _ (pfJ_has (by omega) h3)

theorem proofs_nodup : ∀ n, n ≤ 8 → (proofsL n).Nodup := by
  have h : ∀ n : Fin 9, (proofsL n).Nodup := by decide +kernel
  exact fun n hn => h ⟨n, by omega⟩
theorem proofs_len : ∀ n, n ≤ 8 → (proofsL n).length ≤ 120 := by
  have h : ∀ n : Fin 9, (proofsL n).length ≤ 120 := by decide +kernel
  exact fun n hn => h ⟨n, by omega⟩
theorem pfx_len {α : Type} {l t : List α} (h : l <+: t) : l.length ≤ t.length := h.length_le

/-- The best core: the least number that a proof proves. -/
def bestV (L : Lg) : Rt := bestOf lessB (provV L ⟨0, 0, 0, 0⟩) ((proofsL L.pl.length).tail.map (provV L))
theorem proofs_cons {n : Nat} (h : 0 < n) : proofsL n = ⟨0, 0, 0, 0⟩ :: (proofsL n).tail := by
  have h1 : (proofsL n)[0]? = some ⟨0, 0, 0, 0⟩ := pre_at (l := []) (pre_i (n := n) (i := 0) h)
  cases hp : proofsL n with
  | nil => rw [hp] at h1; cases h1
  | cons a l => rw [hp] at h1; simp at h1; simp [h1]
theorem bestOf_map {α β : Type} (f : α → β) (lt : β → β → Bool) : ∀ (l : List α) (o : α), f (bestOf (fun a b => lt (f a) (f b)) o l) = bestOf lt (f o) (l.map f)
  | [], _ => rfl
  | x :: l, o => by
    have e1 : bestOf (fun a b => lt (f a) (f b)) o (x :: l) = bestOf (fun a b => lt (f a) (f b)) (if lt (f x) (f o) then x else o) l := rfl
    have e2 : bestOf lt (f o) ((x :: l).map f) = bestOf lt (if lt (f x) (f o) then f x else f o) (l.map f) := rfl
    rw [e1, e2, bestOf_map f lt l]
    by_cases c : lt (f x) (f o) = true
    · rw [if_pos c, if_pos c]
    · rw [if_neg c, if_neg c]
/-- The proof that is the first of the least ones. -/
def leastP (L : Lg) : Pf := bestOf (fun a b => lessB (provV L a) (provV L b)) ⟨0, 0, 0, 0⟩ (proofsL L.pl.length).tail
theorem leastP_v (L : Lg) : provV L (leastP L) = bestV L := bestOf_map _ _ _ _
theorem leastP_mem {L : Lg} (h : 0 < L.pl.length) : leastP L ∈ proofsL L.pl.length := by
  have := bestOf_mem (fun a b => lessB (provV L a) (provV L b)) ⟨0, 0, 0, 0⟩ (proofsL L.pl.length).tail (proofsL L.pl.length).tail.length
  rw [List.take_length] at this
  rw [proofs_cons h]; exact this
/-- The first proof of the best core. -/
def firstP (L : Lg) : Pf := ((proofsL L.pl.length).find? fun p => decide (provV L p = bestV L)).getD ⟨0, 0, 0, 0⟩
theorem firstP_spec {L : Lg} (h : 0 < L.pl.length) : firstP L ∈ proofsL L.pl.length ∧ provV L (firstP L) = bestV L := by
  unfold firstP
  cases hf : (proofsL L.pl.length).find? fun p => decide (provV L p = bestV L) with
  | none =>
    have := List.find?_eq_none.1 hf (leastP L) (leastP_mem h)
    simp [leastP_v] at this
  | some p =>
    have h1 := List.find?_some hf
    exact ⟨List.mem_of_find?_eq_some hf, by simpa using h1⟩
end Go.Pl
set_option linter.unusedVariables false
namespace Go.Proofs.Ytnionkopmncopaa
open Go.Lw Go.Pl Go.RowKit

theorem ivs {a b : Int} (h : a = b) : some (iv a) = some (iv b) := by rw [h]
theorem slv {a : Option Addr} {c m m' : Nat} (h : m = m') : some (Value.slice a m c) = some (Value.slice a m' c) := by rw [h]
theorem flat_snoc {α : Type} (enc : α → List Value) (l m : List α) : flat enc (l ++ m) = flat enc l ++ flat enc m := by simp [flat]

theorem proofs_f (L : Lg) (V : View) (v : Value) (hv : LogV V v L) (hn8 : L.pl.length ≤ 8) : Fnc Try.prog 84 [v] V fun r V' => Sl V' pfe 4 r (proofsL L.pl.length) := by
  obtain ⟨a, c, a', c', rfl, h2, h3⟩ := hv
  have hl120 := proofs_len _ hn8
  refine fn_of Try.func84 rfl Try.ntmps84 (Nat.le_of_ble_eq_true rfl) ?_
  intro w0 hw0
  refine At.nrm ?_
  refine At.ktext (.n false 0 (.q 1 .done)) ?_
  refine AtT.kbox ?_
  intro b1
  refine AtT.kassign ?_
  refine AtT.done ?_
  refine At.nrm ?_
  refine At.ktext (.q 0 .done) ?_
  refine AtT.kassign ?_
  refine AtT.done ?_
  refine At.nrm ?_
  refine At.ktext (.q 0 (.q 1 (.q 2 (.q 3 .done)))) ?_
  first | refine AtT.kfieldO fo25_0 ?_ | with_reducible refine AtT.kfield2 fo25_0 ?_ | refine AtT.kfield fo25_0 ?_
  first | refine AtT.kloadO tk22 ?_ | refine AtT.kload tk22 ?_
  first | refine AtT.klenS Try.underlying22 ?_ | refine AtT.klenR Try.underlying22 ?_
  refine AtT.kassign ?_
  refine AtT.done ?_
  refine At.nrm ?_
  refine At.ktext (.q 0 .done) ?_
  refine AtT.kassign ?_
  refine AtT.done ?_
  refine At.nrm ?_
  refine At.newRow 45 4 ?_
  refine At.lp (ι := Nat × Option Addr × Nat) (KS := fun g => [(3, .slice g.2.1 (pfI L.pl.length g.1).length g.2.2), (4, iv L.pl.length), (5, iv g.1)])
    (OS := fun g => [.row (.slice g.2.1 (pfI L.pl.length g.1).length g.2.2) 45 4 (pfI L.pl.length g.1).length (flat pfe (pfI L.pl.length g.1))])
    (VS := fun g V' => Le V V' ∧ g.1 ≤ L.pl.length) (μ := fun g => L.pl.length - g.1) (0, none, 0) ?_ ?_ ?_ ?_
  · exact ⟨rfl, rfl, rfl, trivial⟩
  · exact Pt.auto
  · exact ⟨Le.refl _, Nat.zero_le _⟩
  · rintro ⟨i, ao, co⟩ V' ks' O' ⟨hVV, hil⟩ hk hO hl
    dsimp only at hil hk hO
    subst hk hO
    refine At.nrm ?_
    refine At.ktext (.q 0 (.q 1 (.q 2 .done))) ?_
    refine AtT.kmove ?_
    refine AtT.kmove ?_
    refine AtT.klss ?_
    refine AtT.done ?_
    refine At.nrm ?_
    refine At.condP rfl (fun hb => ?_) (fun hb => ?_)
    · have hp0 := pfx_len (pre_i (n := L.pl.length) (i := i) (by omega))
      rw [List.length_append, List.length_singleton] at hp0
      refine At.nrm ?_
      refine At.ktext (.q 0 (.q 1 (.q 2 (.q 3 (.q 4 (.n false 5 (.n true 6 (.q 7 .done)))))))) ?_
      refine AtT.kmove ?_
      refine AtT.kmove ?_
      refine AtT.kmove ?_
      refine AtT.kmove ?_
      refine AtT.kbuild (bd45_0_1_2 _ _ _) ?_
      refine AtT.kbsliceG (bs117_1_0 _ _ _ _) ?_
      intro q21 V21 hV21 hq21
      have g21 : Le V V21 := by first | exact hV21 | exact Le.trans (by assumption) hV21
      first | refine AtT.kappend Try.underlying117 rw45 ?_
      intro a22 c22
      refine AtT.kassign ?_
      refine AtT.done ?_
      refine At.nrm ?_
      refine At.ktext (.q 0 (.q 1 (.q 2 .done))) ?_
      refine AtT.kmove ?_
      first | refine AtT.kadd ?_ | refine AtT.kaddW ?_
      refine AtT.kassign ?_
      refine AtT.done ?_
      refine At.nrm ?_
      refine At.lp (ι := Nat × Option Addr × Nat) (KS := fun g => [(3, .slice g.2.1 (pfI L.pl.length i ++ pfK L.pl.length i g.1).length g.2.2), (4, iv L.pl.length), (5, iv i), (6, iv ((i : Int) + 1 + g.1))])
        (OS := fun g => [.row (.slice g.2.1 (pfI L.pl.length i ++ pfK L.pl.length i g.1).length g.2.2) 45 4 (pfI L.pl.length i ++ pfK L.pl.length i g.1).length (flat pfe (pfI L.pl.length i ++ pfK L.pl.length i g.1))])
        (VS := fun g V'' => Le V' V'' ∧ i + 1 + g.1 ≤ L.pl.length) (μ := fun g => L.pl.length - g.1) (0, a22, c22) ?_ ?_ ?_ ?_
      · exact ⟨slv (by simp [pfK]), rfl, rfl, ivs (by simp), trivial⟩
      · rw [flat_snoc, List.length_append]
        · exact Pt.auto
      · exact ⟨hV21, by dsimp only; omega⟩
      · rintro ⟨m, a1, c1⟩ V'' ks' O' ⟨hVV1, him⟩ hk hO hl
        dsimp only at him hk hO
        subst hk hO
        refine At.nrm ?_
        refine At.ktext (.q 0 (.q 1 (.q 2 .done))) ?_
        refine AtT.kmove ?_
        refine AtT.kmove ?_
        refine AtT.klss ?_
        refine AtT.done ?_
        refine At.nrm ?_
        refine At.condP rfl (fun hb1 => ?_) (fun hb1 => ?_)
        · refine At.nrm ?_
          refine At.ktext (.q 0 (.q 1 (.q 2 .done))) ?_
          refine AtT.kmove ?_
          first | refine AtT.kadd ?_ | refine AtT.kaddW ?_
          refine AtT.kassign ?_
          refine AtT.done ?_
          refine At.nrm ?_
          refine At.lp (ι := Nat × Option Addr × Nat) (KS := fun g => [(3, .slice g.2.1 (pfI L.pl.length i ++ pfK L.pl.length i m ++ pfJ i (i + 1 + m) g.1).length g.2.2), (4, iv L.pl.length), (5, iv i), (6, iv ((i : Int) + 1 + m)), (7, iv ((i : Int) + 1 + m + 1 + g.1))])
            (OS := fun g => [.row (.slice g.2.1 (pfI L.pl.length i ++ pfK L.pl.length i m ++ pfJ i (i + 1 + m) g.1).length g.2.2) 45 4 (pfI L.pl.length i ++ pfK L.pl.length i m ++ pfJ i (i + 1 + m) g.1).length (flat pfe (pfI L.pl.length i ++ pfK L.pl.length i m ++ pfJ i (i + 1 + m) g.1))])
            (VS := fun g V3 => Le V'' V3 ∧ i + 1 + m + 1 + g.1 ≤ L.pl.length) (μ := fun g => L.pl.length - g.1) (0, a1, c1) ?_ ?_ ?_ ?_
          · exact ⟨slv (by simp [pfJ]), rfl, rfl, rfl, ivs (by simp), trivial⟩
          · have e0 : pfI L.pl.length i ++ pfK L.pl.length i m ++ pfJ i (i + 1 + m) 0 = pfI L.pl.length i ++ pfK L.pl.length i m := by simp [pfJ]
            rw [e0]
            · exact Pt.auto
          · exact ⟨Le.refl _, by dsimp only; omega⟩
          · rintro ⟨q, a2, c2⟩ V3 ks' O' ⟨hVV2, himq⟩ hk hO hl
            dsimp only at himq hk hO
            subst hk hO
            refine At.nrm ?_
            refine At.ktext (.q 0 (.q 1 (.q 2 .done))) ?_
            refine AtT.kmove ?_
            refine AtT.kmove ?_
            refine AtT.klss ?_
            refine AtT.done ?_
            refine At.nrm ?_
            refine At.condP rfl (fun hb2 => ?_) (fun hb2 => ?_)
            · have hp0 := pfx_len (pre_k (n := L.pl.length) (i := i) (m := m) (q := q) (by omega))
              have e1 : pfI L.pl.length i ++ pfK L.pl.length i m ++ pfJ i (i + 1 + m) (q + 1) = pfI L.pl.length i ++ pfK L.pl.length i m ++ pfJ i (i + 1 + m) q ++ [⟨i, (i + 1 + m : Nat), (i + 1 + m + 1 + q : Nat), 1⟩, ⟨i, (i + 1 + m : Nat), (i + 1 + m + 1 + q : Nat), 2⟩] := by simp [pfJ]
              rw [e1, List.length_append, List.length_cons, List.length_singleton] at hp0
              refine At.nrm ?_
              refine At.ktext (.q 0 (.q 1 (.q 2 (.q 3 (.q 4 (.q 5 (.q 6 (.q 7 (.q 8 (.n false 9 (.n true 10 (.q 11 .done)))))))))))) ?_
              refine AtT.kmove ?_
              refine AtT.kmove ?_
              refine AtT.kmove ?_
              refine AtT.kmove ?_
              refine AtT.kbuild (bd45_0_1_2_3 _ _ _ _) ?_
              refine AtT.kmove ?_
              refine AtT.kmove ?_
              refine AtT.kmove ?_
              refine AtT.kbuild (bd45_0_1_2_3 _ _ _ _) ?_
              refine AtT.kbsliceG (bs117_2_0_1 _ _ _ _ _ _ _ _) ?_
              intro q46 V46 hV46 hq46
              have g46 : Le V V46 := by first | exact hV46 | exact Le.trans (by assumption) hV46
              first | refine AtT.kappend Try.underlying117 rw45 ?_
              intro a47 c47
              refine AtT.kassign ?_
              refine AtT.done ?_
              refine At.nrm ?_
              refine At.ktext (.q 0 (.q 1 (.q 2 .done))) ?_
              refine AtT.kmove ?_
              first | refine AtT.kadd ?_ | refine AtT.kaddW ?_
              refine AtT.kassign ?_
              refine AtT.done ?_
              refine At.nrm ?_
              refine At.round (q + 1, a47, c47) ?_ ?_ ?_ ?_
              · show L.pl.length - (q + 1) < L.pl.length - q; omega
              · exact ⟨hVV2.trans hV46, by dsimp only; omega⟩
              · exact ⟨slv (by rw [e1]; simp only [List.length_append, List.length_cons, List.length_nil]), rfl, rfl, rfl, ivs (by push_cast; omega), trivial⟩
              · have e2 : flat pfe [(⟨i, (i + 1 + m : Nat), (i + 1 + m + 1 + q : Nat), 1⟩ : Pf), ⟨i, (i + 1 + m : Nat), (i + 1 + m + 1 + q : Nat), 2⟩] = [iv i, iv ((i : Int) + 1 + m), iv ((i : Int) + 1 + m + 1 + q), iv 1, iv i, iv ((i : Int) + 1 + m), iv ((i : Int) + 1 + m + 1 + q), iv 2] := by
                  simp [flat, pfe]
                dsimp only
                rw [e1, flat_snoc, e2, List.length_append]
                · exact Pt.auto
            · have hq : q = L.pl.length - (i + 1 + m + 1) := by omega
              have e1 : pfI L.pl.length i ++ pfK L.pl.length i (m + 1) = pfI L.pl.length i ++ pfK L.pl.length i m ++ pfJ i (i + 1 + m) q := by rw [hq]; simp [pfK]
              refine At.nrm ?_
              refine At.ktext (.q 0 (.q 1 (.q 2 .done))) ?_
              refine AtT.kmove ?_
              first | refine AtT.kadd ?_ | refine AtT.kaddW ?_
              refine AtT.kassign ?_
              refine AtT.done ?_
              refine At.nrm ?_
              refine At.round (m + 1, a2, c2) ?_ ?_ ?_ ?_
              · show L.pl.length - (m + 1) < L.pl.length - m; omega
              · exact ⟨hVV1.trans hVV2, by dsimp only; omega⟩
              · exact ⟨slv (by rw [e1]), rfl, rfl, ivs (by push_cast; omega), trivial⟩
              · dsimp only
                rw [e1]
                · exact Pt.auto
        · have hm : m = L.pl.length - (i + 1) := by omega
          have e1 : pfI L.pl.length (i + 1) = pfI L.pl.length i ++ pfK L.pl.length i m := by rw [hm]; rfl
          refine At.nrm ?_
          refine At.ktext (.q 0 (.q 1 (.q 2 .done))) ?_
          refine AtT.kmove ?_
          first | refine AtT.kadd ?_ | refine AtT.kaddW ?_
          refine AtT.kassign ?_
          refine AtT.done ?_
          refine At.nrm ?_
          refine At.round (i + 1, a1, c1) ?_ ?_ ?_ ?_
          · show L.pl.length - (i + 1) < L.pl.length - i; omega
          · exact ⟨hVV.trans hVV1, by dsimp only; omega⟩
          · exact ⟨slv (by rw [e1]), rfl, ivs (by push_cast; omega), trivial⟩
          · dsimp only
            rw [e1]
            · exact Pt.auto
    · have hi : i = L.pl.length := by omega
      subst hi
      refine At.nrm ?_
      refine At.ktext (.q 0 (.q 1 .done)) ?_
      refine AtT.kmove ?_
      refine AtT.kassign ?_
      refine AtT.done ?_
      refine At.nrm ?_
      refine At.giveSl pfe_len rfl rfl Pick.auto (fun V4 hV4 hs4 => ?_)
      exact At.ret1 rfl (.tmp rfl) hs4

theorem lessB_irr (x : Rt) : lessB x x = false := by simp [lessB]
theorem prov_fit {L : Lg} (hL : LgOk L) {p q : Pf} (hp : PfOk L p) (hq : PfOk L q) : Fit ((provV L p).num * (provV L q).den) := by
  obtain ⟨_, d0, d1, n0, n1⟩ := prov_bd hL hp
  obtain ⟨_, d2, d3, n2, n3⟩ := prov_bd hL hq
  have r1 := rat_bd (provN L p) (provD L p) d0
  have r2 := rat_bd (provN L q) (provD L q) d2
  have : (provV L p).num.natAbs ≤ (provN L p).natAbs := r1.1
  have h2 : 0 < (provV L q).den ∧ (provV L q).den ≤ provD L q := r2.2
  have m := mul_bd (a := (provV L p).num) (b := (provV L q).den) (A := 400000) (B := 400) (by decide) (by decide) (by omega) (by omega) (by omega) (by omega)
  exact ⟨by omega, by omega⟩

theorem bestOf_f (L : Lg) (V : View) (v : Value) (hv : LogV V v L) (hL : LgOk L) : Fnc Try.prog 65 [v] V fun r _ => r = rtv (bestV L) := by
  have hv' := hv
  obtain ⟨a, c, a', c', rfl, h2, h3⟩ := hv
  have hc := proofs_cons (n := L.pl.length) (by have := hL.n2; omega)
  have hl120 := proofs_len _ hL.n8
  have hok : ∀ p ∈ proofsL L.pl.length, PfOk L p := fun p hp => proofs_ok hp
  have hok0 : PfOk L ⟨0, 0, 0, 0⟩ := hok _ (by rw [hc]; simp)
  refine fn_of Try.func65 rfl Try.ntmps65 (Nat.le_of_ble_eq_true rfl) ?_
  intro w0 hw0
  refine At.nrm ?_
  refine At.ktext (.n false 0 (.n false 1 .done)) ?_
  refine AtT.kbox ?_
  intro b1
  refine AtT.kalloc z31 ?_
  intro b2
  refine AtT.done ?_
  refine At.nrm ?_
  refine At.ktext (.q 0 (.n false 1 (.q 2 .done))) ?_
  first | refine AtT.kloadOA tk25 ?_ | refine AtT.kloadA tk25 ?_ | refine AtT.kloadOP tk25 ?_
  refine AtT.kcall rfl rfl ok84 (proofs_f L _ _ hv' hL.n8) ?_
  rintro vl V1 hV1 hs
  refine AtT.kassign ?_
  refine AtT.done ?_
  refine At.nrm ?_
  have hlen : (1 : Int) ≤ (proofsL L.pl.length).length := by rw [hc]; simp only [List.length_cons]; omega
  refine At.cutG (ι := Nat) (fun b4 => [(1, .pointer (some ⟨b1, 0, none⟩)), (2, .pointer (some ⟨b2, 0, none⟩)), (3, vl), (4, .pointer (some ⟨b4, 0, none⟩))])
    (fun b4 => [.blk b1 (LC [.slice a L.pl.length c, .slice a' L.ed.length c'] 25), .blk b2 (LC [iv 0, iv 0] 31), .blk b4 (LC (rte (provV L ⟨0, 0, 0, 0⟩)) 31)]) (fun _ V' => V1 = V') ?_ ?_
  · refine At.draw (.q 0 (.q 1 (.q 2 (.q 3 (.two 4 (.n false 5 (.n true 6 .done)) 5 (.n false 4 (.n true 6 .done))))))) ffm (by kernel_rfl) ?_
    first | refine AtT.kloadOA tk25 ?_ | refine AtT.kloadA tk25 ?_ | refine AtT.kloadOP tk25 ?_
    refine AtT.kmove ?_
    refine AtT.kidx Try.underlying117 tk45 ?_
    intro p11 e11 he11 hc11
    obtain rfl : e11 = ⟨0, 0, 0, 0⟩ := by rw [hc] at he11; simpa using he11.symm
    first | refine AtT.kloadOA tk45 ?_ | refine AtT.kloadA tk45 ?_ | refine AtT.kloadOP tk45 ?_
    refine AtT.two ?_ ?_
    focus
      refine AtT.kcallP rfl rfl ok69 (rproves_f L _ _ _ (hv'.le hV1) hL hok0) ?_
      rintro _ rfl
      refine AtT.kalloc z31 ?_
      intro b4
      refine AtT.kstoreA tk31 ?_
      refine AtT.done ?_
    rotate_right
    focus
      refine AtT.kalloc z31 ?_
      intro b4
      refine AtT.kcallP rfl rfl ok69 (rproves_f L _ _ _ (hv'.le hV1) hL hok0) ?_
      rintro _ rfl
      refine AtT.kstoreA tk31 ?_
      refine AtT.done ?_
    all_goals (refine At.nrm ?_)
    all_goals (refine At.meetG b4 rfl ⟨rfl, rfl, rfl, rfl, trivial⟩ ?_)
    all_goals (repeat (first | exact Pt.nil | refine Pt.cons Pick.auto ?_))
  rintro b4 _ ks' O' rfl hk hO hl
  subst hk hO
  refine At.nrm ?_
  refine At.ktext (.q 0 .done) ?_
  refine AtT.kassign ?_
  refine AtT.done ?_
  refine At.nrm ?_
  refine At.lp (ι := Nat) (KS := fun k => [(1, .pointer (some ⟨b1, 0, none⟩)), (2, .pointer (some ⟨b2, 0, none⟩)), (3, vl), (4, .pointer (some ⟨b4, 0, none⟩)), (5, iv k)])
    (OS := fun k => [.blk b1 (LC [.slice a L.pl.length c, .slice a' L.ed.length c'] 25), .blk b2 (LC [iv 0, iv 0] 31), .blk b4 (LC (rte (provV L (bestOf (fun a b => lessB (provV L a) (provV L b)) ⟨0, 0, 0, 0⟩ ((proofsL L.pl.length).take k)))) 31)])
    (VS := fun k V' => V' = V1 ∧ k ≤ (proofsL L.pl.length).length) (μ := fun k => (proofsL L.pl.length).length - k) 0 ?_ ?_ ?_ ?_
  · exact ⟨rfl, rfl, rfl, rfl, rfl, trivial⟩
  · exact Pt.auto
  · exact ⟨rfl, Nat.zero_le _⟩
  · rintro k V' ks' O' ⟨rfl, hkl⟩ hk hO hl
    subst hk hO
    refine At.nrm ?_
    refine At.ktext (.q 0 (.q 1 (.q 2 (.q 3 .done)))) ?_
    refine AtT.kmove ?_
    refine AtT.kmove ?_
    first | refine AtT.klenS Try.underlying117 ?_ | refine AtT.klenR Try.underlying117 ?_
    refine AtT.klss ?_
    refine AtT.done ?_
    refine At.nrm ?_
    refine At.condP rfl (fun hb => ?_) (fun hb => ?_)
    · have hin : bestOf (fun a b => lessB (provV L a) (provV L b)) ⟨0, 0, 0, 0⟩ ((proofsL L.pl.length).take k) ∈ proofsL L.pl.length := by
        have := bestOf_mem (fun a b => lessB (provV L a) (provV L b)) ⟨0, 0, 0, 0⟩ (proofsL L.pl.length) k
        rcases List.mem_cons.1 this with h | h
        · rw [h, hc]; simp
        · exact h
      obtain ⟨e, hee⟩ : ∃ e, (proofsL L.pl.length)[k]? = some e := ⟨_, List.getElem?_eq_getElem (by omega)⟩
      have hem := List.mem_of_getElem? hee
      have hnx : bestOf (fun a b => lessB (provV L a) (provV L b)) ⟨0, 0, 0, 0⟩ ((proofsL L.pl.length).take (k + 1)) = if lessB (provV L e) (provV L (bestOf (fun a b => lessB (provV L a) (provV L b)) ⟨0, 0, 0, 0⟩ ((proofsL L.pl.length).take k))) then e else bestOf (fun a b => lessB (provV L a) (provV L b)) ⟨0, 0, 0, 0⟩ ((proofsL L.pl.length).take k) := by
        rw [take_snoc' hee]; exact bestOf_snoc _ _ _ _
      have hf1 := prov_fit hL (hok e hem) (hok _ hin)
      have hf2 := prov_fit hL (hok _ hin) (hok e hem)
      refine At.nrm ?_
      refine At.cutG (ι := Nat) (fun b6 => [(1, .pointer (some ⟨b1, 0, none⟩)), (2, .pointer (some ⟨b2, 0, none⟩)), (3, vl), (4, .pointer (some ⟨b4, 0, none⟩)), (5, iv k), (6, .pointer (some ⟨b6, 0, none⟩))])
        (fun b6 => [.blk b6 (LC (rte (provV L e)) 31), .blk b1 (LC [.slice a L.pl.length c, .slice a' L.ed.length c'] 25), .blk b2 (LC [iv 0, iv 0] 31), .blk b4 (LC (rte (provV L (bestOf (fun a b => lessB (provV L a) (provV L b)) ⟨0, 0, 0, 0⟩ ((proofsL L.pl.length).take k)))) 31)]) (fun _ V'' => V' = V'') ?_ ?_
      · refine At.draw (.q 0 (.q 1 (.q 2 (.q 3 (.q 4 (.two 5 (.n false 6 (.n true 7 .done)) 6 (.n false 5 (.n true 7 .done)))))))) ffm (by kernel_rfl) ?_
        first | refine AtT.kloadOA tk25 ?_ | refine AtT.kloadA tk25 ?_ | refine AtT.kloadOP tk25 ?_
        refine AtT.kmove ?_
        refine AtT.kmove ?_
        refine AtT.kidx Try.underlying117 tk45 ?_
        intro p23 e23 he23 hc23
        obtain rfl : e23 = e := by have : (proofsL L.pl.length)[k]? = some e23 := (by simpa using he23); rw [hee] at this; simpa using this.symm
        first | refine AtT.kloadOA tk45 ?_ | refine AtT.kloadA tk45 ?_ | refine AtT.kloadOP tk45 ?_
        refine AtT.two ?_ ?_
        focus
          refine AtT.kcallP rfl rfl ok69 (rproves_f L _ _ _ (hv'.le hV1) hL (hok _ hem)) ?_
          rintro _ rfl
          refine AtT.kalloc z31 ?_
          intro b6
          refine AtT.kstoreA tk31 ?_
          refine AtT.done ?_
        rotate_right
        focus
          refine AtT.kalloc z31 ?_
          intro b6
          refine AtT.kcallP rfl rfl ok69 (rproves_f L _ _ _ (hv'.le hV1) hL (hok _ hem)) ?_
          rintro _ rfl
          refine AtT.kstoreA tk31 ?_
          refine AtT.done ?_
        all_goals (refine At.nrm ?_)
        all_goals (refine At.meetG b6 rfl ⟨rfl, rfl, rfl, rfl, rfl, rfl, trivial⟩ ?_)
        all_goals (repeat (first | exact Pt.nil | refine Pt.cons Pick.auto ?_))
      rintro b6 _ ks' O' rfl hk hO hl
      subst hk hO
      refine At.nrm ?_
      refine At.ktext (.q 0 (.q 1 (.n false 2 .done))) ?_
      first | refine AtT.kloadOA tk31 ?_ | refine AtT.kloadA tk31 ?_ | refine AtT.kloadOP tk31 ?_
      first | refine AtT.kloadOA tk31 ?_ | refine AtT.kloadA tk31 ?_ | refine AtT.kloadOP tk31 ?_
      refine AtT.kcallP rfl rfl ok45 (rless_f (provV L e) _ _ hf1 hf2) ?_
      rintro _ rfl
      refine AtT.done ?_
      refine At.nrm ?_
      refine At.cond rfl (fun hb => ?_) (fun hb => ?_)
      · rw [if_pos hb] at hnx
        refine At.nrm ?_
        refine At.ktext (.q 0 (.n true 1 .done)) ?_
        first | refine AtT.kloadOA tk31 ?_ | refine AtT.kloadA tk31 ?_ | refine AtT.kloadOP tk31 ?_
        refine AtT.kstoreA tk31 ?_
        refine AtT.done ?_
        refine At.nrm ?_
        refine At.ktext (.q 0 (.q 1 (.q 2 .done))) ?_
        refine AtT.kmove ?_
        first | refine AtT.kadd ?_ | refine AtT.kaddW ?_
        refine AtT.kassign ?_
        refine AtT.done ?_
        refine At.nrm ?_
        refine At.round (k + 1) ?_ ?_ ?_ ?_
        · show (proofsL L.pl.length).length - (k + 1) < (proofsL L.pl.length).length - k; omega
        · exact ⟨rfl, by omega⟩
        · exact ⟨rfl, rfl, rfl, rfl, rfl, trivial⟩
        rw [hnx]
        · exact Pt.auto
      · rw [if_neg (by rw [hb]; simp)] at hnx
        refine At.nrm ?_
        refine At.ktext (.q 0 (.q 1 (.q 2 .done))) ?_
        refine AtT.kmove ?_
        first | refine AtT.kadd ?_ | refine AtT.kaddW ?_
        refine AtT.kassign ?_
        refine AtT.done ?_
        refine At.nrm ?_
        refine At.round (k + 1) ?_ ?_ ?_ ?_
        · show (proofsL L.pl.length).length - (k + 1) < (proofsL L.pl.length).length - k; omega
        · exact ⟨rfl, by omega⟩
        · exact ⟨rfl, rfl, rfl, rfl, rfl, trivial⟩
        rw [hnx]
        · exact Pt.auto
    · have hkk : k = (proofsL L.pl.length).length := by omega
      subst hkk
      refine At.nrm ?_
      refine At.ktext (.q 0 (.n true 1 .done)) ?_
      first | refine AtT.kloadOA tk31 ?_ | refine AtT.kloadA tk31 ?_ | refine AtT.kloadOP tk31 ?_
      refine AtT.kstoreA tk31 ?_
      refine AtT.done ?_
      refine At.nrm ?_
      refine At.ret1 rfl (.agg rfl tk31 Pick.auto rfl) ?_
      rw [List.take_length]
      have e2 : bestOf (fun a b => lessB (provV L a) (provV L b)) ⟨0, 0, 0, 0⟩ (proofsL L.pl.length) = leastP L := by
        rw [hc]
        show bestOf _ (if lessB _ _ then _ else _) _ = _
        rw [lessB_irr]; rfl
      rw [e2, leastP_v]
end Go.Proofs.Ytnionkopmncopaa
set_option linter.unusedVariables false
namespace Go.Proofs.Ytnionkopmncopaa
open Go.Lw Go.Pl Go.RowKit

def bestR (L : Lg) : Rt × Int := if logE L ≠ 0 then (⟨0, 0⟩, logE L) else (bestV L, 0)
theorem best_q (L : Lg) (V : View) (v : Value) (hv : LogV V v L) : Fnc Try.prog 27 [v] V fun r _ => r = .tuple #[rtv (bestR L).1, iv (bestR L).2] := by
  have hv' := hv
  obtain ⟨a, c, a', c', rfl, h2, h3⟩ := hv
  refine fn_of Try.func27 rfl Try.ntmps27 (Nat.le_of_ble_eq_true rfl) ?_
  intro w0 hw0
  refine At.nrm ?_
  refine At.ktext (.n false 0 (.n false 1 (.q 2 .done))) ?_
  refine AtT.kbox ?_
  intro b1
  refine AtT.kalloc z31 ?_
  intro b2
  refine AtT.kassign ?_
  refine AtT.done ?_
  refine At.nrm ?_
  refine At.ktext (.q 0 (.n false 1 (.q 2 .done))) ?_
  first | refine AtT.kloadOA tk25 ?_ | refine AtT.kloadA tk25 ?_ | refine AtT.kloadOP tk25 ?_
  refine AtT.kcallP rfl rfl ok23 (rcheckLog_f L _ _ hv') ?_
  rintro _ rfl
  refine AtT.kneI ?_
  refine AtT.done ?_
  refine At.nrm ?_
  refine At.condP rfl (fun hb => ?_) (fun hb => ?_)
  · refine At.nrm ?_
    refine At.ktext (.q 0 (.q 1 (.n false 2 (.n true 3 (.q 4 .done))))) ?_
    refine AtT.kbuild (bd31) ?_
    first | refine AtT.kloadOA tk25 ?_ | refine AtT.kloadA tk25 ?_ | refine AtT.kloadOP tk25 ?_
    refine AtT.kcallP rfl rfl ok23 (rcheckLog_f L _ _ hv') ?_
    rintro _ rfl
    refine AtT.kstoreA tk31 ?_
    refine AtT.kassign ?_
    refine AtT.done ?_
    refine At.nrm ?_
    refine At.ret2 rfl (.agg rfl tk31 Pick.auto rfl) (.tmp rfl) ?_
    rw [bestR, if_pos hb]
  · have he : logE L = 0 := by simpa using hb
    refine At.nrm ?_
    refine At.ktext (.q 0 (.n false 1 (.n true 2 (.q 3 .done)))) ?_
    first | refine AtT.kloadOA tk25 ?_ | refine AtT.kloadA tk25 ?_ | refine AtT.kloadOP tk25 ?_
    refine AtT.kcallP rfl rfl ok65 (bestOf_f L _ _ hv' (logE_ok he)) ?_
    rintro _ rfl
    refine AtT.kstoreA tk31 ?_
    refine AtT.kassign ?_
    refine AtT.done ?_
    refine At.nrm ?_
    refine At.ret2 rfl (.agg rfl tk31 Pick.auto rfl) (.tmp rfl) ?_
    rw [bestR, if_neg (by simp [he])]

abbrev ysP (L : Lg) : List (List Value) := (proofsL L.pl.length).map fun p => [pfv p]
theorem ysP_at {L : Lg} {j : Nat} {p : Pf} (h : (proofsL L.pl.length)[j]? = some p) : (ysP L)[j]? = some [pfv p] := by simp [ysP, h]

/-- The function that runs over all proofs. -/
theorem iter_f (L : Lg) (V : View) (q b : Addr) (hb : Cells V b [.pointer (some q)]) (hq : LathV V q L) : It Try.prog 98 [.pointer (some b)] V (ysP L) := by
  obtain ⟨a, c, a', c', h1, h2, h3⟩ := hq
  have hlen := h2.lenLe
  refine it_of Try.func98 rfl Try.ntmps98 (Nat.le_of_ble_eq_true rfl) rfl ?_
  intro l J E w0 H hJ
  refine At.nrm ?_
  refine At.ktext (.q 0 (.q 1 (.q 2 (.q 3 (.q 4 (.q 5 (.q 6 .done))))))) ?_
  first | refine AtT.kloadO tk85 ?_ | refine AtT.kload tk85 ?_
  refine AtT.knil ?_
  first | refine AtT.kfieldO fo106_0 ?_ | with_reducible refine AtT.kfield2 fo106_0 ?_ | refine AtT.kfield fo106_0 ?_
  first | refine AtT.kfieldO fo25_0 ?_ | with_reducible refine AtT.kfield2 fo25_0 ?_ | refine AtT.kfield fo25_0 ?_
  first | refine AtT.kloadO tk22 ?_ | refine AtT.kload tk22 ?_
  first | refine AtT.klenS Try.underlying22 ?_ | refine AtT.klenR Try.underlying22 ?_
  refine AtT.kassign ?_
  refine AtT.done ?_
  refine At.nrm ?_
  refine At.ktext (.q 0 (.q 1 .done)) ?_
  refine AtT.kmove ?_
  refine AtT.kmove ?_
  refine AtT.done ?_
  refine At.nrm ?_
  refine At.lpY H (ι := Nat) (fun i => i ≤ L.pl.length) (fun i => [(0, .func (.yield l) #[] #[]), (3, iv L.pl.length), (13, iv L.pl.length), (14, iv i)]) (fun i => (pfI L.pl.length i).length) (fun i => L.pl.length - i) 0 (Nat.zero_le _) ⟨rfl, rfl, rfl, rfl, trivial⟩ hJ ?_
  rintro i w ks' hil hJ rfl
  refine At.nrm ?_
  refine At.ktext (.q 0 .done) ?_
  refine AtT.klss ?_
  refine AtT.done ?_
  refine At.nrm ?_
  refine At.condP rfl (fun hb => ?_) (fun hb => ?_)
  · refine At.nrm ?_
    refine At.ktext (.q 0 (.q 1 .done)) ?_
    refine AtT.kmove ?_
    refine AtT.kassign ?_
    refine AtT.done ?_
    refine At.nrm ?_
    refine At.ktext (.q 0 (.q 1 (.q 2 (.q 3 (.q 4 (.n true 5 (.q 6 .done))))))) ?_
    refine AtT.kmove ?_
    refine AtT.kmove ?_
    refine AtT.kmove ?_
    refine AtT.kmove ?_
    refine AtT.kbuild (bd45_0_1_2 _ _ _) ?_
    refine AtT.yield rfl trivial rfl rfl H (ysP_at (pre_at (pre_i (n := L.pl.length) (i := i) (by omega)))) (hJ) (by decide) ?_ ?_
    all_goals (intro w22 hJ22)
    all_goals (refine AtT.knot ?_)
    all_goals refine AtT.done ?_
    all_goals (refine At.nrm ?_)
    rotate_left
    · refine At.condT rfl rfl ?_
      refine At.nrm ?_
      exact At.itEnd H (.inr rfl) rfl (.inr hJ22)
    refine At.condF rfl rfl ?_
    have e0 : (pfI L.pl.length i ++ pfK L.pl.length i 0).length = (pfI L.pl.length i).length + 1 := by simp [pfK]
    rw [← e0] at hJ22
    refine At.nrm ?_
    refine At.ktext (.q 0 (.q 1 (.q 2 .done))) ?_
    refine AtT.kmove ?_
    first | refine AtT.kadd ?_ | refine AtT.kaddW ?_
    refine AtT.kassign ?_
    refine AtT.done ?_
    refine At.nrm ?_
    refine At.lpY H (ι := Nat) (fun m => i + 1 + m ≤ L.pl.length) (fun m => [(0, .func (.yield l) #[] #[]), (3, iv L.pl.length), (13, iv L.pl.length), (14, iv i), (4, iv i), (5, iv ((i : Int) + 1 + m))]) (fun m => (pfI L.pl.length i ++ pfK L.pl.length i m).length) (fun m => L.pl.length - m) 0 (by omega) ⟨rfl, rfl, rfl, rfl, rfl, ivs (by simp), trivial⟩ hJ22 ?_
    rintro m w1 ks' him hJ1 rfl
    refine At.nrm ?_
    refine At.ktext (.q 0 (.q 1 (.q 2 .done))) ?_
    refine AtT.kmove ?_
    refine AtT.kmove ?_
    refine AtT.klss ?_
    refine AtT.done ?_
    refine At.nrm ?_
    refine At.condP rfl (fun hb1 => ?_) (fun hb1 => ?_)
    · refine At.nrm ?_
      refine At.ktext (.q 0 (.q 1 (.q 2 .done))) ?_
      refine AtT.kmove ?_
      first | refine AtT.kadd ?_ | refine AtT.kaddW ?_
      refine AtT.kassign ?_
      refine AtT.done ?_
      refine At.nrm ?_
      refine At.lpY H (ι := Nat) (fun q => i + 1 + m + 1 + q ≤ L.pl.length) (fun q => [(0, .func (.yield l) #[] #[]), (3, iv L.pl.length), (13, iv L.pl.length), (14, iv i), (4, iv i), (5, iv ((i : Int) + 1 + m)), (6, iv ((i : Int) + 1 + m + 1 + q))]) (fun q => (pfI L.pl.length i ++ pfK L.pl.length i m ++ pfJ i (i + 1 + m) q).length) (fun q => L.pl.length - q) 0 (by omega) ⟨rfl, rfl, rfl, rfl, rfl, rfl, ivs (by simp), trivial⟩ ?_ ?_
      · have : pfI L.pl.length i ++ pfK L.pl.length i m ++ pfJ i (i + 1 + m) 0 = pfI L.pl.length i ++ pfK L.pl.length i m := by simp [pfJ]
        rw [this]; exact hJ1
      rintro q w2 ks' himq hJ2 rfl
      refine At.nrm ?_
      refine At.ktext (.q 0 (.q 1 (.q 2 .done))) ?_
      refine AtT.kmove ?_
      refine AtT.kmove ?_
      refine AtT.klss ?_
      refine AtT.done ?_
      refine At.nrm ?_
      refine At.condP rfl (fun hb2 => ?_) (fun hb2 => ?_)
      · have g1 := ysP_at (pre_1 (n := L.pl.length) (i := i) (m := m) (q := q) (by omega))
        have g2 := ysP_at (pre_2 (n := L.pl.length) (i := i) (m := m) (q := q) (by omega))
        have c1 : ((i + 1 + m : Nat) : Int) = (i : Int) + 1 + m := by omega
        have c2 : ((i + 1 + m + 1 + q : Nat) : Int) = (i : Int) + 1 + m + 1 + q := by omega
        rw [c1, c2] at g1 g2
        refine At.nrm ?_
        refine At.ktext (.q 0 (.q 1 (.q 2 (.q 3 (.q 4 (.n true 5 (.q 6 (.q 7 (.q 8 (.q 9 (.q 10 (.q 11 (.q 12 (.n true 13 (.q 14 (.q 15 .done)))))))))))))))) ?_
        refine AtT.kmove ?_
        refine AtT.kmove ?_
        refine AtT.kmove ?_
        refine AtT.kmove ?_
        refine AtT.kbuild (bd45_0_1_2_3 _ _ _ _) ?_
        refine AtT.yield rfl trivial rfl rfl H (g1) (hJ2) (by decide) ?_ ?_
        all_goals (intro w43 hJ43)
        all_goals (refine AtT.knot ?_)
        all_goals (refine AtT.kmove ?_)
        all_goals (first | refine AtT.kL 45 ?_ | refine AtT.pcase (d := 45) rfl (fun hg45 => ?_) (fun hg45 => ?_) | refine AtT.bcase (d := 45) rfl (fun hg45 => ?_) (fun hg45 => ?_))
        all_goals (first | refine AtT.kpass ?_ | refine AtT.kpassU ?_ | ((refine AtT.kmove ?_)))
        all_goals (first | refine AtT.kpass ?_ | refine AtT.kpassU ?_ | ((refine AtT.kmove ?_)))
        all_goals (first | refine AtT.kpass ?_ | refine AtT.kpassU ?_ | ((refine AtT.kmove ?_)))
        all_goals (first | refine AtT.kpass ?_ | refine AtT.kpassU ?_ | ((refine AtT.kmove ?_)))
        all_goals (first | refine AtT.kpass ?_ | refine AtT.kpassU ?_ | ((refine AtT.kbuild (bd45_0_1_2_3 _ _ _ _) ?_)))
        all_goals (first | refine AtT.kpassN ?_ | refine AtT.kpassNU ?_ | ((refine AtT.yield rfl ⟨_, _, rfl, rfl, rfl⟩ rfl rfl H (g2) (hJ43) (by decide) ?_ ?_)) <;> (intro w51 hJ51))
        all_goals (first | refine AtT.kpass ?_ | refine AtT.kpassU ?_ | ((refine AtT.knot ?_)))
        all_goals (refine AtT.kpick ?_)
        all_goals refine AtT.done ?_
        all_goals (refine At.nrm ?_)
        · refine At.condF rfl rfl ?_
          have e1 : (pfI L.pl.length i ++ pfK L.pl.length i m ++ pfJ i (i + 1 + m) q).length + 1 + 1 = (pfI L.pl.length i ++ pfK L.pl.length i m ++ pfJ i (i + 1 + m) (q + 1)).length := by simp [pfJ]; omega
          rw [e1] at hJ51
          refine At.nrm ?_
          refine At.ktext (.q 0 (.q 1 (.q 2 .done))) ?_
          refine AtT.kmove ?_
          first | refine AtT.kadd ?_ | refine AtT.kaddW ?_
          refine AtT.kassign ?_
          refine AtT.done ?_
          refine At.nrm ?_
          refine At.roundY H (q + 1) ?_ (by omega) ?_ hJ51
          · show L.pl.length - (q + 1) < L.pl.length - q; omega
          · exact ⟨rfl, rfl, rfl, rfl, rfl, rfl, ivs (by push_cast; omega), trivial⟩
        · refine At.condT rfl rfl ?_
          refine At.nrm ?_
          exact At.itEnd H (.inr rfl) rfl (.inr hJ51)
        · refine At.condT rfl rfl ?_
          refine At.nrm ?_
          exact At.itEnd H (.inr rfl) rfl (.inr hJ43)
      · have hq : q = L.pl.length - (i + 1 + m + 1) := by omega
        have e1 : pfI L.pl.length i ++ pfK L.pl.length i (m + 1) = pfI L.pl.length i ++ pfK L.pl.length i m ++ pfJ i (i + 1 + m) q := by rw [hq]; simp [pfK]
        rw [← e1] at hJ2
        refine At.nrm ?_
        refine At.ktext (.q 0 (.q 1 (.q 2 .done))) ?_
        refine AtT.kmove ?_
        first | refine AtT.kadd ?_ | refine AtT.kaddW ?_
        refine AtT.kassign ?_
        refine AtT.done ?_
        refine At.nrm ?_
        refine At.roundY H (m + 1) ?_ (by omega) ?_ hJ2
        · show L.pl.length - (m + 1) < L.pl.length - m; omega
        · exact ⟨rfl, rfl, rfl, rfl, rfl, ivs (by push_cast; omega), trivial⟩
    · have hm : m = L.pl.length - (i + 1) := by omega
      have e1 : pfI L.pl.length (i + 1) = pfI L.pl.length i ++ pfK L.pl.length i m := by rw [hm]; rfl
      rw [← e1] at hJ1
      refine At.nrm ?_
      refine At.ktext (.q 0 (.q 1 .done)) ?_
      first | refine AtT.kadd ?_ | refine AtT.kaddW ?_
      refine AtT.kmove ?_
      refine AtT.done ?_
      refine At.nrm ?_
      refine At.roundY H (i + 1) ?_ (by omega) ?_ hJ1
      · show L.pl.length - (i + 1) < L.pl.length - i; omega
      · exact ⟨rfl, rfl, rfl, ivs (by push_cast; omega), trivial⟩
  · have hi : i = L.pl.length := by omega
    subst hi
    refine At.nrm ?_
    exact At.itEnd H (.inl rfl) rfl (.inl (by rw [ysP, List.length_map]; exact hJ))

theorem proofs87_f (V : View) (q : Addr) : Fnc Try.prog 87 [.pointer (some q)] V fun r V' => ∃ b : Addr, r = .func (.func 98) #[] #[.pointer (some b)] ∧ Cells V' b [.pointer (some q)] := by
  refine fn_of Try.func87 rfl Try.ntmps87 (Nat.le_of_ble_eq_true rfl) ?_
  intro w0 hw0
  refine At.nrm ?_
  refine At.ktext (.n false 0 (.q 1 .done)) ?_
  refine AtT.kbox ?_
  intro b1
  refine AtT.kassign ?_
  refine AtT.done ?_
  refine At.nrm ?_
  refine At.giveB (b := b1) Pick.auto ?_
  intro V1 hV1 hb1
  refine At.ktext (.q 0 (.q 1 .done)) ?_
  refine AtT.kfn ?_
  refine AtT.kassign ?_
  refine AtT.done ?_
  refine At.nrm ?_
  exact At.ret1 rfl (.tmp rfl) ⟨_, rfl, cells_blk hb1⟩

theorem less89_f (L : Lg) (a b : Pf) (V : View) (q : Addr) (mb : Nat) (M : MM Pf Rt) (c : Nat) (h1 : Cells V q [.map (some mb)]) (h2 : V mb = some (mobj pfv rtv M c)) (hf1 : Fit ((mget a ⟨0, 0⟩ M).num * (mget b ⟨0, 0⟩ M).den)) (hf2 : Fit ((mget b ⟨0, 0⟩ M).num * (mget a ⟨0, 0⟩ M).den)) :
    Fnc Try.prog 89 [pfv a, pfv b, .pointer (some q)] V fun r _ => r = .bool (lessB (mget a ⟨0, 0⟩ M) (mget b ⟨0, 0⟩ M)) := by
  refine fn_of Try.func89 rfl Try.ntmps89 (Nat.le_of_ble_eq_true rfl) ?_
  intro w0 hw0
  refine At.nrm ?_
  refine At.ktext (.n false 0 (.n false 1 (.q 2 .done))) ?_
  refine AtT.kbox ?_
  intro b3
  refine AtT.kbox ?_
  intro b4
  refine AtT.kassign ?_
  refine AtT.done ?_
  refine At.nrm ?_
  refine At.draw (.q 0 (.q 1 (.q 2 (.q 3 (.q 4 (.q 5 (.n false 6 (.q 7 .done)))))))) ffm (by kernel_rfl) ?_
  first | refine AtT.kloadO tk124 ?_ | refine AtT.kload tk124 ?_
  first | refine AtT.kloadOA tk45 ?_ | refine AtT.kloadA tk45 ?_ | refine AtT.kloadOP tk45 ?_
  first | refine AtT.lookupO rfl trivial key45 a (⟨0, 0⟩ : Rt) Try.underlying124 z31 rfl rfl rfl Pick.auto (by decide) ?_ | refine AtT.lookupV rfl trivial key45 a (⟨0, 0⟩ : Rt) Try.underlying124 z31 rfl rfl rfl (by assumption) (by decide) ?_
  first | refine AtT.kloadO tk124 ?_ | refine AtT.kload tk124 ?_
  first | refine AtT.kloadOA tk45 ?_ | refine AtT.kloadA tk45 ?_ | refine AtT.kloadOP tk45 ?_
  first | refine AtT.lookupO rfl trivial key45 b (⟨0, 0⟩ : Rt) Try.underlying124 z31 rfl rfl rfl Pick.auto (by decide) ?_ | refine AtT.lookupV rfl trivial key45 b (⟨0, 0⟩ : Rt) Try.underlying124 z31 rfl rfl rfl (by assumption) (by decide) ?_
  refine AtT.kcallP rfl rfl ok90 (less_f (mget a ⟨0, 0⟩ M) (mget b ⟨0, 0⟩ M) _ hf1 hf2) ?_
  rintro _ rfl
  refine AtT.kassign ?_
  refine AtT.done ?_
  refine At.nrm ?_
  exact At.ret1 rfl (.tmp rfl) rfl

theorem some91_f (a b : Pf) (V : View) (q : Addr) (mb : Nat) (M : MM Pf Rt) (c : Nat) (h1 : Cells V q [.map (some mb)]) (h2 : V mb = some (mobj pfv rtv M c)) :
    Fnc Try.prog 91 [pfv a, pfv b, .pointer (some q)] V fun r _ => r = .bool (decide (0 < (mget a ⟨0, 0⟩ M).den) && decide ((mget b ⟨0, 0⟩ M).den = 0)) := by
  refine fn_of Try.func91 rfl Try.ntmps91 (Nat.le_of_ble_eq_true rfl) ?_
  intro w0 hw0
  refine At.nrm ?_
  refine At.ktext (.n false 0 (.n false 1 (.q 2 .done))) ?_
  refine AtT.kbox ?_
  intro b3
  refine AtT.kbox ?_
  intro b4
  refine AtT.kassign ?_
  refine AtT.done ?_
  refine At.nrm ?_
  refine At.ktext (.q 0 (.q 1 (.q 2 (.q 3 (.q 4 (.q 5 (.q 6 (.q 7 (.q 8 (.q 9 (.q 10 (.q 11 (.q 12 .done))))))))))))) ?_
  first | refine AtT.kloadO tk124 ?_ | refine AtT.kload tk124 ?_
  first | refine AtT.kloadOA tk45 ?_ | refine AtT.kloadA tk45 ?_ | refine AtT.kloadOP tk45 ?_
  first | refine AtT.lookupO rfl trivial key45 a (⟨0, 0⟩ : Rt) Try.underlying124 z31 rfl rfl rfl Pick.auto (by decide) ?_ | refine AtT.lookupV rfl trivial key45 a (⟨0, 0⟩ : Rt) Try.underlying124 z31 rfl rfl rfl (by assumption) (by decide) ?_
  refine AtT.kfld (fl31_1 _ _) ?_
  refine AtT.kgtr ?_
  refine AtT.kmove ?_
  all_goals (first | refine AtT.kL 11 ?_ | refine AtT.pcase (d := 11) rfl (fun hg11 => ?_) (fun hg11 => ?_) | refine AtT.bcase (d := 11) rfl (fun hg11 => ?_) (fun hg11 => ?_))
  all_goals (first | refine AtT.kpass ?_ | refine AtT.kpassU ?_ | ((first | refine AtT.kloadO tk124 ?_ | refine AtT.kload tk124 ?_)))
  all_goals (first | refine AtT.kpass ?_ | refine AtT.kpassU ?_ | ((first | refine AtT.kloadOA tk45 ?_ | refine AtT.kloadA tk45 ?_ | refine AtT.kloadOP tk45 ?_)))
  all_goals (first | refine AtT.kpass ?_ | refine AtT.kpassU ?_ | ((first | refine AtT.lookupO rfl ⟨_, _, rfl, rfl, rfl⟩ key45 b (⟨0, 0⟩ : Rt) Try.underlying124 z31 rfl rfl rfl Pick.auto (by decide) ?_ | refine AtT.lookupV rfl ⟨_, _, rfl, rfl, rfl⟩ key45 b (⟨0, 0⟩ : Rt) Try.underlying124 z31 rfl rfl rfl (by assumption) (by decide) ?_)))
  all_goals (first | refine AtT.kpass ?_ | refine AtT.kpassU ?_ | ((refine AtT.kfld (fl31_1 _ _) ?_)))
  all_goals (first | refine AtT.kpass ?_ | refine AtT.kpassU ?_ | ((refine AtT.keqI ?_)))
  all_goals (refine AtT.kpick ?_)
  all_goals (refine AtT.kassign ?_)
  all_goals refine AtT.done ?_
  all_goals (refine At.nrm ?_)
  all_goals (refine At.ret1 rfl (.tmp rfl) ?_)
  all_goals (show Value.bool _ = Value.bool _; simp [*])
end Go.Proofs.Ytnionkopmncopaa
set_option linter.unusedSectionVars false
set_option linter.unusedSimpArgs false
namespace Go.Pl
open Go.Lw

section
variable {α β : Type} [DecidableEq α] (f : α → β)
def mOf : List α → Nat → MM α β
  | [], _ => []
  | a :: l, i => (a, f a, i) :: mOf l (i + 1)
theorem mOf_snoc (a : α) : ∀ (l : List α) (i : Nat), mOf f (l ++ [a]) i = mOf f l i ++ [(a, f a, i + l.length)]
  | [], i => by simp [mOf]
  | b :: l, i => by simp [mOf, mOf_snoc a l (i + 1)]; omega
theorem mOf_mem {e : α × β × Nat} : ∀ {l : List α} {i : Nat}, e ∈ mOf f l i → e.1 ∈ l ∧ e.2.1 = f e.1 ∧ i ≤ e.2.2 ∧ e.2.2 < i + l.length
  | b :: l, i, h => by
    simp only [mOf, List.mem_cons] at h
    rcases h with rfl | h
    · simp
    · have := mOf_mem h
      simp only [List.mem_cons, List.length_cons]
      exact ⟨.inr this.1, this.2.1, by omega, by omega⟩
theorem mOf_has {a : α} : ∀ {l : List α} {i : Nat}, a ∈ l → ∃ j, (a, f a, j) ∈ mOf f l i
  | b :: l, i, h => by
    rcases List.mem_cons.1 h with rfl | h
    · exact ⟨i, by simp [mOf]⟩
    · obtain ⟨j, hj⟩ := mOf_has (l := l) (i := i + 1) h
      exact ⟨j, List.mem_cons_of_mem _ hj⟩
theorem mOf_born : ∀ (l : List α) (i : Nat), ((mOf f l i).map (·.2.2)).Nodup
  | [], _ => by simp [mOf]
  | b :: l, i => by
    simp only [mOf, List.map_cons, List.nodup_cons, mOf_born l (i + 1), and_true]
    intro h
    obtain ⟨e, he, h2⟩ := List.mem_map.1 h
    have := mOf_mem f he
    omega
theorem mOf_keys : ∀ (l : List α) (i : Nat), (mOf f l i).map (·.1) = l
  | [], _ => rfl
  | b :: l, i => by simp [mOf, mOf_keys l (i + 1)]
theorem mOf_length : ∀ (l : List α) (i : Nat), (mOf f l i).length = l.length
  | [], _ => rfl
  | b :: l, i => by simp [mOf, mOf_length l (i + 1)]
theorem fk_new {a : α} : ∀ {M : MM α β} {k : Nat}, (∀ e ∈ M, e.1 ≠ a) → fk a M k = none
  | [], _, _ => rfl
  | e :: M, k, h => by
    have : ¬ a = e.1 := fun he => h e (by simp) he.symm
    simp only [fk, this, if_false]
    exact fk_new fun e he => h e (List.mem_cons_of_mem _ he)
theorem mget_no {a : α} {z : β} : ∀ {M : MM α β}, (∀ e ∈ M, e.1 ≠ a) → mget a z M = z
  | [], _ => rfl
  | e :: M, h => by
    have : ¬ a = e.1 := fun he => h e (by simp) he.symm
    simp only [mget, this, if_false]
    exact mget_no fun e he => h e (List.mem_cons_of_mem _ he)
theorem mget_fn {a : α} {z : β} : ∀ {M : MM α β}, (∀ e ∈ M, e.2.1 = f e.1) → (∃ e ∈ M, e.1 = a) → mget a z M = f a
  | [], _, h => by obtain ⟨_, h, _⟩ := h; cases h
  | e :: M, h1, h2 => by
    by_cases c : a = e.1
    · simp only [mget, c, if_true]; exact h1 e (by simp)
    · simp only [mget, c, if_false]
      refine mget_fn (fun e he => h1 e (List.mem_cons_of_mem _ he)) ?_
      obtain ⟨e', h3, h4⟩ := h2
      rcases List.mem_cons.1 h3 with rfl | h3
      · exact absurd h4.symm c
      · exact ⟨e', h3, h4⟩
theorem mdel_eq {a : α} : ∀ {M : MM α β}, (M.map (·.1)).Nodup → mdel a M = M.filter fun e => !decide (e.1 = a)
  | [], _ => rfl
  | e :: M, h => by
    simp only [List.map_cons, List.nodup_cons] at h
    by_cases c : a = e.1
    · have : ∀ e' ∈ M, (!decide (e'.1 = a)) = true := fun e' he => by
        have : e'.1 ≠ a := fun hc => h.1 (by rw [← c, ← hc]; exact List.mem_map_of_mem he)
        simp [this]
      simp only [mdel, c, if_true, List.filter_cons, decide_true, Bool.not_true, Bool.false_eq_true, if_false]
      rw [← c]
      exact (List.filter_eq_self.2 this).symm
    · have c' : ¬ e.1 = a := fun h => c h.symm
      simp [mdel, c, c', mdel_eq h.2]
end

/-- What is left of a map: what is good, and what was not looked at yet. -/
def left {α β : Type} (g : α × β × Nat → Bool) (M : MM α β) (seen : Array Nat) : MM α β := M.filter fun e => g e || !seen.contains e.2.2
theorem left_nil {α β : Type} (g : α × β × Nat → Bool) (M : MM α β) : left g M #[] = M := by
  unfold left; rw [List.filter_eq_self.2]; intro e _; simp
theorem inj_of {γ δ : Type} (h : γ → δ) : ∀ {l : List γ} {x y : γ}, (l.map h).Nodup → x ∈ l → y ∈ l → h x = h y → x = y
  | b :: l, x, y, hn, hx, hy, e => by
    simp only [List.map_cons, List.nodup_cons] at hn
    rcases List.mem_cons.1 hx with hx' | hx' <;> rcases List.mem_cons.1 hy with hy' | hy'
    · rw [hx', hy']
    · exact absurd (by rw [← hx', e]; exact List.mem_map_of_mem hy') hn.1
    · exact absurd (by rw [← hy', ← e]; exact List.mem_map_of_mem hx') hn.1
    · exact inj_of h hn.2 hx' hy' e
theorem filter_lt {γ : Type} {p q : γ → Bool} : ∀ {l : List γ} {x : γ}, (∀ y ∈ l, p y = true → q y = true) → x ∈ l → q x = true → p x = false → (l.filter p).length < (l.filter q).length
  | b :: l, x, h, hx, hq, hp => by
    have mono : ∀ l : List γ, (∀ y ∈ l, p y = true → q y = true) → (l.filter p).length ≤ (l.filter q).length := by
      intro l
      induction l with
      | nil => intro _; simp
      | cons b l ih =>
        intro h
        have := ih fun y hy => h y (List.mem_cons_of_mem _ hy)
        by_cases c : p b = true
        · have d := h b (by simp) c
          simp [List.filter_cons, c, d, this]
        · simp only [List.filter_cons, c, if_false, Bool.false_eq_true]
          split
          · simp only [List.length_cons]; omega
          · exact this
    rcases List.mem_cons.1 hx with rfl | hx
    · have := mono l fun y hy => h y (List.mem_cons_of_mem _ hy)
      simp only [List.filter_cons, hp, hq, if_true, if_false, Bool.false_eq_true, List.length_cons]; omega
    · have ih := filter_lt (fun y hy => h y (List.mem_cons_of_mem _ hy)) hx hq hp
      by_cases c : p b = true
      · have d := h b (by simp) c
        simp only [List.filter_cons, c, d, if_true, List.length_cons]; omega
      · simp only [List.filter_cons, c, if_false, Bool.false_eq_true]
        split
        · simp only [List.length_cons]; omega
        · exact ih
theorem left_keep {α β : Type} {g : α × β × Nat → Bool} {M : MM α β} {seen : Array Nat} {e : α × β × Nat} (hb : (M.map (·.2.2)).Nodup) (he : e ∈ M) (hg : g e = true) : left g M (seen.push e.2.2) = left g M seen := by
  unfold left
  refine List.filter_congr fun x hx => ?_
  by_cases c : x.2.2 = e.2.2
  · have : x = e := inj_of (fun e : α × β × Nat => e.2.2) hb hx he c
    subst this; simp [hg]
  · have : ¬ e.2.2 = x.2.2 := fun h => c h.symm
    simp [Array.contains_push, c]
theorem left_del {α β : Type} [DecidableEq α] {g : α × β × Nat → Bool} {M : MM α β} {seen : Array Nat} {e : α × β × Nat} (hb : (M.map (·.2.2)).Nodup) (hk : (M.map (·.1)).Nodup) (he : e ∈ M) (hg : g e = false) :
    mdel e.1 (left g M seen) = left g M (seen.push e.2.2) := by
  have hkl : ((left g M seen).map (·.1)).Nodup := hk.sublist ((List.filter_sublist).map _)
  rw [mdel_eq hkl]
  unfold left
  rw [List.filter_filter]
  refine List.filter_congr fun x hx => ?_
  by_cases c : x.1 = e.1
  · have : x = e := inj_of (fun e : α × β × Nat => e.1) hk hx he c
    subst this; simp [hg]
  · have : ¬ x.2.2 = e.2.2 := fun h => c (by rw [inj_of (fun e : α × β × Nat => e.2.2) hb hx he h])
    simp [Array.contains_push, c, this]
theorem unseen_lt {α β : Type} {M : MM α β} {seen : Array Nat} {e : α × β × Nat} (he : e ∈ M) (hs : e.2.2 ∉ seen) :
    (M.filter fun x => !(seen.push e.2.2).contains x.2.2).length < (M.filter fun x => !seen.contains x.2.2).length := by
  refine filter_lt (x := e) (fun y _ h => ?_) he (by simpa using hs) (by simp)
  simp at h ⊢
  exact h.1
theorem left_end {α β : Type} {g : α × β × Nat → Bool} {M : MM α β} {seen : Array Nat} (h : ∀ e ∈ left g M seen, e.2.2 ∈ seen) : left g M seen = M.filter g := by
  unfold left at *
  refine List.filter_congr fun x hx => ?_
  cases hg : g x with
  | true => simp
  | false =>
    by_cases c : x.2.2 ∈ seen
    · simp [c]
    · have := h x (by rw [List.mem_filter]; exact ⟨hx, by simp [hg, c]⟩)
      exact absurd this c

/-- The first good one: once a good one is taken, none is better. -/
theorem bestOf_good {α : Type} (good : α → Bool) (lt : α → α → Bool) : ∀ (l : List α) (o : α), (∀ a ∈ o :: l, ∀ b ∈ o :: l, lt a b = (good a && !good b)) → bestOf lt o l = if good o then o else (l.find? good).getD o
  | [], o, _ => by simp [bestOf]
  | x :: l, o, h => by
    have e : bestOf lt o (x :: l) = bestOf lt (if lt x o then x else o) l := rfl
    rw [e, h x (by simp) o (by simp)]
    cases ho : good o with
    | true =>
      simp only [Bool.not_true, Bool.and_false, Bool.false_eq_true, if_false, if_true]
      rw [bestOf_good good lt l o fun a ha b hb => h a (by simp at ha ⊢; rcases ha with h | h <;> simp [h]) b (by simp at hb ⊢; rcases hb with h | h <;> simp [h])]
      simp [ho]
    | false =>
      cases hx : good x with
      | true =>
        simp only [Bool.not_false, Bool.and_self, if_true, Bool.false_eq_true, if_false]
        rw [bestOf_good good lt l x fun a ha b hb => h a (List.mem_cons_of_mem _ ha) b (List.mem_cons_of_mem _ hb)]
        simp [hx]
      | false =>
        simp only [Bool.false_and, Bool.false_eq_true, if_false]
        rw [bestOf_good good lt l o fun a ha b hb => h a (by simp at ha ⊢; rcases ha with h | h <;> simp [h]) b (by simp at hb ⊢; rcases hb with h | h <;> simp [h])]
        simp [ho, hx]
theorem bestOf_first {α : Type} (good : α → Bool) (lt : α → α → Bool) (l : List α) (o d : α) (h : ∀ a ∈ o :: l, ∀ b ∈ o :: l, lt a b = (good a && !good b)) (hex : ∃ a ∈ o :: l, good a = true) : bestOf lt o l = ((o :: l).find? good).getD d := by
  rw [bestOf_good good lt l o h]
  cases ho : good o with
  | true => simp [ho]
  | false =>
    simp only [Bool.false_eq_true, if_false, List.find?_cons, ho]
    cases hf : l.find? good with
    | some a => simp
    | none =>
      obtain ⟨a, ha, hg⟩ := hex
      rcases List.mem_cons.1 ha with rfl | ha
      · rw [ho] at hg; cases hg
      · exact absurd hg (by have := List.find?_eq_none.1 hf a ha; simpa using this)
end Go.Pl
set_option linter.unusedVariables false
namespace Go.Proofs.Ytnionkopmncopaa
open Go.Lw Go.Pl Go.RowKit

theorem proof_f (L : Lg) (V : View) (q : Addr) (hq : LathV V q L) (hL : LgOk L) : Fnc Try.prog 70 [.pointer (some q)] V fun r _ => r = pfv (firstP L) := by
  have hc := proofs_cons (n := L.pl.length) (by have := hL.n2; omega)
  have hl120 := proofs_len _ hL.n8
  have hnd := proofs_nodup _ hL.n8
  have hok : ∀ p ∈ proofsL L.pl.length, PfOk L p := fun p hp => proofs_ok hp
  refine fn_ofM Try.func70 rfl Try.ntmps70 (Nat.le_of_ble_eq_true rfl) ?_
  intro w0 hw0
  refine At.nrm ?_
  refine At.ktext (.n false 0 (.n false 1 .done)) ?_
  refine AtT.kbox ?_
  intro b1
  refine AtT.kalloc z45 ?_
  intro b2
  refine AtT.done ?_
  refine At.nrm ?_
  refine At.giveB (b := b1) Pick.auto ?_
  intro V1 hV1 hb1
  have hc1 := cells_blk hb1
  refine At.ktext (.n false 0 (.n false 1 (.n true 2 .done))) ?_
  refine AtT.makeMap rfl trivial pfv rtv (by decide) ?_
  intro b9
  refine AtT.kalloc z124 ?_
  intro b3
  first | refine AtT.kstore1 tk124 ?_ | refine AtT.kstoreA tk124 ?_
  refine AtT.done ?_
  refine At.nrm ?_
  refine At.ktext (.n false 0 .done) ?_
  refine AtT.kalloc z117 ?_
  intro b4
  refine AtT.done ?_
  refine At.nrm ?_
  refine At.ktext (.q 0 (.n false 1 .done)) ?_
  first | refine AtT.kloadO tk85 ?_ | refine AtT.kload tk85 ?_
  refine AtT.kcall rfl rfl ok87 (proofs87_f _ q) ?_
  rintro _ V2 hV2 ⟨b, rfl, hb⟩
  refine AtT.done ?_
  refine At.nrm ?_
  refine At.newRow 45 4 ?_
  refine At.rangeFunc (Vi := V2) (ys := ysP L) (ι := Nat × Option Addr × Nat) (fun g => g.1)
    (fun g => [.blk b2 (LC [iv 0, iv 0, iv 0, iv 0] 45), .blk b3 (LC [.map (some b9)] 124), .blk b9 (mobj pfv rtv (mOf (provV L) ((proofsL L.pl.length).take g.1) 0) g.1), .blk b4 (LC [.slice g.2.1 g.1 g.2.2] 117), .row (.slice g.2.1 g.1 g.2.2) 45 4 g.1 (flat pfe ((proofsL L.pl.length).take g.1))])
    (fun g V' => Le V2 V') (fun _ _ _ => False) rfl ok98 (0, none, 0) rfl ?_ (Le.refl _) (iter_f L V2 q b hb (hq.le (hV1.trans hV2))) (fun _ _ h => h) (by decide) (fun y hy => by obtain ⟨p, _, rfl⟩ := List.mem_map.1 hy; rfl) rfl ?_ ?_ (fun _ _ _ _ h => h.elim)
  · exact Pt.auto
  · rintro ⟨k, ao, co⟩ y l D r V' ks' O' hy hVV hl rfl rfl
    dsimp only at hy ⊢
    obtain ⟨p, hp, rfl⟩ : ∃ p, (proofsL L.pl.length)[k]? = some p ∧ y = [pfv p] := by
      unfold ysP at hy
      rw [List.getElem?_map] at hy
      cases h : (proofsL L.pl.length)[k]? with
      | none => rw [h] at hy; cases hy
      | some p => rw [h] at hy; exact ⟨p, rfl, (Option.some.inj hy).symm⟩
    have hpm := List.mem_of_getElem? hp
    have hkl : k < (proofsL L.pl.length).length := (List.getElem?_eq_some_iff.1 hp).1
    have htk := take_snoc' hp
    have htl : ((proofsL L.pl.length).take k).length = k := by rw [List.length_take]; omega
    have hpn : ∀ e ∈ mOf (provV L) ((proofsL L.pl.length).take k) 0, e.1 ≠ p := fun e he h => by
      have h1 := (mOf_mem _ he).1
      rw [h] at h1
      obtain ⟨j, hj, hje⟩ := List.mem_take_iff_getElem.1 h1
      have h2 : (proofsL L.pl.length)[k] = p := (List.getElem?_eq_some_iff.1 hp).2
      have := (List.nodup_iff_pairwise_ne.1 hnd)
      have := List.pairwise_iff_getElem.1 hnd j k (by omega) hkl (by omega)
      exact this (by rw [hje, h2])
    have eM : mOf (provV L) ((proofsL L.pl.length).take (k + 1)) 0 = mOf (provV L) ((proofsL L.pl.length).take k) 0 ++ [(p, provV L p, k)] := by
      rw [htk, mOf_snoc, htl, Nat.zero_add]
    have hc1' := hc1.le (hV2.trans hVV)
    show At _ _ ((12, pfv p) :: _) _ _ _
    refine At.ktext (.n false 0 (.n true 1 .done)) ?_
    refine AtT.kalloc z45 ?_
    intro b5
    refine AtT.kstoreA tk45 ?_
    refine AtT.done ?_
    refine At.nrm ?_
    refine At.begin Pick.auto ?_
    refine At.nrm ?_
    refine At.draw (.q 0 (.q 1 (.q 2 (.q 3 (.n false 4 (.n true 5 .done)))))) ffm (by kernel_rfl) ?_
    first | refine AtT.kloadO tk124 ?_ | refine AtT.kload tk124 ?_
    first | refine AtT.kloadOA tk45 ?_ | refine AtT.kloadA tk45 ?_ | refine AtT.kloadOP tk45 ?_
    first | refine AtT.kloadO tk85 ?_ | refine AtT.kload tk85 ?_
    first | refine AtT.kloadOA tk45 ?_ | refine AtT.kloadA tk45 ?_ | refine AtT.kloadOP tk45 ?_
    refine AtT.kcallP rfl rfl ok67 (proves_f L p _ q (hq.le (hV1.trans (hV2.trans hVV))) hL (hok p hpm)) ?_
    rintro _ rfl
    refine AtT.mapNew rfl trivial key45 p (provV L p)  Try.underlying124 rfl rfl rfl (fk_new hpn) (by repeat (first | exact Upd.here | apply Upd.there)) ?_
    refine AtT.done ?_
    refine At.nrm ?_
    refine At.ktext (.q 0 (.q 1 (.n false 2 (.n true 3 (.n true 4 .done))))) ?_
    first | refine AtT.kloadO tk117 ?_ | refine AtT.kload tk117 ?_
    first | refine AtT.kloadOA tk45 ?_ | refine AtT.kloadA tk45 ?_ | refine AtT.kloadOP tk45 ?_
    refine AtT.kbsliceG (bs117_1_0 _ _ _ _) ?_
    intro q20 V20 hV20 hq20
    have g20 : Le V V20 := by first | exact hV20 | exact Le.trans (by assumption) hV20
    first | refine AtT.kappend Try.underlying117 rw45 ?_
    intro a21 c21
    first | refine AtT.kstore1 tk117 ?_ | refine AtT.kstoreA tk117 ?_
    refine AtT.done ?_
    refine At.nrm ?_
    refine At.roundN (k + 1, a21, c21) rfl (hVV.trans hV20) Pick.auto ?_
    dsimp only
    rw [eM, htk, flat_snoc]
    · exact Pt.auto
  rintro ⟨k, ao, co⟩ D V3 O' hk hVV hl rfl
  dsimp only at hk ⊢
  rw [ysP, List.length_map] at hk
  subst hk
  rw [List.take_length]
  refine At.giveSl pfe_len rfl rfl Pick.auto (fun V4 hV4 hs4 => ?_)
  refine At.sub (ks' := [(2, .pointer (some ⟨b2, 0, none⟩)), (3, .pointer (some ⟨b3, 0, none⟩)), (4, .pointer (some ⟨b4, 0, none⟩))]) ⟨rfl, rfl, rfl, trivial⟩ ?_
  generalize hM : mOf (provV L) (proofsL L.pl.length) 0 = M
  have hmg : ∀ p ∈ proofsL L.pl.length, mget p ⟨0, 0⟩ M = provV L p := fun p hp => by
    subst hM
    obtain ⟨j, hj⟩ := mOf_has (provV L) (i := 0) hp
    exact mget_fn _ (fun e he => (mOf_mem _ he).2.1) ⟨_, hj, rfl⟩
  have hs5 : Sl V4 pfe 4 (.slice ao (proofsL L.pl.length).length co) (⟨0, 0, 0, 0⟩ :: (proofsL L.pl.length).tail) := by rw [← hc]; exact hs4
  have hborn : (M.map (·.2.2)).Nodup := by subst hM; exact mOf_born _ _ _
  have hkeys : (M.map (·.1)).Nodup := by subst hM; rw [mOf_keys]; exact hnd
  have hlt : ∀ e ∈ M, e.2.2 < (proofsL L.pl.length).length := fun e he => by subst hM; have := (mOf_mem _ he).2.2; omega
  have hval : ∀ e ∈ M, e.1 ∈ proofsL L.pl.length ∧ e.2.1 = provV L e.1 := fun e he => by subst hM; exact ⟨(mOf_mem _ he).1, (mOf_mem _ he).2.1⟩
  have hlv : mget (leastP L) ⟨0, 0⟩ M = bestV L := by rw [hmg _ (leastP_mem (by have := hL.n2; omega)), leastP_v]
  refine At.nrm ?_
  refine At.cutG (ι := Nat) (fun b6 => [(2, .pointer (some ⟨b2, 0, none⟩)), (3, .pointer (some ⟨b3, 0, none⟩)), (4, .pointer (some ⟨b4, 0, none⟩)), (6, .pointer (some ⟨b6, 0, none⟩))])
    (fun b6 => [.blk b6 (LC (rte (bestV L)) 31), .blk D (.deferred (some [])), .blk b2 (LC [iv 0, iv 0, iv 0, iv 0] 45), .blk b3 (LC [.map (some b9)] 124), .blk b9 (mobj pfv rtv M (proofsL L.pl.length).length), .blk b4 (LC [.slice ao (proofsL L.pl.length).length co] 117)]) (fun _ V' => V4 = V') ?_ ?_
  · refine At.draw (.q 0 (.q 1 (.q 2 (.two 3 (.q 4 (.n false 5 (.n true 6 .done))) 5 (.n false 3 (.q 4 (.n true 6 .done))))))) ffm (by kernel_rfl) ?_
    first | refine AtT.kloadO tk124 ?_ | refine AtT.kload tk124 ?_
    first | refine AtT.kloadO tk117 ?_ | refine AtT.kload tk117 ?_
    refine AtT.kfn ?_
    refine AtT.two ?_ ?_
    focus
      refine AtT.kcallL rfl rfl ok88 (fun VL hVL hOL => best_p 89 [.pointer (some ⟨b3, 0, none⟩)] (fun a b => lessB (provV L a) (provV L b)) VL _ ⟨0, 0, 0, 0⟩ _ (hs5.le hVL) ok89 (fun a b ha hb => by rw [← hc] at ha hb; have h := less89_f L a b VL ⟨b3, 0, none⟩ b9 M (proofsL L.pl.length).length (cells_blk (hOL b3 (LC [.map (some b9)] 124) (by repeat (first | exact List.mem_cons_self | apply List.mem_cons_of_mem)))) (hOL b9 (mobj pfv rtv M (proofsL L.pl.length).length) (by repeat (first | exact List.mem_cons_self | apply List.mem_cons_of_mem))) (by rw [hmg _ ha, hmg _ hb]; exact prov_fit hL (hok _ ha) (hok _ hb)) (by rw [hmg _ ha, hmg _ hb]; exact prov_fit hL (hok _ hb) (hok _ ha)); rw [hmg _ ha, hmg _ hb] at h; exact h)) ?_
      rintro _ rfl
      first | refine AtT.lookupO rfl trivial key45 (leastP L) (⟨0, 0⟩ : Rt) Try.underlying124 z31 rfl rfl rfl Pick.auto (by decide) ?_ | refine AtT.lookupV rfl trivial key45 (leastP L) (⟨0, 0⟩ : Rt) Try.underlying124 z31 rfl rfl rfl (by assumption) (by decide) ?_
      refine AtT.kalloc z31 ?_
      intro b6
      refine AtT.kstoreA tk31 ?_
      refine AtT.done ?_
    rotate_right
    focus
      refine AtT.kalloc z31 ?_
      intro b6
      refine AtT.kcallL rfl rfl ok88 (fun VL hVL hOL => best_p 89 [.pointer (some ⟨b3, 0, none⟩)] (fun a b => lessB (provV L a) (provV L b)) VL _ ⟨0, 0, 0, 0⟩ _ (hs5.le hVL) ok89 (fun a b ha hb => by rw [← hc] at ha hb; have h := less89_f L a b VL ⟨b3, 0, none⟩ b9 M (proofsL L.pl.length).length (cells_blk (hOL b3 (LC [.map (some b9)] 124) (by repeat (first | exact List.mem_cons_self | apply List.mem_cons_of_mem)))) (hOL b9 (mobj pfv rtv M (proofsL L.pl.length).length) (by repeat (first | exact List.mem_cons_self | apply List.mem_cons_of_mem))) (by rw [hmg _ ha, hmg _ hb]; exact prov_fit hL (hok _ ha) (hok _ hb)) (by rw [hmg _ ha, hmg _ hb]; exact prov_fit hL (hok _ hb) (hok _ ha)); rw [hmg _ ha, hmg _ hb] at h; exact h)) ?_
      rintro _ rfl
      first | refine AtT.lookupO rfl trivial key45 (leastP L) (⟨0, 0⟩ : Rt) Try.underlying124 z31 rfl rfl rfl Pick.auto (by decide) ?_ | refine AtT.lookupV rfl trivial key45 (leastP L) (⟨0, 0⟩ : Rt) Try.underlying124 z31 rfl rfl rfl (by assumption) (by decide) ?_
      refine AtT.kstoreA tk31 ?_
      refine AtT.done ?_
    all_goals (refine At.nrm ?_)
    all_goals (refine At.meetG b6 rfl ⟨rfl, rfl, rfl, rfl, trivial⟩ ?_)
    all_goals (rw [hlv])
    all_goals (repeat (first | exact Pt.nil | refine Pt.cons Pick.auto ?_))
  rintro b6 _ ks' O' rfl hk hO hl
  subst hk hO
  refine At.nrm ?_
  refine At.ktext (.q 0 (.n false 1 .done)) ?_
  first | refine AtT.kloadO tk124 ?_ | refine AtT.kload tk124 ?_
  refine AtT.range rfl trivial Try.underlying124 rfl Pick.auto (by decide) ?_
  intro b28
  refine AtT.done ?_
  refine At.nrm ?_
  refine At.lp (ι := Array Nat) (KS := fun _ => [(2, .pointer (some ⟨b2, 0, none⟩)), (3, .pointer (some ⟨b3, 0, none⟩)), (4, .pointer (some ⟨b4, 0, none⟩)), (6, .pointer (some ⟨b6, 0, none⟩)), (28, .pointer (some ⟨b28, 0, none⟩))])
    (OS := fun seen => [.blk b28 (.mapIter (some b9) (proofsL L.pl.length).length seen (proofsL L.pl.length).length), .blk b6 (LC (rte (bestV L)) 31), .blk D (.deferred (some [])), .blk b2 (LC [iv 0, iv 0, iv 0, iv 0] 45), .blk b3 (LC [.map (some b9)] 124), .blk b9 (mobj pfv rtv (left (fun e => decide (e.2.1 = bestV L)) M seen) (proofsL L.pl.length).length), .blk b4 (LC [.slice ao (proofsL L.pl.length).length co] 117)])
    (VS := fun _ V' => V' = V4) (μ := fun seen => (M.filter fun e => !seen.contains e.2.2).length) #[] ?_ ?_ ?_ ?_
  · exact ⟨rfl, rfl, rfl, rfl, rfl, trivial⟩
  · rw [left_nil]
    · exact Pt.auto
  · rfl
  · rintro seen _ ks' O' rfl hk hO hl2
    subst hk hO
    have hsub : ∀ e ∈ left (fun e => decide (e.2.1 = bestV L)) M seen, e ∈ M := fun e he => (List.mem_filter.1 he).1
    refine At.nrm ?_
    refine At.ktext (.n true 0 (.q 1 .done)) ?_
    all_goals (refine AtT.next rfl trivial rfl Pick.auto Pick.auto (fun e he => hlt e (hsub e he)) (Nat.le_refl _) (by decide) (fun hall => ?_) (fun e he hns => ?_))
    all_goals (refine AtT.kextract ?_)
    all_goals refine AtT.done ?_
    all_goals (refine At.nrm ?_)
    · refine At.condF rfl rfl ?_
      rw [left_end hall]
      have hmg2 : ∀ p ∈ proofsL L.pl.length, (0 < (mget p ⟨0, 0⟩ (M.filter fun e => decide (e.2.1 = bestV L))).den ↔ provV L p = bestV L) ∧ ((mget p ⟨0, 0⟩ (M.filter fun e => decide (e.2.1 = bestV L))).den = 0 ↔ ¬ provV L p = bestV L) := fun p hp => by
        have hpos : 0 < (provV L p).den := (rat_bd _ _ (prov_bd hL (hok p hp)).2.1).2.1
        by_cases c : provV L p = bestV L
        · have hm : mget p ⟨0, 0⟩ (M.filter fun e => decide (e.2.1 = bestV L)) = provV L p := by
            refine mget_fn (provV L) (fun e he => (hval e (List.mem_filter.1 he).1).2) ?_
            subst hM
            obtain ⟨j, hj⟩ := mOf_has (provV L) (i := 0) hp
            exact ⟨_, List.mem_filter.2 ⟨hj, by simpa using c⟩, rfl⟩
          rw [hm]
          exact ⟨⟨fun _ => c, fun _ => hpos⟩, ⟨fun h => by omega, fun h => absurd c h⟩⟩
        · have hm : mget p ⟨0, 0⟩ (M.filter fun e => decide (e.2.1 = bestV L)) = ⟨0, 0⟩ := by
            refine mget_no fun e he hep => c ?_
            obtain ⟨h1, h2⟩ := List.mem_filter.1 he
            rw [← hep, ← (hval e h1).2]; simpa using h2
          rw [hm]
          exact ⟨⟨fun h => by simp at h, fun h => absurd h c⟩, ⟨fun _ => c, fun _ => rfl⟩⟩
      refine At.nrm ?_
      refine At.ktext (.q 0 (.q 1 (.n false 2 (.n true 3 .done)))) ?_
      first | refine AtT.kloadO tk117 ?_ | refine AtT.kload tk117 ?_
      refine AtT.kfn ?_
      refine AtT.kcallL rfl rfl ok88 (fun VL hVL hOL => best_p 91 [.pointer (some ⟨b3, 0, none⟩)] (fun a b => decide (provV L a = bestV L) && !decide (provV L b = bestV L)) VL _ ⟨0, 0, 0, 0⟩ _ (hs5.le hVL) ok91 (fun a b ha hb => by rw [← hc] at ha hb; have h := some91_f a b VL ⟨b3, 0, none⟩ b9 (M.filter fun e => decide (e.2.1 = bestV L)) (proofsL L.pl.length).length (cells_blk (hOL b3 (LC [.map (some b9)] 124) (by repeat (first | exact List.mem_cons_self | apply List.mem_cons_of_mem)))) (hOL b9 (mobj pfv rtv (M.filter fun e => decide (e.2.1 = bestV L)) (proofsL L.pl.length).length) (by repeat (first | exact List.mem_cons_self | apply List.mem_cons_of_mem))); simp only [(hmg2 a ha).1, (hmg2 b hb).2, decide_not] at h; exact h)) ?_
      rintro _ rfl
      refine AtT.kstoreA tk45 ?_
      refine AtT.done ?_
      refine At.nrm ?_
      refine At.unmark (.inl rfl) rfl Pick.auto ?_
      refine At.ret1 rfl (.agg rfl tk45 Pick.auto rfl) ?_
      have hf := bestOf_first (fun p => decide (provV L p = bestV L)) (fun a b => decide (provV L a = bestV L) && !decide (provV L b = bestV L)) (proofsL L.pl.length).tail ⟨0, 0, 0, 0⟩ ⟨0, 0, 0, 0⟩ (fun _ _ _ _ => rfl) ⟨leastP L, by rw [← hc]; exact leastP_mem (by have := hL.n2; omega), by simp [leastP_v]⟩
      show pfv _ = _
      rw [hf, ← hc]; rfl
    · refine At.condT rfl rfl ?_
      have heM := hsub e he
      have hun := unseen_lt heM hns
      have hnd2 : ((left (fun e => decide (e.2.1 = bestV L)) M seen).map (·.2.2)).Nodup := hborn.sublist (List.filter_sublist.map _)
      refine At.nrm ?_
      refine At.ktext (.n false 0 (.q 1 (.q 2 (.n false 3 (.n false 4 (.n true 5 (.n true 6 .done))))))) ?_
      refine AtT.entry rfl trivial rfl Pick.auto Pick.auto he hnd2 (by decide) ?_
      refine AtT.kextract ?_
      refine AtT.kextract ?_
      refine AtT.kalloc z45 ?_
      intro b7
      refine AtT.kalloc z31 ?_
      intro b8
      refine AtT.kstoreA tk45 ?_
      refine AtT.kstoreA tk31 ?_
      refine AtT.done ?_
      refine At.nrm ?_
      refine At.ktext (.q 0 (.q 1 (.q 2 .done))) ?_
      first | refine AtT.kloadOA tk31 ?_ | refine AtT.kloadA tk31 ?_ | refine AtT.kloadOP tk31 ?_
      first | refine AtT.kloadOA tk31 ?_ | refine AtT.kloadA tk31 ?_ | refine AtT.kloadOP tk31 ?_
      refine AtT.kneS (eqS31 _ _ _ _) ?_
      refine AtT.done ?_
      refine At.nrm ?_
      refine At.cond rfl (fun hb => ?_) (fun hb => ?_)
      · have hg : decide (e.2.1 = bestV L) = false := by
          simp only [decide_eq_false_iff_not]; intro h; rw [h] at hb; simp at hb
        have hdel := left_del (g := fun e : Pf × Rt × Nat => decide (e.2.1 = bestV L)) (seen := seen) hborn hkeys heM hg
        refine At.nrm ?_
        refine At.ktext (.q 0 (.q 1 (.n true 2 .done))) ?_
        first | refine AtT.kloadO tk124 ?_ | refine AtT.kload tk124 ?_
        first | refine AtT.kloadOA tk45 ?_ | refine AtT.kloadA tk45 ?_ | refine AtT.kloadOP tk45 ?_
        refine AtT.mapDel rfl trivial key45 e.1 rtv rfl Try.underlying124 rfl rfl (by repeat (first | exact Upd.here | apply Upd.there)) ?_
        refine AtT.done ?_
        refine At.nrm ?_
        refine At.round (seen.push e.2.2) hun rfl ⟨rfl, rfl, rfl, rfl, rfl, trivial⟩ ?_
        rw [hdel]
        · exact Pt.auto
      · have hg : decide (e.2.1 = bestV L) = true := by
          simp only [decide_eq_true_eq]
          have : ∀ a b : Rt, (!decide (a.num = b.num ∧ a.den = b.den)) = false → a = b := fun a b h => by
            cases a; cases b; simpa using h
          exact this _ _ hb
        have hkeep := left_keep (g := fun e : Pf × Rt × Nat => decide (e.2.1 = bestV L)) (seen := seen) hborn heM hg
        refine At.nrm ?_
        refine At.round (seen.push e.2.2) hun rfl ⟨rfl, rfl, rfl, rfl, rfl, trivial⟩ ?_
        rw [hkeep]
        · exact Pt.auto
end Go.Proofs.Ytnionkopmncopaa
set_option linter.unusedVariables false
namespace Go.Proofs.Ytnionkopmncopaa
open Go.Lw Go.Pl Go.RowKit

theorem best_f (L : Lg) (V : View) (q : Addr) (hq : LathV V q L) (hL : LgOk L) : Fnc Try.prog 64 [.pointer (some q)] V fun r _ => r = rtv (bestV L) := by
  have hfp := firstP_spec (L := L) (by have := hL.n2; omega)
  refine fn_of Try.func64 rfl Try.ntmps64 (Nat.le_of_ble_eq_true rfl) ?_
  intro w0 hw0
  refine At.nrm ?_
  refine At.ktext (.n false 0 .done) ?_
  refine AtT.kalloc z31 ?_
  intro b2
  refine AtT.done ?_
  refine At.nrm ?_
  refine At.ktext (.q 0 (.q 1 (.n false 2 (.n false 3 (.n true 4 .done))))) ?_
  refine AtT.kmove ?_
  refine AtT.kmove ?_
  refine AtT.kcallP rfl rfl ok70 (proof_f L _ q hq hL) ?_
  rintro _ rfl
  refine AtT.kcallP rfl rfl ok67 (proves_f L (firstP L) _ q hq hL (proofs_ok hfp.1)) ?_
  rintro _ rfl
  refine AtT.kstoreA tk31 ?_
  refine AtT.done ?_
  refine At.nrm ?_
  refine At.ret1 rfl (.agg rfl tk31 Pick.auto rfl) ?_
  rw [hfp.2]

theorem best_p26 (L : Lg) (V : View) (v : Value) (hv : LogV V v L) : Fnc Try.prog 26 [v] V fun r _ => r = .tuple #[rtv (bestR L).1, iv (bestR L).2] := by
  have hv' := hv
  obtain ⟨a, c, a', c', rfl, h2, h3⟩ := hv
  refine fn_of Try.func26 rfl Try.ntmps26 (Nat.le_of_ble_eq_true rfl) ?_
  intro w0 hw0
  refine At.nrm ?_
  refine At.ktext (.n false 0 (.n false 1 (.q 2 .done))) ?_
  refine AtT.kbox ?_
  intro b1
  refine AtT.kalloc z31 ?_
  intro b2
  refine AtT.kassign ?_
  refine AtT.done ?_
  refine At.nrm ?_
  refine At.ktext (.q 0 (.n false 1 (.q 2 (.q 3 (.q 4 (.q 5 (.q 6 .done))))))) ?_
  first | refine AtT.kloadOA tk25 ?_ | refine AtT.kloadA tk25 ?_ | refine AtT.kloadOP tk25 ?_
  all_goals (refine AtT.kcall rfl rfl ok59 (open_f L _ _ hv') ?_)
  all_goals (rintro _ V1 hV1 (⟨he, rfl⟩ | ⟨he, p, rfl, hp⟩))
  all_goals (refine AtT.kmove ?_)
  all_goals (refine AtT.kextract ?_)
  all_goals (refine AtT.kextract ?_)
  all_goals (refine AtT.kassign ?_)
  all_goals (refine AtT.kassign ?_)
  all_goals refine AtT.done ?_
  all_goals (refine At.nrm ?_)
  · refine At.ktext (.q 0 (.q 1 .done)) ?_
    refine AtT.kmove ?_
    refine AtT.kneI ?_
    refine AtT.done ?_
    refine At.nrm ?_
    refine At.condP rfl (fun hb => ?_) (fun hb => absurd he hb)
    refine At.nrm ?_
    refine At.ktext (.q 0 (.q 1 (.n true 2 (.q 3 .done)))) ?_
    refine AtT.kbuild (bd31) ?_
    refine AtT.kmove ?_
    refine AtT.kstoreA tk31 ?_
    refine AtT.kassign ?_
    refine AtT.done ?_
    refine At.nrm ?_
    refine At.ret2 rfl (.agg rfl tk31 Pick.auto rfl) (.tmp rfl) ?_
    rw [bestR, if_pos he]
  · refine At.ktext (.q 0 (.q 1 .done)) ?_
    refine AtT.kmove ?_
    refine AtT.kneI ?_
    refine AtT.done ?_
    refine At.nrm ?_
    refine At.condF rfl rfl ?_
    refine At.nrm ?_
    refine At.ktext (.q 0 (.n false 1 (.n true 2 (.q 3 .done)))) ?_
    refine AtT.kmove ?_
    refine AtT.kcallP rfl rfl ok64 (best_f L _ p hp (logE_ok he)) ?_
    rintro _ rfl
    refine AtT.kstoreA tk31 ?_
    refine AtT.kassign ?_
    refine AtT.done ?_
    refine At.nrm ?_
    refine At.ret2 rfl (.agg rfl tk31 Pick.auto rfl) (.tmp rfl) ?_
    rw [bestR, if_neg (by simp [he])]

def proofR (L : Lg) : Pf × Int := if logE L ≠ 0 then (⟨0, 0, 0, 0⟩, logE L) else (firstP L, 0)
theorem proof_p33 (L : Lg) (V : View) (v : Value) (hv : LogV V v L) : Fnc Try.prog 33 [v] V fun r _ => r = .tuple #[pfv (proofR L).1, iv (proofR L).2] := by
  have hv' := hv
  obtain ⟨a, c, a', c', rfl, h2, h3⟩ := hv
  refine fn_of Try.func33 rfl Try.ntmps33 (Nat.le_of_ble_eq_true rfl) ?_
  intro w0 hw0
  refine At.nrm ?_
  refine At.ktext (.n false 0 (.n false 1 (.q 2 .done))) ?_
  refine AtT.kbox ?_
  intro b1
  refine AtT.kalloc z45 ?_
  intro b2
  refine AtT.kassign ?_
  refine AtT.done ?_
  refine At.nrm ?_
  refine At.ktext (.q 0 (.n false 1 (.q 2 (.q 3 (.q 4 (.q 5 (.q 6 .done))))))) ?_
  first | refine AtT.kloadOA tk25 ?_ | refine AtT.kloadA tk25 ?_ | refine AtT.kloadOP tk25 ?_
  all_goals (refine AtT.kcall rfl rfl ok59 (open_f L _ _ hv') ?_)
  all_goals (rintro _ V1 hV1 (⟨he, rfl⟩ | ⟨he, p, rfl, hp⟩))
  all_goals (refine AtT.kmove ?_)
  all_goals (refine AtT.kextract ?_)
  all_goals (refine AtT.kextract ?_)
  all_goals (refine AtT.kassign ?_)
  all_goals (refine AtT.kassign ?_)
  all_goals refine AtT.done ?_
  all_goals (refine At.nrm ?_)
  · refine At.ktext (.q 0 (.q 1 .done)) ?_
    refine AtT.kmove ?_
    refine AtT.kneI ?_
    refine AtT.done ?_
    refine At.nrm ?_
    refine At.condP rfl (fun hb => ?_) (fun hb => absurd he hb)
    refine At.nrm ?_
    refine At.ktext (.q 0 (.q 1 (.n true 2 (.q 3 .done)))) ?_
    refine AtT.kbuild (bd45) ?_
    refine AtT.kmove ?_
    refine AtT.kstoreA tk45 ?_
    refine AtT.kassign ?_
    refine AtT.done ?_
    refine At.nrm ?_
    refine At.ret2 rfl (.agg rfl tk45 Pick.auto rfl) (.tmp rfl) ?_
    rw [proofR, if_pos he]
  · refine At.ktext (.q 0 (.q 1 .done)) ?_
    refine AtT.kmove ?_
    refine AtT.kneI ?_
    refine AtT.done ?_
    refine At.nrm ?_
    refine At.condF rfl rfl ?_
    refine At.nrm ?_
    refine At.ktext (.q 0 (.n false 1 (.n true 2 (.q 3 .done)))) ?_
    refine AtT.kmove ?_
    refine AtT.kcallP rfl rfl ok70 (proof_f L _ p hp (logE_ok he)) ?_
    rintro _ rfl
    refine AtT.kstoreA tk45 ?_
    refine AtT.kassign ?_
    refine AtT.done ?_
    refine At.nrm ?_
    refine At.ret2 rfl (.agg rfl tk45 Pick.auto rfl) (.tmp rfl) ?_
    rw [proofR, if_neg (by simp [he])]

theorem ends_f (L : Lg) (x : Rt) (i : Int) (V : View) (q : Addr) (hq : LathV V q L) (hL : LgOk L) (h0 : 0 ≤ i) (h1 : i < L.pl.length) (hx : -400000 ≤ x.num ∧ x.num ≤ 400000 ∧ 0 < x.den ∧ x.den ≤ 400) :
    Fnc Try.prog 85 [.pointer (some q), iv i, rtv x] V fun r _ => r = .agg #[iv ((edP L i).lo * x.den + x.num), iv ((edP L i).hi * x.den - x.num)] := by
  obtain ⟨a, c, a', c', h2, h3, h4⟩ := hq
  have el := hL.el
  have e1 := hL.edB h0 h1
  have m1 := mul_bd (a := (edP L i).lo) (b := x.den) (A := 1000) (B := 400) (by decide) (by decide) (by omega) (by omega) (by omega) (by omega)
  have m2 := mul_bd (a := (edP L i).hi) (b := x.den) (A := 1000) (B := 400) (by decide) (by decide) (by omega) (by omega) (by omega) (by omega)
  refine fn_of Try.func85 rfl Try.ntmps85 (Nat.le_of_ble_eq_true rfl) ?_
  intro w0 hw0
  refine At.nrm ?_
  refine At.ktext (.n false 0 (.n false 1 .done)) ?_
  refine AtT.kbox ?_
  intro b5
  refine AtT.kalloc z119 ?_
  intro b6
  refine AtT.done ?_
  refine At.nrm ?_
  refine At.draw (.q 0 (.q 1 (.q 2 (.q 3 (.q 4 (.q 5 (.q 6 (.q 7 (.q 8 (.q 9 (.q 10 (.q 11 (.q 12 (.q 13 (.q 14 (.q 15 (.q 16 (.q 17 (.q 18 (.q 19 (.q 20 (.q 21 (.q 22 (.q 23 (.q 24 (.q 25 (.q 26 (.q 27 (.q 28 (.q 29 (.q 30 (.n true 31 .done)))))))))))))))))))))))))))))))) ffm (by kernel_rfl) ?_
  refine AtT.kmove ?_
  refine AtT.knil ?_
  first | refine AtT.kfieldO fo106_0 ?_ | with_reducible refine AtT.kfield2 fo106_0 ?_ | refine AtT.kfield fo106_0 ?_
  first | refine AtT.kfieldO fo25_1 ?_ | with_reducible refine AtT.kfield2 fo25_1 ?_ | refine AtT.kfield fo25_1 ?_
  first | refine AtT.kloadO tk23 ?_ | refine AtT.kload tk23 ?_
  refine AtT.kmove ?_
  refine AtT.kidx Try.underlying23 tk69 ?_
  intro p13 e13 he13 hc13
  obtain rfl := edP_some he13
  first | refine AtT.kfieldO fo69_0 ?_ | with_reducible refine AtT.kfield2 fo69_0 ?_ | refine AtT.kfield fo69_0 ?_
  first | refine AtT.kloadO tk2 ?_ | refine AtT.kload tk2 ?_
  first | refine AtT.kfieldO fo31_1 ?_ | with_reducible refine AtT.kfield2 fo31_1 ?_ | refine AtT.kfield fo31_1 ?_
  first | refine AtT.kloadO tk2 ?_ | refine AtT.kload tk2 ?_
  first | refine AtT.kmul ?_ | refine AtT.kmulW ?_
  first | refine AtT.kfieldO fo31_0 ?_ | with_reducible refine AtT.kfield2 fo31_0 ?_ | refine AtT.kfield fo31_0 ?_
  first | refine AtT.kloadO tk2 ?_ | refine AtT.kload tk2 ?_
  first | refine AtT.kadd ?_ | refine AtT.kaddW ?_
  refine AtT.kmove ?_
  refine AtT.knil ?_
  first | refine AtT.kfieldO fo106_0 ?_ | with_reducible refine AtT.kfield2 fo106_0 ?_ | refine AtT.kfield fo106_0 ?_
  first | refine AtT.kfieldO fo25_1 ?_ | with_reducible refine AtT.kfield2 fo25_1 ?_ | refine AtT.kfield fo25_1 ?_
  first | refine AtT.kloadO tk23 ?_ | refine AtT.kload tk23 ?_
  refine AtT.kmove ?_
  refine AtT.kidx Try.underlying23 tk69 ?_
  intro p28 e28 he28 hc28
  obtain rfl := edP_some he28
  first | refine AtT.kfieldO fo69_1 ?_ | with_reducible refine AtT.kfield2 fo69_1 ?_ | refine AtT.kfield fo69_1 ?_
  first | refine AtT.kloadO tk2 ?_ | refine AtT.kload tk2 ?_
  first | refine AtT.kfieldO fo31_1 ?_ | with_reducible refine AtT.kfield2 fo31_1 ?_ | refine AtT.kfield fo31_1 ?_
  first | refine AtT.kloadO tk2 ?_ | refine AtT.kload tk2 ?_
  first | refine AtT.kmul ?_ | refine AtT.kmulW ?_
  first | refine AtT.kfieldO fo31_0 ?_ | with_reducible refine AtT.kfield2 fo31_0 ?_ | refine AtT.kfield fo31_0 ?_
  first | refine AtT.kloadO tk2 ?_ | refine AtT.kload tk2 ?_
  first | refine AtT.ksubt ?_ | refine AtT.ksubW ?_
  refine AtT.kbuild (bd119_0_1 _ _) ?_
  refine AtT.kstoreA tk119 ?_
  refine AtT.done ?_
  refine At.nrm ?_
  exact At.ret1 rfl (.agg rfl tk119 Pick.auto rfl) rfl
end Go.Proofs.Ytnionkopmncopaa
namespace Go.Pl

theorem best_bd {L : Lg} (h : LgOk L) : -400000 ≤ (bestV L).num ∧ (bestV L).num ≤ 400000 ∧ 0 < (bestV L).den ∧ (bestV L).den ≤ 400 := by
  have hm := proofs_ok (leastP_mem (L := L) (by have := h.n2; omega))
  obtain ⟨_, d0, d1, n0, n1⟩ := prov_bd h hm
  have r := rat_bd (provN L (leastP L)) (provD L (leastP L)) d0
  rw [← leastP_v]
  have : (provV L (leastP L)).num.natAbs ≤ (provN L (leastP L)).natAbs := r.1
  have h2 : 0 < (provV L (leastP L)).den ∧ (provV L (leastP L)).den ≤ provD L (leastP L) := r.2
  omega

/-- The least and the greatest height at a place, multiplied by Den. -/
def endV (L : Lg) (i : Int) (s : Nat) : Int := if s = 0 then (edP L i).lo * (bestV L).den + (bestV L).num else (edP L i).hi * (bestV L).den - (bestV L).num
/-- A line that is tried. -/
def candV (L : Lg) (i k : Nat) (s t : Nat) : Ln :=
  ⟨(bestV L).den * (plP L k - plP L i), endV L i s * plP L k - endV L k t * plP L i, endV L k t - endV L i s⟩
structure Cand (L : Lg) (x : Ln) : Prop where
  ex : ∃ i k s t : Nat, i < k ∧ k < L.pl.length ∧ s < 2 ∧ t < 2 ∧ x = candV L i k s t

theorem endV_bd {L : Lg} (h : LgOk L) {i : Nat} (hi : i < L.pl.length) (s : Nat) : -800000 ≤ endV L i s ∧ endV L i s ≤ 800000 := by
  have e := h.edB (i := (i : Int)) (by omega) (by omega)
  have b := best_bd h
  have m1 := mul_bd (a := (edP L i).lo) (b := (bestV L).den) (A := 1000) (B := 400) (by decide) (by decide) (by omega) (by omega) (by omega) (by omega)
  have m2 := mul_bd (a := (edP L i).hi) (b := (bestV L).den) (A := 1000) (B := 400) (by decide) (by decide) (by omega) (by omega) (by omega) (by omega)
  unfold endV
  split <;> omega
theorem cand_bd {L : Lg} (h : LgOk L) {i k s t : Nat} (hik : i < k) (hk : k < L.pl.length) :
    (0 < (candV L i k s t).den ∧ (candV L i k s t).den ≤ 40000) ∧ (-160000000 ≤ (candV L i k s t).start ∧ (candV L i k s t).start ≤ 160000000) ∧ (-1600000 ≤ (candV L i k s t).step ∧ (candV L i k s t).step ≤ 1600000) ∧
    (-80000000 ≤ endV L i s * plP L k ∧ endV L i s * plP L k ≤ 80000000) ∧ (-80000000 ≤ endV L k t * plP L i ∧ endV L k t * plP L i ≤ 80000000) := by
  have b := best_bd h
  have pi := h.plB (i := (i : Int)) (by omega) (by omega)
  have pk := h.plB (i := (k : Int)) (by omega) (by omega)
  have lt := h.plL (i := (i : Int)) (j := (k : Int)) (by omega) (by omega) (by omega)
  have e1 := endV_bd h (i := i) (by omega) s
  have e2 := endV_bd h hk t
  have m1 := mul_bd (a := endV L i s) (b := plP L k) (A := 800000) (B := 100) (by decide) (by decide) (by omega) (by omega) (by omega) (by omega)
  have m2 := mul_bd (a := endV L k t) (b := plP L i) (A := 800000) (B := 100) (by decide) (by decide) (by omega) (by omega) (by omega) (by omega)
  have m3 := mul_bd (a := (bestV L).den) (b := plP L k - plP L i) (A := 400) (B := 100) (by decide) (by decide) (by omega) (by omega) (by omega) (by omega)
  have m4 : 0 < (bestV L).den * (plP L k - plP L i) := Int.mul_pos b.2.2.1 (by omega)
  simp only [candV]
  omega
theorem cand_ok {L : Lg} (h : LgOk L) {x : Ln} (hx : Cand L x) : LnB x ∧ lineE x = 0 := by
  obtain ⟨i, k, s, t, h1, h2, _, _, rfl⟩ := hx.ex
  have b := cand_bd h (s := s) (t := t) h1 h2
  refine ⟨⟨by omega, by omega, by omega, by omega, by omega, by omega⟩, ?_⟩
  unfold lineE
  rw [if_neg]
  simp [wi, outB]
  omega
end Go.Pl
set_option linter.unusedVariables false
namespace Go.Proofs.Ytnionkopmncopaa
open Go.Lw Go.Pl Go.RowKit

theorem ix119a (x y : Int) (w : World) : (Instr.index 119 (.agg #[iv x, iv y]) (iv 0)).run Try.prog w = .ok (iv x) w := by kernel_rfl
theorem ix119b (x y : Int) (w : World) : (Instr.index 119 (.agg #[iv x, iv y]) (iv 1)).run Try.prog w = .ok (iv y) w := by kernel_rfl
theorem ixE (L : Lg) (i : Int) (t : Nat) (ht : t < 2) (w : World) : (Instr.index 119 (.agg [iv ((edP L i).lo * (bestV L).den + (bestV L).num), iv ((edP L i).hi * (bestV L).den - (bestV L).num)].toArray) (iv t)).run Try.prog w = .ok (iv (endV L i t)) w := by
  have : t = 0 ∨ t = 1 := by omega
  rcases this with rfl | rfl
  · exact ix119a _ _ w
  · exact ix119b _ _ w

theorem line_f (L : Lg) (V : View) (q : Addr) (hq : LathV V q L) (hL : LgOk L) :
    Fnc Try.prog 66 [.pointer (some q)] V fun r _ => ∃ x, r = lnv x ∧ ((Cand L x ∧ coreOf L x = bestV L) ∨ ∀ c, Cand L c → coreOf L c ≠ bestV L) := by
  have hq' := hq
  obtain ⟨a, c, a', c', h1, h2, h3⟩ := hq
  have hn8 := hL.n8
  have hbb := best_bd hL
  refine fn_of Try.func66 rfl Try.ntmps66 (Nat.le_of_ble_eq_true rfl) ?_
  intro w0 hw0
  refine At.nrm ?_
  refine At.ktext (.n false 0 .done) ?_
  refine AtT.kalloc z27 ?_
  intro b2
  refine AtT.done ?_
  refine At.nrm ?_
  refine At.ktext (.q 0 (.n false 1 (.n false 2 (.n true 3 .done)))) ?_
  refine AtT.kmove ?_
  refine AtT.kcallP rfl rfl ok64 (best_f L _ q hq' hL) ?_
  rintro _ rfl
  refine AtT.kalloc z31 ?_
  intro b3
  refine AtT.kstoreA tk31 ?_
  refine AtT.done ?_
  refine At.nrm ?_
  refine At.ktext (.q 0 (.q 1 (.q 2 .done))) ?_
  refine AtT.kmove ?_
  refine AtT.kfn ?_
  refine AtT.kassign ?_
  refine AtT.done ?_
  refine At.nrm ?_
  refine At.ktext (.n false 0 .done) ?_
  refine AtT.kalloc z27 ?_
  intro b5
  refine AtT.done ?_
  refine At.nrm ?_
  refine At.ktext (.q 0 (.q 1 (.q 2 (.q 3 (.q 4 (.q 5 (.q 6 .done))))))) ?_
  refine AtT.kmove ?_
  refine AtT.knil ?_
  first | refine AtT.kfieldO fo106_0 ?_ | with_reducible refine AtT.kfield2 fo106_0 ?_ | refine AtT.kfield fo106_0 ?_
  first | refine AtT.kfieldO fo25_0 ?_ | with_reducible refine AtT.kfield2 fo25_0 ?_ | refine AtT.kfield fo25_0 ?_
  first | refine AtT.kloadO tk22 ?_ | refine AtT.kload tk22 ?_
  first | refine AtT.klenS Try.underlying22 ?_ | refine AtT.klenR Try.underlying22 ?_
  refine AtT.kmove ?_
  refine AtT.done ?_
  refine At.nrm ?_
  refine At.lp (ι := Nat × Ln) (KS := fun g => [(0, .pointer (some q)), (2, .pointer (some ⟨b2, 0, none⟩)), (3, .pointer (some ⟨b3, 0, none⟩)), (4, .func (.func 60) #[.pointer (some q)] #[]), (5, .pointer (some ⟨b5, 0, none⟩)), (22, iv L.pl.length), (23, iv g.1)])
    (OS := fun g => [.blk b2 (LC [iv 0, iv 0, iv 0] 27), .blk b3 (LC (rte (bestV L)) 31), .blk b5 (LC [iv g.2.den, iv g.2.start, iv g.2.step] 27)])
    (VS := fun g V' => V = V' ∧ g.1 ≤ L.pl.length ∧ ∀ i k s t : Nat, i < g.1 → i < k → k < L.pl.length → s < 2 → t < 2 → coreOf L (candV L i k s t) ≠ bestV L) (μ := fun g => L.pl.length - g.1) (0, ⟨0, 0, 0⟩) ?_ ?_ ?_ ?_
  · exact ⟨rfl, rfl, rfl, rfl, rfl, rfl, rfl, trivial⟩
  · exact Pt.auto
  · exact ⟨rfl, Nat.zero_le _, fun i k s t h => absurd h (Nat.not_lt_zero _)⟩
  · rintro ⟨i, o1⟩ V' ks' O' ⟨rfl, hil, hf1⟩ hk hO hl
    dsimp only at hil hf1 hk hO
    subst hk hO
    refine At.nrm ?_
    refine At.ktext (.q 0 .done) ?_
    refine AtT.klss ?_
    refine AtT.done ?_
    refine At.nrm ?_
    refine At.condP rfl (fun hb => ?_) (fun hb => ?_)
    · have hi : i < L.pl.length := by omega
      refine At.nrm ?_
      refine At.ktext (.q 0 (.q 1 .done)) ?_
      refine AtT.kmove ?_
      refine AtT.kassign ?_
      refine AtT.done ?_
      refine At.nrm ?_
      refine At.ktext (.q 0 (.q 1 (.q 2 .done))) ?_
      refine AtT.kmove ?_
      first | refine AtT.kadd ?_ | refine AtT.kaddW ?_
      refine AtT.kassign ?_
      refine AtT.done ?_
      refine At.nrm ?_
      refine At.lp (ι := Nat × Ln) (KS := fun g => [(0, .pointer (some q)), (2, .pointer (some ⟨b2, 0, none⟩)), (3, .pointer (some ⟨b3, 0, none⟩)), (4, .func (.func 60) #[.pointer (some q)] #[]), (5, .pointer (some ⟨b5, 0, none⟩)), (22, iv L.pl.length), (23, iv i), (6, iv i), (7, iv g.1)])
        (OS := fun g => [.blk b2 (LC [iv 0, iv 0, iv 0] 27), .blk b3 (LC (rte (bestV L)) 31), .blk b5 (LC [iv g.2.den, iv g.2.start, iv g.2.step] 27)])
        (VS := fun g V' => V = V' ∧ i < g.1 ∧ g.1 ≤ L.pl.length ∧ ∀ k s t : Nat, i < k → k < g.1 → s < 2 → t < 2 → coreOf L (candV L i k s t) ≠ bestV L) (μ := fun g => L.pl.length - g.1) (i + 1, o1) ?_ ?_ ?_ ?_
      · exact ⟨rfl, rfl, rfl, rfl, rfl, rfl, rfl, rfl, ivs (by push_cast; rfl), trivial⟩
      · exact Pt.auto
      · exact ⟨rfl, Nat.lt_succ_self _, hi, fun k s t h1 h2 => by dsimp only at h2; omega⟩
      · rintro ⟨k, o2⟩ V' ks' O' ⟨rfl, hik, hkl, hf2⟩ hk hO hl
        dsimp only at hik hkl hf2 hk hO
        subst hk hO
        refine At.nrm ?_
        refine At.ktext (.q 0 (.q 1 (.q 2 (.q 3 (.q 4 (.q 5 (.q 6 (.q 7 .done)))))))) ?_
        refine AtT.kmove ?_
        refine AtT.kmove ?_
        refine AtT.knil ?_
        first | refine AtT.kfieldO fo106_0 ?_ | with_reducible refine AtT.kfield2 fo106_0 ?_ | refine AtT.kfield fo106_0 ?_
        first | refine AtT.kfieldO fo25_0 ?_ | with_reducible refine AtT.kfield2 fo25_0 ?_ | refine AtT.kfield fo25_0 ?_
        first | refine AtT.kloadO tk22 ?_ | refine AtT.kload tk22 ?_
        first | refine AtT.klenS Try.underlying22 ?_ | refine AtT.klenR Try.underlying22 ?_
        refine AtT.klss ?_
        refine AtT.done ?_
        refine At.nrm ?_
        refine At.condP rfl (fun hb1 => ?_) (fun hb1 => ?_)
        · have hk : k < L.pl.length := by omega
          have pi := hL.plB (i := (i : Int)) (by omega) (by omega)
          have pk := hL.plB (i := (k : Int)) (by omega) (by omega)
          refine At.nrm ?_
          refine At.draw (.q 0 (.q 1 (.q 2 (.q 3 (.q 4 (.q 5 (.q 6 (.q 7 (.q 8 (.q 9 (.q 10 (.q 11 (.q 12 (.q 13 (.q 14 (.q 15 (.q 16 (.q 17 .done)))))))))))))))))) ffm (by kernel_rfl) ?_
          refine AtT.kmove ?_
          refine AtT.knil ?_
          first | refine AtT.kfieldO fo106_0 ?_ | with_reducible refine AtT.kfield2 fo106_0 ?_ | refine AtT.kfield fo106_0 ?_
          first | refine AtT.kfieldO fo25_0 ?_ | with_reducible refine AtT.kfield2 fo25_0 ?_ | refine AtT.kfield fo25_0 ?_
          first | refine AtT.kloadO tk22 ?_ | refine AtT.kload tk22 ?_
          refine AtT.kmove ?_
          refine AtT.kidx Try.underlying22 tk2 ?_
          intro p44 e44 he44 hc44
          obtain rfl := plP_some he44
          first | refine AtT.kloadO tk2 ?_ | refine AtT.kload tk2 ?_
          refine AtT.kmove ?_
          refine AtT.knil ?_
          first | refine AtT.kfieldO fo106_0 ?_ | with_reducible refine AtT.kfield2 fo106_0 ?_ | refine AtT.kfield fo106_0 ?_
          first | refine AtT.kfieldO fo25_0 ?_ | with_reducible refine AtT.kfield2 fo25_0 ?_ | refine AtT.kfield fo25_0 ?_
          first | refine AtT.kloadO tk22 ?_ | refine AtT.kload tk22 ?_
          refine AtT.kmove ?_
          refine AtT.kidx Try.underlying22 tk2 ?_
          intro p52 e52 he52 hc52
          obtain rfl := plP_some he52
          first | refine AtT.kloadO tk2 ?_ | refine AtT.kload tk2 ?_
          first | refine AtT.ksubt ?_ | refine AtT.ksubW ?_
          refine AtT.kassign ?_
          refine AtT.done ?_
          refine At.nrm ?_
          refine At.ktext (.q 0 (.q 1 (.q 2 (.n false 3 (.q 4 .done))))) ?_
          refine AtT.kmove ?_
          refine AtT.kmove ?_
          first | refine AtT.kloadOA tk31 ?_ | refine AtT.kloadA tk31 ?_ | refine AtT.kloadOP tk31 ?_
          refine AtT.kcallP rfl rfl ok85 (ends_f L (bestV L) i _ q hq' hL (by omega) (by omega) ⟨by omega, by omega, by omega, by omega⟩) ?_
          rintro _ rfl
          refine AtT.kmove ?_
          refine AtT.done ?_
          refine At.nrm ?_
          refine At.lp (ι := Nat × Ln) (KS := fun g => [(0, .pointer (some q)), (2, .pointer (some ⟨b2, 0, none⟩)), (3, .pointer (some ⟨b3, 0, none⟩)), (4, .func (.func 60) #[.pointer (some q)] #[]), (5, .pointer (some ⟨b5, 0, none⟩)), (22, iv L.pl.length), (23, iv i), (6, iv i), (7, iv k), (8, iv (plP L k - plP L i)), (58, .agg #[iv ((edP L i).lo * (bestV L).den + (bestV L).num), iv ((edP L i).hi * (bestV L).den - (bestV L).num)]), (59, iv g.1)])
            (OS := fun g => [.blk b2 (LC [iv 0, iv 0, iv 0] 27), .blk b3 (LC (rte (bestV L)) 31), .blk b5 (LC [iv g.2.den, iv g.2.start, iv g.2.step] 27)])
            (VS := fun g V' => V = V' ∧ g.1 ≤ 2 ∧ ∀ s t : Nat, s < g.1 → t < 2 → coreOf L (candV L i k s t) ≠ bestV L) (μ := fun g => 2 - g.1) (0, o2) ?_ ?_ ?_ ?_
          · exact ⟨rfl, rfl, rfl, rfl, rfl, rfl, rfl, rfl, rfl, rfl, rfl, rfl, trivial⟩
          · exact Pt.auto
          · exact ⟨rfl, Nat.zero_le _, fun s t h => absurd h (Nat.not_lt_zero _)⟩
          · rintro ⟨s, o3⟩ V' ks' O' ⟨rfl, hsl, hf3⟩ hk' hO hl
            dsimp only at hsl hf3 hk' hO
            subst hk' hO
            refine At.nrm ?_
            refine At.ktext (.q 0 .done) ?_
            refine AtT.klss ?_
            refine AtT.done ?_
            refine At.nrm ?_
            refine At.condP rfl (fun hb2 => ?_) (fun hb2 => ?_)
            · have hs : s < 2 := by omega
              refine At.nrm ?_
              refine At.ktext (.q 0 (.q 1 .done)) ?_
              refine AtT.ixV rfl trivial rfl rfl (ixE L i s hs) (by decide) ?_
              refine AtT.kassign ?_
              refine AtT.done ?_
              refine At.nrm ?_
              refine At.ktext (.q 0 (.q 1 (.q 2 (.n false 3 (.q 4 .done))))) ?_
              refine AtT.kmove ?_
              refine AtT.kmove ?_
              first | refine AtT.kloadOA tk31 ?_ | refine AtT.kloadA tk31 ?_ | refine AtT.kloadOP tk31 ?_
              refine AtT.kcallP rfl rfl ok85 (ends_f L (bestV L) k _ q hq' hL (by omega) (by omega) ⟨by omega, by omega, by omega, by omega⟩) ?_
              rintro _ rfl
              refine AtT.kmove ?_
              refine AtT.done ?_
              refine At.nrm ?_
              refine At.lp (ι := Nat × Ln) (KS := fun g => [(0, .pointer (some q)), (2, .pointer (some ⟨b2, 0, none⟩)), (3, .pointer (some ⟨b3, 0, none⟩)), (4, .func (.func 60) #[.pointer (some q)] #[]), (5, .pointer (some ⟨b5, 0, none⟩)), (22, iv L.pl.length), (23, iv i), (6, iv i), (7, iv k), (8, iv (plP L k - plP L i)), (58, .agg #[iv ((edP L i).lo * (bestV L).den + (bestV L).num), iv ((edP L i).hi * (bestV L).den - (bestV L).num)]), (59, iv s), (10, iv (endV L i s)), (65, .agg #[iv ((edP L k).lo * (bestV L).den + (bestV L).num), iv ((edP L k).hi * (bestV L).den - (bestV L).num)]), (66, iv g.1)])
                (OS := fun g => [.blk b2 (LC [iv 0, iv 0, iv 0] 27), .blk b3 (LC (rte (bestV L)) 31), .blk b5 (LC [iv g.2.den, iv g.2.start, iv g.2.step] 27)])
                (VS := fun g V' => V = V' ∧ g.1 ≤ 2 ∧ ∀ t : Nat, t < g.1 → coreOf L (candV L i k s t) ≠ bestV L) (μ := fun g => 2 - g.1) (0, o3) ?_ ?_ ?_ ?_
              · exact ⟨rfl, rfl, rfl, rfl, rfl, rfl, rfl, rfl, rfl, rfl, rfl, rfl, rfl, rfl, rfl, trivial⟩
              · exact Pt.auto
              · exact ⟨rfl, Nat.zero_le _, fun t h => absurd h (Nat.not_lt_zero _)⟩
              · rintro ⟨t, o4⟩ V' ks' O' ⟨rfl, htl, hf4⟩ hk' hO hl
                dsimp only at htl hf4 hk' hO
                subst hk' hO
                refine At.nrm ?_
                refine At.ktext (.q 0 .done) ?_
                refine AtT.klss ?_
                refine AtT.done ?_
                refine At.nrm ?_
                refine At.condP rfl (fun hb3 => ?_) (fun hb3 => ?_)
                · have ht : t < 2 := by omega
                  have hcand : Cand L (candV L i k s t) := ⟨⟨i, k, s, t, hik, hk, hs, ht, rfl⟩⟩
                  have hcb := cand_bd hL (s := s) (t := t) hik hk
                  have hLn := (cand_ok hL hcand).1
                  simp only [candV] at hcb
                  have he1 := endV_bd hL (i := i) hi s
                  have he2 := endV_bd hL hk t
                  refine At.nrm ?_
                  refine At.ktext (.q 0 (.q 1 .done)) ?_
                  refine AtT.ixV rfl trivial rfl rfl (ixE L k t ht) (by decide) ?_
                  refine AtT.kassign ?_
                  refine AtT.done ?_
                  refine At.nrm ?_
                  refine At.draw (.q 0 (.q 1 (.q 2 (.q 3 (.q 4 (.q 5 (.q 6 (.q 7 (.q 8 (.q 9 (.q 10 (.q 11 (.q 12 (.q 13 (.q 14 (.q 15 (.q 16 (.q 17 (.q 18 (.q 19 (.q 20 (.q 21 (.q 22 (.q 23 (.q 24 (.q 25 (.q 26 (.q 27 (.q 28 (.n true 29 .done)))))))))))))))))))))))))))))) ffm (by kernel_rfl) ?_
                  first | refine AtT.kfieldO fo31_1 ?_ | with_reducible refine AtT.kfield2 fo31_1 ?_ | refine AtT.kfield fo31_1 ?_
                  first | refine AtT.kloadO tk2 ?_ | refine AtT.kload tk2 ?_
                  refine AtT.kmove ?_
                  first | refine AtT.kmul ?_ | refine AtT.kmulW ?_
                  refine AtT.kmove ?_
                  refine AtT.kmove ?_
                  refine AtT.knil ?_
                  first | refine AtT.kfieldO fo106_0 ?_ | with_reducible refine AtT.kfield2 fo106_0 ?_ | refine AtT.kfield fo106_0 ?_
                  first | refine AtT.kfieldO fo25_0 ?_ | with_reducible refine AtT.kfield2 fo25_0 ?_ | refine AtT.kfield fo25_0 ?_
                  first | refine AtT.kloadO tk22 ?_ | refine AtT.kload tk22 ?_
                  refine AtT.kmove ?_
                  refine AtT.kidx Try.underlying22 tk2 ?_
                  intro p80 e80 he80 hc80
                  obtain rfl := plP_some he80
                  first | refine AtT.kloadO tk2 ?_ | refine AtT.kload tk2 ?_
                  first | refine AtT.kmul ?_ | refine AtT.kmulW ?_
                  refine AtT.kmove ?_
                  refine AtT.kmove ?_
                  refine AtT.knil ?_
                  first | refine AtT.kfieldO fo106_0 ?_ | with_reducible refine AtT.kfield2 fo106_0 ?_ | refine AtT.kfield fo106_0 ?_
                  first | refine AtT.kfieldO fo25_0 ?_ | with_reducible refine AtT.kfield2 fo25_0 ?_ | refine AtT.kfield fo25_0 ?_
                  first | refine AtT.kloadO tk22 ?_ | refine AtT.kload tk22 ?_
                  refine AtT.kmove ?_
                  refine AtT.kidx Try.underlying22 tk2 ?_
                  intro p90 e90 he90 hc90
                  obtain rfl := plP_some he90
                  first | refine AtT.kloadO tk2 ?_ | refine AtT.kload tk2 ?_
                  first | refine AtT.kmul ?_ | refine AtT.kmulW ?_
                  first | refine AtT.ksubt ?_ | refine AtT.ksubW ?_
                  refine AtT.kmove ?_
                  refine AtT.kmove ?_
                  first | refine AtT.ksubt ?_ | refine AtT.ksubW ?_
                  refine AtT.kbuild (bd27_0_1_2 _ _ _) ?_
                  refine AtT.kstoreA tk27 ?_
                  refine AtT.done ?_
                  refine At.nrm ?_
                  refine At.draw (.q 0 (.q 1 (.q 3 (.n false 2 (.q 4 .done))))) ffm (by kernel_rfl) ?_
                  refine AtT.kmove ?_
                  first | refine AtT.kloadOA tk27 ?_ | refine AtT.kloadA tk27 ?_ | refine AtT.kloadOP tk27 ?_
                  first | refine AtT.kloadOA tk31 ?_ | refine AtT.kloadA tk31 ?_ | refine AtT.kloadOP tk31 ?_
                  refine AtT.kcallV rfl rfl rfl ok60 (core_f L (candV L i k s t) _ q hq' hL hLn) ?_
                  rintro _ rfl
                  refine AtT.keqS (eqS31 _ _ _ _) ?_
                  refine AtT.done ?_
                  refine At.nrm ?_
                  refine At.condP rfl (fun hfound => ?_) (fun hfound => ?_)
                  · refine At.nrm ?_
                    refine At.ktext (.q 0 (.n true 1 .done)) ?_
                    first | refine AtT.kloadOA tk27 ?_ | refine AtT.kloadA tk27 ?_ | refine AtT.kloadOP tk27 ?_
                    refine AtT.kstoreA tk27 ?_
                    refine AtT.done ?_
                    refine At.nrm ?_
                    refine At.ret1 rfl (.agg rfl tk27 Pick.auto rfl) ⟨candV L i k s t, rfl, .inl ⟨hcand, ?_⟩⟩
                    have : ∀ a b : Rt, a.num = b.num ∧ a.den = b.den → a = b := fun a b h => by cases a; cases b; simpa using h
                    exact this _ _ hfound
                  · refine At.nrm ?_
                    refine At.ktext (.q 0 (.q 1 .done)) ?_
                    first | refine AtT.kadd ?_ | refine AtT.kaddW ?_
                    refine AtT.kmove ?_
                    refine AtT.done ?_
                    refine At.nrm ?_
                    refine At.round (t + 1, candV L i k s t) ?_ ?_ ?_ ?_
                    · show 2 - (t + 1) < 2 - t; omega
                    · refine ⟨rfl, by dsimp only; omega, fun t' h => ?_⟩
                      dsimp only at h
                      by_cases c : t' = t
                      · subst c; intro e; rw [e] at hfound; exact hfound ⟨rfl, rfl⟩
                      · exact hf4 t' (by omega)
                    · exact ⟨rfl, rfl, rfl, rfl, rfl, rfl, rfl, rfl, rfl, rfl, rfl, rfl, rfl, rfl, rfl, trivial⟩
                    · exact Pt.auto
                · have ht : t = 2 := by omega
                  subst ht
                  refine At.nrm ?_
                  refine At.ktext (.q 0 (.q 1 .done)) ?_
                  first | refine AtT.kadd ?_ | refine AtT.kaddW ?_
                  refine AtT.kmove ?_
                  refine AtT.done ?_
                  refine At.nrm ?_
                  refine At.round (s + 1, o4) ?_ ?_ ?_ ?_
                  · show 2 - (s + 1) < 2 - s; omega
                  · refine ⟨rfl, by dsimp only; omega, fun s' t' h h2 => ?_⟩
                    dsimp only at h
                    by_cases c : s' = s
                    · subst c; exact hf4 t' h2
                    · exact hf3 s' t' (by omega) h2
                  · exact ⟨rfl, rfl, rfl, rfl, rfl, rfl, rfl, rfl, rfl, rfl, rfl, rfl, trivial⟩
                  · exact Pt.auto
            · have hs : s = 2 := by omega
              subst hs
              refine At.nrm ?_
              refine At.ktext (.q 0 (.q 1 (.q 2 .done))) ?_
              refine AtT.kmove ?_
              first | refine AtT.kadd ?_ | refine AtT.kaddW ?_
              refine AtT.kassign ?_
              refine AtT.done ?_
              refine At.nrm ?_
              refine At.round (k + 1, o3) ?_ ?_ ?_ ?_
              · show L.pl.length - (k + 1) < L.pl.length - k; omega
              · refine ⟨rfl, by dsimp only; omega, by dsimp only; omega, fun k' s' t' h1 h2 h3 h4 => ?_⟩
                dsimp only at h2
                by_cases c : k' = k
                · subst c; exact hf3 s' t' h3 h4
                · exact hf2 k' s' t' h1 (by omega) h3 h4
              · exact ⟨rfl, rfl, rfl, rfl, rfl, rfl, rfl, rfl, ivs (by push_cast; rfl), trivial⟩
              · exact Pt.auto
        · have hk : k = L.pl.length := by omega
          subst hk
          refine At.nrm ?_
          refine At.ktext (.q 0 (.q 1 .done)) ?_
          first | refine AtT.kadd ?_ | refine AtT.kaddW ?_
          refine AtT.kmove ?_
          refine AtT.done ?_
          refine At.nrm ?_
          refine At.round (i + 1, o2) ?_ ?_ ?_ ?_
          · show L.pl.length - (i + 1) < L.pl.length - i; omega
          · refine ⟨rfl, by dsimp only; omega, fun i' k' s' t' h1 h2 h3 h4 h5 => ?_⟩
            dsimp only at h1
            by_cases c : i' = i
            · subst c; exact hf2 k' s' t' h2 h3 h4 h5
            · exact hf1 i' k' s' t' (by omega) h2 h3 h4 h5
          · exact ⟨rfl, rfl, rfl, rfl, rfl, rfl, ivs (by push_cast; rfl), trivial⟩
          · exact Pt.auto
    · have hi : i = L.pl.length := by omega
      subst hi
      refine At.nrm ?_
      refine At.ktext (.q 0 (.n true 1 .done)) ?_
      first | refine AtT.kloadOA tk27 ?_ | refine AtT.kloadA tk27 ?_ | refine AtT.kloadOP tk27 ?_
      refine AtT.kstoreA tk27 ?_
      refine AtT.done ?_
      refine At.nrm ?_
      refine At.ret1 rfl (.agg rfl tk27 Pick.auto rfl) ⟨o1, rfl, .inr fun x hx => ?_⟩
      obtain ⟨i, k, s, t, h1, h2, h3, h4, rfl⟩ := hx.ex
      exact hf1 i k s t (by omega) h1 h2 h3 h4
end Go.Proofs.Ytnionkopmncopaa
namespace Go.Pl

def ThruL (n : Nat) (X lo hi : Nat → Rat) (h s : Rat) : Prop := ∀ m, m < n → lo m ≤ h + s * X m ∧ h + s * X m ≤ hi m
def TriL (n : Nat) (X lo hi : Nat → Rat) : Prop := (∀ i, i < n → lo i ≤ hi i) ∧ ∀ i k j, i < k → k < j → j < n →
  lo i * (X j - X k) + lo j * (X k - X i) ≤ hi k * (X j - X i) ∧ lo k * (X j - X i) ≤ hi i * (X j - X k) + hi j * (X k - X i)
def EndL (X lo hi : Nat → Rat) (h s : Rat) (i : Nat) : Prop := h + s * X i = lo i ∨ h + s * X i = hi i
def Rise (n : Nat) (X : Nat → Rat) : Prop := ∀ i k, i < k → k < n → X i < X k

theorem rmul_nn {a b : Rat} (ha : 0 ≤ a) (hb : 0 ≤ b) : 0 ≤ a * b := Rat.mul_nonneg ha hb
theorem rmul_le {a b c : Rat} (h : a ≤ b) (hc : 0 ≤ c) : a * c ≤ b * c := Rat.mul_le_mul_of_nonneg_right h hc
theorem rle_of {a b c : Rat} (h : a * c ≤ b * c) (hc : 0 < c) : a ≤ b := Rat.le_of_mul_le_mul_right h hc
theorem rnn_of {a c : Rat} (h : 0 ≤ a * c) (hc : 0 < c) : 0 ≤ a := rle_of (by grind) hc
theorem rnp_of {a c : Rat} (h : a * c ≤ 0) (hc : 0 < c) : a ≤ 0 := rle_of (c := c) (by grind) hc

theorem max_at (f : Nat → Rat) (p : Nat → Prop) : ∀ n, (∃ m, m < n ∧ p m) → ∃ k, k < n ∧ p k ∧ ∀ m, m < n → p m → f m ≤ f k
  | 0, ⟨m, h, _⟩ => by omega
  | n + 1, ⟨m, hm, hp⟩ => by
    by_cases c : ∃ m, m < n ∧ p m
    · obtain ⟨k, hk, hpk, hmax⟩ := max_at f p n c
      by_cases d : p n ∧ f k ≤ f n
      · refine ⟨n, by omega, d.1, fun j hj hpj => ?_⟩
        by_cases e : j = n
        · subst e; exact Rat.le_refl
        · exact Rat.le_trans (hmax j (by omega) hpj) d.2
      · refine ⟨k, by omega, hpk, fun j hj hpj => ?_⟩
        by_cases e : j = n
        · subst e
          have : ¬ f k ≤ f j := fun h => d ⟨hpj, h⟩
          grind
        · exact hmax j (by omega) hpj
    · have e : m = n := by
        by_cases e : m = n
        · exact e
        · exact absurd ⟨m, by omega, hp⟩ c
      subst e
      refine ⟨m, by omega, hp, fun j hj hpj => ?_⟩
      by_cases e : j = m
      · subst e; exact Rat.le_refl
      · exact absurd ⟨j, by omega, hpj⟩ c

section
variable {n : Nat} {X lo hi : Nat → Rat}

theorem TriL.sub (h s : Rat) (ht : TriL n X lo hi) : TriL n X (fun m => lo m - (h + s * X m)) (fun m => hi m - (h + s * X m)) := by
  refine ⟨fun i hi' => ?_, fun i k j h1 h2 h3 => ?_⟩
  · have := ht.1 i hi'; grind
  · have := ht.2 i k j h1 h2 h3
    exact ⟨by grind, by grind⟩

/-- A line through all gates: each three of them have one. -/
theorem ThruL.tri (hX : Rise n X) {h s : Rat} (ht : ThruL n X lo hi h s) : TriL n X lo hi := by
  have hs : ∀ m, m < n → lo m - (h + s * X m) ≤ 0 ∧ 0 ≤ hi m - (h + s * X m) := fun m hm => by have := ht m hm; grind
  have key : TriL n X (fun m => lo m - (h + s * X m)) (fun m => hi m - (h + s * X m)) := by
    refine ⟨fun i hi' => by have := hs i hi'; grind, fun i k j h1 h2 h3 => ?_⟩
    have x1 := hX i k h1 (by omega)
    have x2 := hX k j h2 h3
    have a := hs i (by omega)
    have b := hs k (by omega)
    have c := hs j h3
    have g1 := rmul_le a.1 (c := X j - X k) (by grind)
    have g2 := rmul_le c.1 (c := X k - X i) (by grind)
    have g3 := rmul_le b.2 (c := X j - X i) (by grind)
    have g4 := rmul_le b.1 (c := X j - X i) (by grind)
    have g5 := rmul_le a.2 (c := X j - X k) (by grind)
    have g6 := rmul_le c.2 (c := X k - X i) (by grind)
    dsimp only
    exact ⟨by grind, by grind⟩
  have := key.sub (-h) (-s)
  refine ⟨fun i hi' => ?_, fun i k j h1 h2 h3 => ?_⟩
  · have := this.1 i hi'; grind
  · have := this.2 i k j h1 h2 h3
    exact ⟨by grind, by grind⟩

theorem thru_back {h s : Rat} (H : ∀ m, m < n → lo m - (h + s * X m) ≤ 0 ∧ 0 ≤ hi m - (h + s * X m)) : ThruL n X lo hi h s := fun m hm => by
  have := H m hm; exact ⟨by grind, by grind⟩

theorem tight_under (hX : Rise n X) (ht : TriL n X lo hi) {i k j : Nat} (h1 : i < k) (h2 : k < j) (h3 : j < n) (he : lo i * (X j - X k) + lo j * (X k - X i) = hi k * (X j - X i)) :
    ∃ h s, ThruL n X lo hi h s ∧ EndL X lo hi h s i ∧ EndL X lo hi h s j := by
  have xij := hX i j (by omega) h3
  have xik := hX i k h1 (by omega)
  have xkj := hX k j h2 h3
  have hw : X j - X i ≠ 0 := by grind
  obtain ⟨s, hs⟩ : ∃ s, s * (X j - X i) = lo j - lo i := ⟨(lo j - lo i) / (X j - X i), by grind⟩
  obtain ⟨h, hh⟩ : ∃ h, h + s * X i = lo i := ⟨lo i - s * X i, by grind⟩
  have ei : lo i - (h + s * X i) = 0 := by grind
  have ej : lo j - (h + s * X j) = 0 := by grind
  have ek : hi k - (h + s * X k) = 0 := by
    have : (hi k - (h + s * X k)) * (X j - X i) = 0 := by grind
    rcases Rat.mul_eq_zero.1 this with h | h
    · exact h
    · exact absurd h hw
  have T := ht.sub h s
  refine ⟨h, s, thru_back fun m hm => ?_, .inl (by grind), .inl (by grind)⟩
  have t0 := T.1 m hm
  have ti := T.1 i (by omega)
  have tj := T.1 j h3
  have tk := T.1 k (by omega)
  dsimp only at t0 ti tj tk
  have up : 0 ≤ hi m - (h + s * X m) := by
    rcases Nat.lt_trichotomy m i with c | c | c
    · have := (T.2 m i k c h1 (by omega)).2
      have xm := hX m i c (by omega)
      dsimp only at this
      rw [ei, ek] at this
      exact rnn_of (c := X k - X i) (by grind) (by grind)
    · subst c; grind
    · rcases Nat.lt_trichotomy m j with d | d | d
      · have := (T.2 i m j c d h3).1
        dsimp only at this
        rw [ei, ej] at this
        exact rnn_of (c := X j - X i) (by grind) (by grind)
      · subst d; grind
      · have := (T.2 k j m h2 d hm).2
        have xm := hX j m d hm
        dsimp only at this
        rw [ej, ek] at this
        exact rnn_of (c := X j - X k) (by grind) (by grind)
  have dn : lo m - (h + s * X m) ≤ 0 := by
    rcases Nat.lt_trichotomy m k with c | c | c
    · have := (T.2 m k j c h2 h3).1
      dsimp only at this
      rw [ej, ek] at this
      exact rnp_of (c := X j - X k) (by grind) (by grind)
    · subst c; grind
    · have := (T.2 i k m h1 c hm).1
      dsimp only at this
      rw [ei, ek] at this
      exact rnp_of (c := X k - X i) (by grind) (by grind)
  exact ⟨dn, up⟩

/-- Upside down. -/
theorem TriL.neg (ht : TriL n X lo hi) : TriL n X (fun m => - hi m) (fun m => - lo m) := by
  refine ⟨fun i hi' => by have := ht.1 i hi'; grind, fun i k j h1 h2 h3 => ?_⟩
  have := ht.2 i k j h1 h2 h3
  exact ⟨by grind, by grind⟩
theorem ThruL.neg {h s : Rat} (ht : ThruL n X (fun m => - hi m) (fun m => - lo m) h s) : ThruL n X lo hi (-h) (-s) := fun m hm => by
  have := ht m hm; exact ⟨by grind, by grind⟩
theorem EndL.neg {h s : Rat} {i : Nat} (ht : EndL X (fun m => - hi m) (fun m => - lo m) h s i) : EndL X lo hi (-h) (-s) i := by
  rcases ht with e | e
  · exact .inr (by grind)
  · exact .inl (by grind)
theorem tight_over (hX : Rise n X) (ht : TriL n X lo hi) {i k j : Nat} (h1 : i < k) (h2 : k < j) (h3 : j < n) (he : lo k * (X j - X i) = hi i * (X j - X k) + hi j * (X k - X i)) :
    ∃ h s, ThruL n X lo hi h s ∧ EndL X lo hi h s i ∧ EndL X lo hi h s j := by
  obtain ⟨h, s, a, b, c⟩ := tight_under hX ht.neg h1 h2 h3 (by grind)
  exact ⟨-h, -s, a.neg, b.neg, c.neg⟩

theorem tight_one (hX : Rise n X) (ht : TriL n X lo hi) {i : Nat} (h3 : i < n) (h2 : 2 ≤ n) (he : lo i = hi i) :
    ∃ h s k, ThruL n X lo hi h s ∧ EndL X lo hi h s i ∧ EndL X lo hi h s k ∧ k ≠ i ∧ k < n := by
  obtain ⟨k, hk, hki, hmax⟩ := max_at (fun m => (if i < m then lo m - lo i else hi m - lo i) / (X m - X i)) (fun m => m ≠ i) n (by
    by_cases c : i = 0
    · exact ⟨1, by omega, by omega⟩
    · exact ⟨0, by omega, by omega⟩)
  have dx : ∀ m, m < n → m ≠ i → X m - X i ≠ 0 := fun m hm hne => by
    rcases Nat.lt_or_gt_of_ne hne with c | c
    · have := hX m i c h3; grind
    · have := hX i m c hm; grind
  let e := fun m => if i < m then lo m - lo i else hi m - lo i
  obtain ⟨s, hs⟩ : ∃ s, s = e k / (X k - X i) := ⟨_, rfl⟩
  have hmax' : ∀ m, m < n → m ≠ i → e m / (X m - X i) ≤ s := fun m hm hne => by rw [hs]; exact hmax m hm hne
  have hk' : s * (X k - X i) = e k := by rw [hs]; have := dx k hk hki; grind
  obtain ⟨h, hh⟩ : ∃ h, h + s * X i = lo i := ⟨lo i - s * X i, by grind⟩
  have ei : lo i - (h + s * X i) = 0 := by grind
  have ei' : hi i - (h + s * X i) = 0 := by grind
  have T := ht.sub h s
  -- the end of gate k
  have hek : (i < k → lo k - (h + s * X k) = 0) ∧ (k < i → hi k - (h + s * X k) = 0) := by
    refine ⟨fun c => ?_, fun c => ?_⟩
    · have : e k = lo k - lo i := if_pos c
      grind
    · have : e k = hi k - lo i := if_neg (by omega)
      grind
  refine ⟨h, s, k, thru_back fun m hm => ?_, .inl (by grind), ?_, hki, hk⟩
  · by_cases cmi : m = i
    · subst cmi; exact ⟨by grind, by grind⟩
    have t0 := T.1 m hm
    have tk := T.1 k hk
    dsimp only at t0 tk
    have em := hmax' m hm cmi
    rcases Nat.lt_or_gt_of_ne cmi with c | c
    · -- m < i
      have xm := hX m i c h3
      have e1 : e m = hi m - lo i := if_neg (by omega)
      have up : 0 ≤ hi m - (h + s * X m) := by
        have : e m / (X m - X i) * (X i - X m) ≤ s * (X i - X m) := rmul_le em (by grind)
        have e2 : e m / (X m - X i) * (X i - X m) = - e m := by have := dx m hm cmi; grind
        grind
      refine ⟨?_, up⟩
      rcases Nat.lt_trichotomy k i with d | d | d
      · have ek := hek.2 d
        have xk := hX k i d h3
        rcases Nat.lt_trichotomy k m with f | f | f
        · have := (T.2 k m i f c h3).2
          dsimp only at this
          rw [ek, ei'] at this
          exact rnp_of (c := X i - X k) (by grind) (by grind)
        · subst f; grind
        · have := (T.2 m k i f d h3).1
          dsimp only at this
          rw [ek, ei] at this
          exact rnp_of (c := X i - X k) (by grind) (by grind)
      · exact absurd d hki
      · have ek := hek.1 d
        have xk := hX i k d hk
        have := (T.2 m i k c d hk).1
        dsimp only at this
        rw [ek, ei'] at this
        exact rnp_of (c := X k - X i) (by grind) (by grind)
    · -- i < m
      have xm := hX i m c hm
      have e1 : e m = lo m - lo i := if_pos c
      have dn : lo m - (h + s * X m) ≤ 0 := by
        have : e m / (X m - X i) * (X m - X i) ≤ s * (X m - X i) := rmul_le em (by grind)
        have e2 : e m / (X m - X i) * (X m - X i) = e m := by have := dx m hm cmi; grind
        grind
      refine ⟨dn, ?_⟩
      rcases Nat.lt_trichotomy k i with d | d | d
      · have ek := hek.2 d
        have xk := hX k i d h3
        have := (T.2 k i m d c hm).2
        dsimp only at this
        rw [ek, ei] at this
        exact rnn_of (c := X i - X k) (by grind) (by grind)
      · exact absurd d hki
      · have ek := hek.1 d
        have xk := hX i k d hk
        rcases Nat.lt_trichotomy k m with f | f | f
        · have := (T.2 i k m d f hm).2
          dsimp only at this
          rw [ek, ei'] at this
          exact rnn_of (c := X k - X i) (by grind) (by grind)
        · subst f; grind
        · have := (T.2 i m k c f hk).1
          dsimp only at this
          rw [ek, ei] at this
          exact rnn_of (c := X k - X i) (by grind) (by grind)
  · rcases Nat.lt_trichotomy k i with d | d | d
    · exact .inr (by have := hek.2 d; grind)
    · exact absurd d hki
    · exact .inl (by have := hek.1 d; grind)
end
end Go.Pl
namespace Go.Pl

def Rt.q (r : Rt) : Rat := (r.num : Rat) / (r.den : Rat)
/-- In least terms. -/
structure Can (r : Rt) : Prop where
  pos : 0 < r.den
  red : Int.gcd r.num r.den = 1

theorem cpos {d : Int} (h : 0 < d) : (0 : Rat) < (d : Rat) := by exact_mod_cast h
theorem cne {d : Int} (h : 0 < d) : (d : Rat) ≠ 0 := by have := cpos h; grind
theorem frac_lt {a b c d : Int} (hb : 0 < b) (hd : 0 < d) : ((a:Rat)/(b:Rat) < (c:Rat)/(d:Rat)) ↔ a * d < c * b := by
  rw [Rat.div_lt_iff (by exact_mod_cast hb)]
  have h1 := cne hd
  have : (c:Rat)/(d:Rat) * (b : Rat) = (c * b : Rat) / d := by grind
  rw [this, Rat.lt_div_iff (by exact_mod_cast hd)]
  norm_cast
theorem frac_eq {a b c d : Int} (hb : 0 < b) (hd : 0 < d) : ((a:Rat)/(b:Rat) = (c:Rat)/(d:Rat)) ↔ a * d = c * b := by
  have h1 := frac_lt (a := a) (c := c) hb hd
  have h2 := frac_lt (a := c) (c := a) hd hb
  constructor
  · intro h
    have n1 : ¬ a * d < c * b := fun k => by have := h1.2 k; grind
    have n2 : ¬ c * b < a * d := fun k => by have := h2.2 k; grind
    omega
  · intro h
    have n1 : ¬ (a:Rat)/(b:Rat) < (c:Rat)/(d:Rat) := fun k => by have := h1.1 k; omega
    have n2 : ¬ (c:Rat)/(d:Rat) < (a:Rat)/(b:Rat) := fun k => by have := h2.1 k; omega
    grind
theorem lessB_q {a b : Rt} (ha : 0 < a.den) (hb : 0 < b.den) : lessB a b = true ↔ a.q < b.q := by
  unfold Rt.q
  rw [frac_lt ha hb]; simp [lessB]

theorem rat_can {n d : Int} (hd : 0 < d) : Can (rat n d) := by
  have hg : 0 < Int.gcd n d := Int.gcd_pos_of_ne_zero_right n (by omega)
  refine ⟨(rat_bd n d hd).2.1, ?_⟩
  have h1 : ((Int.gcd n d : Nat) : Int) ∣ d := Int.gcd_dvd_right ..
  have h2 : ((Int.gcd n d : Nat) : Int) ∣ n := Int.gcd_dvd_left ..
  show Int.gcd (n.tdiv (Int.gcd n d : Nat)) (d.tdiv (Int.gcd n d : Nat)) = 1
  rw [Int.gcd, Int.natAbs_tdiv, Int.natAbs_tdiv, Int.natAbs_natCast]
  show Nat.gcd (n.natAbs / Nat.gcd n.natAbs d.natAbs) (d.natAbs / Nat.gcd n.natAbs d.natAbs) = 1
  exact Nat.coprime_div_gcd_div_gcd hg
theorem rat_mul {n d : Int} (hd : 0 < d) : (rat n d).num * d = n * (rat n d).den := by
  have h1 : ((Int.gcd n d : Nat) : Int) ∣ d := Int.gcd_dvd_right ..
  have h2 : ((Int.gcd n d : Nat) : Int) ∣ n := Int.gcd_dvd_left ..
  show n.tdiv (Int.gcd n d : Nat) * d = n * d.tdiv (Int.gcd n d : Nat)
  generalize ((Int.gcd n d : Nat) : Int) = g at h1 h2
  obtain ⟨u, rfl⟩ := h1
  obtain ⟨v, rfl⟩ := h2
  have hg : g ≠ 0 := by rintro rfl; simp at hd
  rw [Int.mul_tdiv_cancel_left _ hg, Int.mul_tdiv_cancel_left _ hg]
  grind
theorem rat_q {n d : Int} (hd : 0 < d) : (rat n d).q = (n : Rat) / (d : Rat) := by
  unfold Rt.q
  rw [frac_eq (rat_can hd).pos hd]; exact rat_mul hd
theorem can_ext {a b : Rt} (ha : Can a) (hb : Can b) (h : a.q = b.q) : a = b := by
  have hm : a.num * b.den = b.num * a.den := (frac_eq ha.pos hb.pos).1 h
  have h1 : a.den.natAbs ∣ b.den.natAbs := by
    have : Nat.Coprime a.den.natAbs a.num.natAbs := Nat.Coprime.symm ha.red
    refine this.dvd_of_dvd_mul_left ⟨b.num.natAbs, ?_⟩
    rw [← Int.natAbs_mul, hm, Int.natAbs_mul, Nat.mul_comm]
  have h2 : b.den.natAbs ∣ a.den.natAbs := by
    have : Nat.Coprime b.den.natAbs b.num.natAbs := Nat.Coprime.symm hb.red
    refine this.dvd_of_dvd_mul_left ⟨a.num.natAbs, ?_⟩
    rw [← Int.natAbs_mul, ← hm, Int.natAbs_mul, Nat.mul_comm]
  have h3 := Nat.dvd_antisymm h1 h2
  have h4 : a.den = b.den := by have := ha.pos; have := hb.pos; omega
  have h5 : a.num = b.num := by
    rw [h4] at hm
    exact Int.eq_of_mul_eq_mul_right (by have := hb.pos; omega) hm
  cases a; cases b; simp_all
theorem can_rat {a : Rt} (ha : Can a) : rat a.num a.den = a := can_ext (rat_can ha.pos) ha (by rw [rat_q ha.pos]; rfl)
theorem rat_eq {a b c d : Int} (hb : 0 < b) (hd : 0 < d) (h : a * d = c * b) : rat a b = rat c d := can_ext (rat_can hb) (rat_can hd) (by rw [rat_q hb, rat_q hd, frac_eq hb hd]; exact h)

/-! ### A log as rational numbers -/
def Xq (L : Lg) (i : Nat) : Rat := (plP L i : Rat)
def loq (L : Lg) (c : Rat) (i : Nat) : Rat := ((edP L i).lo : Rat) + c
def hiq (L : Lg) (c : Rat) (i : Nat) : Rat := ((edP L i).hi : Rat) - c
theorem LgOk.rise {L : Lg} (h : LgOk L) : Rise L.pl.length (Xq L) := fun i k h1 h2 => by
  have := h.plL (i := (i : Int)) (j := (k : Int)) (by omega) (by omega) (by omega)
  show ((plP L i : Int) : Rat) < ((plP L k : Int) : Rat)
  exact_mod_cast this
/-- A line keeps a core at all places. -/
def Keeps (L : Lg) (c h s : Rat) : Prop := ThruL L.pl.length (Xq L) (loq L c) (hiq L c) h s

theorem minL_le : ∀ (l : List Int) (d : Int), d ∈ l → minL l ≤ d := by
  have key : ∀ (l : List Int) (o : Int), bestOf ltI o l ≤ o ∧ ∀ d ∈ l, bestOf ltI o l ≤ d := by
    intro l
    induction l with
    | nil => intro o; exact ⟨Int.le_refl _, fun d h => by cases h⟩
    | cons x l ih =>
      intro o
      have e : bestOf ltI o (x :: l) = bestOf ltI (if ltI x o then x else o) l := rfl
      rw [e]
      obtain ⟨h1, h2⟩ := ih (if ltI x o then x else o)
      have h3 : (if ltI x o then x else o) ≤ x ∧ (if ltI x o then x else o) ≤ o := by
        simp only [ltI, decide_eq_true_eq]; split <;> omega
      refine ⟨by omega, fun d hd => ?_⟩
      rcases List.mem_cons.1 hd with rfl | hd
      · omega
      · exact h2 d hd
  intro l d hd
  cases l with
  | nil => cases hd
  | cons x l =>
    rcases List.mem_cons.1 hd with rfl | hd
    · exact (key l d).1
    · exact (key l x).2 d hd
theorem minL_mem {l : List Int} (h : l ≠ []) : minL l ∈ l := by
  cases l with
  | nil => exact absurd rfl h
  | cons d l => have := bestOf_mem ltI d l l.length; rw [List.take_length] at this; exact this
theorem devs_has (x : Ln) : ∀ (pl : List Int) (ed : List Rg) (k : Nat) (a : Int) (r : Rg), pl[k]? = some a → ed[k]? = some r →
    (x.start + x.step * a - r.lo * x.den) ∈ devs x pl ed ∧ (r.hi * x.den - (x.start + x.step * a)) ∈ devs x pl ed
  | [], _, _, _, _, h, _ => by simp at h
  | _ :: _, [], _, _, _, _, h => by simp at h
  | b :: pl, q :: ed, 0, a, r, h1, h2 => by simp at h1 h2; subst h1; subst h2; simp [devs]
  | b :: pl, q :: ed, k + 1, a, r, h1, h2 => by
    simp only [List.getElem?_cons_succ] at h1 h2
    have := devs_has x pl ed k a r h1 h2
    simp only [devs, List.mem_cons]
    exact ⟨.inr (.inr this.1), .inr (.inr this.2)⟩
theorem devs_of (x : Ln) : ∀ (pl : List Int) (ed : List Rg) (d : Int), d ∈ devs x pl ed → ∃ (k : Nat) (a : Int) (r : Rg), pl[k]? = some a ∧ ed[k]? = some r ∧ (d = x.start + x.step * a - r.lo * x.den ∨ d = r.hi * x.den - (x.start + x.step * a))
  | [], _, d, h => by simp [devs] at h
  | _ :: _, [], d, h => by simp [devs] at h
  | a :: pl, r :: ed, d, h => by
    simp only [devs, List.mem_cons] at h
    rcases h with h | h | h
    · exact ⟨0, a, r, rfl, rfl, .inl h⟩
    · exact ⟨0, a, r, rfl, rfl, .inr h⟩
    · obtain ⟨k, b, q, hb, hq, h⟩ := devs_of x pl ed d h
      exact ⟨k + 1, b, q, hb, hq, h⟩
theorem plP_at {L : Lg} {i : Nat} (h : i < L.pl.length) : L.pl[i]? = some (plP L i) := by
  simp [plP, List.getD, List.getElem?_eq_getElem h]
theorem edP_at {L : Lg} {i : Nat} (h : i < L.ed.length) : L.ed[i]? = some (edP L i) := by
  simp [edP, List.getD, List.getElem?_eq_getElem h]

theorem devs_ne {L : Lg} (hL : LgOk L) (x : Ln) : devs x L.pl L.ed ≠ [] := fun e => by
  have := devs_len x L.pl L.ed hL.el; rw [e] at this; have := hL.n2; simp at *; omega

/-- What a line keeps is the greatest number that it keeps at all places. -/
theorem core_keeps {L : Lg} (hL : LgOk L) {x : Ln} (hx : 0 < x.den) (c : Rat) : c ≤ (coreOf L x).q ↔ Keeps L c ((x.start : Rat) / x.den) ((x.step : Rat) / x.den) := by
  have hd := cpos hx
  have hdn := cne hx
  have hq : (coreOf L x).q = (coreN L x : Rat) / x.den := rat_q hx
  have el := hL.el
  have hc : c ≤ (coreOf L x).q ↔ c * x.den ≤ (coreN L x : Rat) := by
    rw [hq]
    constructor
    · intro h
      have := rmul_le h (c := (x.den : Rat)) (by grind)
      have e : (coreN L x : Rat) / x.den * x.den = coreN L x := by grind
      grind
    · intro h
      refine rle_of (c := (x.den : Rat)) ?_ hd
      have e : (coreN L x : Rat) / x.den * x.den = coreN L x := by grind
      grind
  rw [hc]
  constructor
  · intro h m hm
    have hh := devs_has x L.pl L.ed m _ _ (plP_at hm) (edP_at (by omega))
    have g1 := minL_le _ _ hh.1
    have g2 := minL_le _ _ hh.2
    have g1' : (coreN L x : Rat) ≤ (x.start : Rat) + x.step * plP L m - (edP L m).lo * x.den := by exact_mod_cast g1
    have g2' : (coreN L x : Rat) ≤ ((edP L m).hi : Rat) * x.den - (x.start + x.step * plP L m) := by exact_mod_cast g2
    have e : (((x.start : Rat) / x.den) + ((x.step : Rat) / x.den) * (plP L m : Rat)) * x.den = x.start + x.step * plP L m := by grind
    constructor
    · refine rle_of (c := (x.den : Rat)) ?_ hd
      show (((edP L m).lo : Rat) + c) * x.den ≤ ((x.start : Rat) / x.den + (x.step : Rat) / x.den * (plP L m : Rat)) * x.den
      rw [e]; grind
    · refine rle_of (c := (x.den : Rat)) ?_ hd
      show ((x.start : Rat) / x.den + (x.step : Rat) / x.den * (plP L m : Rat)) * x.den ≤ (((edP L m).hi : Rat) - c) * x.den
      rw [e]; grind
  · intro h
    obtain ⟨m, a, r, h1, h2, h3⟩ := devs_of x L.pl L.ed _ (minL_mem (devs_ne hL x))
    have hm := (List.getElem?_eq_some_iff.1 h1).1
    have ea : a = plP L m := plP_some (i := (m : Int)) h1
    have er : r = edP L m := edP_some (i := (m : Int)) h2
    subst ea er
    have hk := h m hm
    have e : (((x.start : Rat) / x.den) + ((x.step : Rat) / x.den) * (plP L m : Rat)) * x.den = x.start + x.step * plP L m := by grind
    have k1 := rmul_le hk.1 (c := (x.den : Rat)) (by grind)
    have k2 := rmul_le hk.2 (c := (x.den : Rat)) (by grind)
    have k1' : (((edP L m).lo : Rat) + c) * x.den ≤ x.start + x.step * plP L m := by rw [← e]; exact k1
    have k2' : x.start + x.step * plP L m ≤ (((edP L m).hi : Rat) - c) * x.den := by rw [← e]; exact k2
    rcases h3 with h3 | h3
    · have : (coreN L x : Rat) = (x.start : Rat) + x.step * plP L m - (edP L m).lo * x.den := by exact_mod_cast h3
      grind
    · have : (coreN L x : Rat) = ((edP L m).hi : Rat) * x.den - (x.start + x.step * plP L m) := by exact_mod_cast h3
      grind

/-! ### What proofs prove -/
theorem prov_q {L : Lg} (hL : LgOk L) {p : Pf} (hp : PfOk L p) : (provV L p).q = (provN L p : Rat) / (provD L p : Rat) := rat_q (prov_bd hL hp).2.1
theorem prov_le {L : Lg} (hL : LgOk L) {p : Pf} (hp : PfOk L p) (c : Rat) : c ≤ (provV L p).q ↔ c * (provD L p : Rat) ≤ (provN L p : Rat) := by
  have hd := cpos (prov_bd hL hp).2.1
  have hn := cne (prov_bd hL hp).2.1
  rw [prov_q hL hp]
  have e : (provN L p : Rat) / (provD L p : Rat) * (provD L p : Rat) = provN L p := by grind
  constructor
  · intro h; have := rmul_le h (c := (provD L p : Rat)) (by grind); grind
  · intro h; exact rle_of (c := (provD L p : Rat)) (by grind) hd
theorem prov_eq {L : Lg} (hL : LgOk L) {p : Pf} (hp : PfOk L p) (c : Rat) (h : c = (provV L p).q) : c * (provD L p : Rat) = (provN L p : Rat) := by
  have hn := cne (prov_bd hL hp).2.1
  rw [h, prov_q hL hp]; grind

theorem pf_one {L : Lg} {i : Nat} (hi : i < L.pl.length) : PfOk L ⟨i, i, i, 0⟩ := ⟨Int.natCast_nonneg _, Int.le_refl _, Int.le_refl _, Int.ofNat_lt.2 hi, fun _ => rfl, fun h => absurd rfl h⟩
theorem pf_three {L : Lg} {i k j : Nat} (h1 : i < k) (h2 : k < j) (h3 : j < L.pl.length) {s : Int} (hs : s = 1 ∨ s = 2) : PfOk L ⟨i, k, j, s⟩ :=
  ⟨Int.natCast_nonneg _, Int.ofNat_le.2 (by omega), Int.ofNat_le.2 (by omega), Int.ofNat_lt.2 h3, fun e => by dsimp only at e; omega, fun _ => ⟨Int.ofNat_lt.2 h1, Int.ofNat_lt.2 h2, hs⟩⟩
theorem pf_form {L : Lg} {p : Pf} (hp : PfOk L p) : (∃ i : Nat, i < L.pl.length ∧ p = ⟨i, i, i, 0⟩) ∨ ∃ i k j : Nat, ∃ s : Int, i < k ∧ k < j ∧ j < L.pl.length ∧ (s = 1 ∨ s = 2) ∧ p = ⟨i, k, j, s⟩ := by
  obtain ⟨f0, fm, ml, ln, one, many⟩ := hp
  obtain ⟨pf, pm, pl, ps⟩ := p
  dsimp only at *
  by_cases c : pf = pl
  · have := one c
    refine .inl ⟨pf.toNat, by omega, ?_⟩
    have e : ((pf.toNat : Nat) : Int) = pf := by omega
    rw [e]
    congr 1 <;> omega
  · have := many c
    refine .inr ⟨pf.toNat, pm.toNat, pl.toNat, ps, by omega, by omega, by omega, this.2.2, ?_⟩
    congr 1 <;> omega

theorem tri_prov {L : Lg} (hL : LgOk L) {c : Rat} : TriL L.pl.length (Xq L) (loq L c) (hiq L c) ↔ ∀ p, PfOk L p → c ≤ (provV L p).q := by
  constructor
  · intro ht p hp
    rw [prov_le hL hp]
    rcases pf_form hp with ⟨i, hi, rfl⟩ | ⟨i, k, j, s, h1, h2, h3, hs, rfl⟩
    · have := ht.1 i hi
      simp only [loq, hiq] at this
      simp only [provD, provN, if_true]
      push_cast
      grind
    · have hne : ((i : Nat) : Int) ≠ (j : Nat) := by omega
      have := ht.2 i k j h1 h2 h3
      simp only [loq, hiq, Xq] at this
      rcases hs with rfl | rfl
      · simp only [provD, provN, hne, if_false, if_true, lftP, rgtP]
        push_cast
        grind
      · simp only [provD, provN, hne, if_false, show ¬ (2 : Int) = 1 from by decide, lftP, rgtP]
        push_cast
        grind
  · intro h
    refine ⟨fun i hi => ?_, fun i k j h1 h2 h3 => ?_⟩
    · have := (prov_le hL (pf_one hi) c).1 (h _ (pf_one hi))
      simp only [provD, provN, if_true] at this
      push_cast at this
      simp only [loq, hiq]
      grind
    · have hne : ((i : Nat) : Int) ≠ (j : Nat) := by omega
      have a := (prov_le hL (pf_three h1 h2 h3 (.inl rfl)) c).1 (h _ (pf_three h1 h2 h3 (.inl rfl)))
      have b := (prov_le hL (pf_three h1 h2 h3 (.inr rfl)) c).1 (h _ (pf_three h1 h2 h3 (.inr rfl)))
      simp only [provD, provN, hne, if_false, if_true, lftP, rgtP] at a
      simp only [provD, provN, hne, if_false, show ¬ (2 : Int) = 1 from by decide, lftP, rgtP] at b
      push_cast at a b
      simp only [loq, hiq, Xq]
      exact ⟨by grind, by grind⟩

/-! ### The best core -/
theorem best_le {l : List Rt} (hl : ∀ r ∈ l, 0 < r.den) : ∀ (o : Rt), 0 < o.den → ((bestOf lessB o l).q ≤ o.q ∧ ∀ r ∈ l, (bestOf lessB o l).q ≤ r.q) := by
  induction l with
  | nil => intro o ho; exact ⟨Rat.le_refl, fun r h => by cases h⟩
  | cons x l ih =>
    intro o ho
    have hx := hl x (by simp)
    have e : bestOf lessB o (x :: l) = bestOf lessB (if lessB x o then x else o) l := rfl
    rw [e]
    have h0 : 0 < (if lessB x o then x else o).den := by split <;> assumption
    obtain ⟨h1, h2⟩ := ih (fun r hr => hl r (List.mem_cons_of_mem _ hr)) _ h0
    have h3 : (if lessB x o then x else o).q ≤ x.q ∧ (if lessB x o then x else o).q ≤ o.q := by
      have := lessB_q hx ho
      by_cases c : lessB x o = true
      · rw [if_pos c]; have := this.1 c; exact ⟨Rat.le_refl, by grind⟩
      · rw [if_neg c]
        have : ¬ x.q < o.q := fun k => c (this.2 k)
        exact ⟨by grind, Rat.le_refl⟩
    refine ⟨Rat.le_trans h1 h3.2, fun d hd => ?_⟩
    rcases List.mem_cons.1 hd with rfl | hd
    · exact Rat.le_trans h1 h3.1
    · exact h2 d hd
theorem best_prov {L : Lg} (hL : LgOk L) {p : Pf} (hp : PfOk L p) : (bestV L).q ≤ (provV L p).q := by
  have hm := ok_proofs hp
  rw [proofs_cons (by have := hL.n2; omega)] at hm
  have hd : ∀ p, PfOk L p → 0 < (provV L p).den := fun p hp => (rat_can (prov_bd hL hp).2.1).pos
  have key := best_le (l := (proofsL L.pl.length).tail.map (provV L)) (fun r hr => by
    obtain ⟨p, hp, rfl⟩ := List.mem_map.1 hr
    exact hd p (proofs_ok (List.mem_of_mem_tail hp))) (provV L ⟨0, 0, 0, 0⟩) (hd _ (pf_one (i := 0) (by have := hL.n2; omega)))
  rcases List.mem_cons.1 hm with rfl | hm
  · exact key.1
  · exact key.2 _ (List.mem_map_of_mem hm)
theorem leastP_ok {L : Lg} (hL : LgOk L) : PfOk L (leastP L) := proofs_ok (leastP_mem (by have := hL.n2; omega))
theorem best_can {L : Lg} (hL : LgOk L) : Can (bestV L) := by rw [← leastP_v]; exact rat_can (prov_bd hL (leastP_ok hL)).2.1
theorem core_can {L : Lg} {x : Ln} (hx : 0 < x.den) : Can (coreOf L x) := rat_can hx

/-- No line keeps more than the best core. -/
theorem keeps_best {L : Lg} (hL : LgOk L) {c h s : Rat} (hk : Keeps L c h s) : c ≤ (bestV L).q := by
  have := (tri_prov hL).1 (ThruL.tri hL.rise hk) _ (leastP_ok hL)
  rwa [leastP_v] at this
theorem core_le_best {L : Lg} (hL : LgOk L) {x : Ln} (hx : 0 < x.den) : (coreOf L x).q ≤ (bestV L).q := keeps_best hL ((core_keeps hL hx _).1 Rat.le_refl)

/-- A line that keeps the best core, through ends of two places. -/
theorem best_line {L : Lg} (hL : LgOk L) : ∃ (i k : Nat) (h s : Rat), i < k ∧ k < L.pl.length ∧ Keeps L (bestV L).q h s ∧ EndL (Xq L) (loq L (bestV L).q) (hiq L (bestV L).q) h s i ∧ EndL (Xq L) (loq L (bestV L).q) (hiq L (bestV L).q) h s k := by
  have ht : TriL L.pl.length (Xq L) (loq L (bestV L).q) (hiq L (bestV L).q) := (tri_prov hL).2 fun p hp => best_prov hL hp
  have he := prov_eq hL (leastP_ok hL) (bestV L).q (by rw [leastP_v])
  rcases pf_form (leastP_ok hL) with ⟨i, hi, e⟩ | ⟨i, k, j, s, h1, h2, h3, hs, e⟩
  · rw [e] at he
    simp only [provD, provN, if_true] at he
    push_cast at he
    obtain ⟨h, s, k, a, b, c, d, f⟩ := tight_one hL.rise ht hi hL.n2 (by simp only [loq, hiq]; grind)
    rcases Nat.lt_or_gt_of_ne d with d | d
    · exact ⟨k, i, h, s, d, hi, a, c, b⟩
    · exact ⟨i, k, h, s, d, f, a, b, c⟩
  · rw [e] at he
    have hne : ((i : Nat) : Int) ≠ (j : Nat) := by omega
    rcases hs with rfl | rfl
    · simp only [provD, provN, hne, if_false, if_true, lftP, rgtP] at he
      push_cast at he
      obtain ⟨h, s, a, b, c⟩ := tight_under hL.rise ht h1 h2 h3 (by simp only [loq, hiq, Xq]; grind)
      exact ⟨i, j, h, s, by omega, h3, a, b, c⟩
    · simp only [provD, provN, hne, if_false, show ¬ (2 : Int) = 1 from by decide, lftP, rgtP] at he
      push_cast at he
      obtain ⟨h, s, a, b, c⟩ := tight_over hL.rise ht h1 h2 h3 (by simp only [loq, hiq, Xq]; grind)
      exact ⟨i, j, h, s, by omega, h3, a, b, c⟩

/-- Some line that is tried has the best core. -/
theorem cand_best {L : Lg} (hL : LgOk L) : ∃ x, Cand L x ∧ coreOf L x = bestV L := by
  obtain ⟨i, k, h, s, hik, hk, hkeep, ei, ek⟩ := best_line hL
  have hv := (best_can hL).pos
  have hvn := cne hv
  have hX := hL.rise i k hik hk
  have hend : ∀ i : Nat, EndL (Xq L) (loq L (bestV L).q) (hiq L (bestV L).q) h s i → ∃ t : Nat, t < 2 ∧ ((endV L i t : Int) : Rat) = (h + s * Xq L i) * (bestV L).den := fun i hi => by
    rcases hi with e | e
    · refine ⟨0, by omega, ?_⟩
      rw [e]
      simp only [endV, if_true, loq, Rt.q]
      push_cast
      grind
    · refine ⟨1, by omega, ?_⟩
      rw [e]
      simp only [endV, show ¬ (1 : Nat) = 0 from by decide, if_false, hiq, Rt.q]
      push_cast
      grind
  obtain ⟨a, ha, ea⟩ := hend i ei
  obtain ⟨b, hb, eb⟩ := hend k ek
  have hc : Cand L (candV L i k a b) := ⟨i, k, a, b, hik, hk, ha, hb, rfl⟩
  have hd : 0 < (candV L i k a b).den := (cand_ok hL hc).1.d0
  have hdn := cne hd
  have hdq : ((candV L i k a b).den : Rat) = (bestV L).den * (Xq L k - Xq L i) := by simp only [candV, Xq]; push_cast; rfl
  have e1 : ((candV L i k a b).step : Rat) / (candV L i k a b).den = s := by
    have : ((candV L i k a b).step : Rat) = s * (candV L i k a b).den := by
      rw [hdq]; simp only [candV]; push_cast; rw [ea, eb]; grind
    grind
  have e2 : ((candV L i k a b).start : Rat) / (candV L i k a b).den = h := by
    have : ((candV L i k a b).start : Rat) = h * (candV L i k a b).den := by
      rw [hdq]; simp only [candV]; push_cast; rw [ea, eb]; simp only [Xq]; grind
    grind
  refine ⟨_, hc, can_ext (core_can hd) (best_can hL) ?_⟩
  have h1 : (bestV L).q ≤ (coreOf L (candV L i k a b)).q := (core_keeps hL hd _).2 (by rw [e1, e2]; exact hkeep)
  have h2 := core_le_best hL hd
  grind
end Go.Pl
set_option linter.unusedVariables false
namespace Go.Proofs.Ytnionkopmncopaa
open Go.Lw Go.Pl Go.RowKit

theorem line_fix {L : Lg} (hL : LgOk L) {x : Ln} (h : (Cand L x ∧ coreOf L x = bestV L) ∨ ∀ c, Cand L c → coreOf L c ≠ bestV L) : Cand L x ∧ coreOf L x = bestV L := by
  rcases h with h | h
  · exact h
  · obtain ⟨c, h1, h2⟩ := cand_best hL
    exact absurd h2 (h c h1)
theorem line_p28 (L : Lg) (V : View) (v : Value) (hv : LogV V v L) : Fnc Try.prog 28 [v] V fun r _ => (logE L ≠ 0 ∧ r = .tuple #[lnv ⟨0, 0, 0⟩, iv (logE L)]) ∨ (logE L = 0 ∧ ∃ x, r = .tuple #[lnv x, iv 0] ∧ Cand L x ∧ coreOf L x = bestV L) := by
  have hv' := hv
  obtain ⟨a, c, a', c', rfl, h2, h3⟩ := hv
  refine fn_of Try.func28 rfl Try.ntmps28 (Nat.le_of_ble_eq_true rfl) ?_
  intro w0 hw0
  refine At.nrm ?_
  refine At.ktext (.n false 0 (.n false 1 (.q 2 .done))) ?_
  refine AtT.kbox ?_
  intro b1
  refine AtT.kalloc z27 ?_
  intro b2
  refine AtT.kassign ?_
  refine AtT.done ?_
  refine At.nrm ?_
  refine At.ktext (.q 0 (.n false 1 (.q 2 (.q 3 (.q 4 (.q 5 (.q 6 .done))))))) ?_
  first | refine AtT.kloadOA tk25 ?_ | refine AtT.kloadA tk25 ?_ | refine AtT.kloadOP tk25 ?_
  all_goals (refine AtT.kcall rfl rfl ok59 (open_f L _ _ hv') ?_)
  all_goals (rintro _ V1 hV1 (⟨he, rfl⟩ | ⟨he, p, rfl, hp⟩))
  all_goals (refine AtT.kmove ?_)
  all_goals (refine AtT.kextract ?_)
  all_goals (refine AtT.kextract ?_)
  all_goals (refine AtT.kassign ?_)
  all_goals (refine AtT.kassign ?_)
  all_goals refine AtT.done ?_
  all_goals (refine At.nrm ?_)
  · refine At.ktext (.q 0 (.q 1 .done)) ?_
    refine AtT.kmove ?_
    refine AtT.kneI ?_
    refine AtT.done ?_
    refine At.nrm ?_
    refine At.condP rfl (fun hb => ?_) (fun hb => absurd he hb)
    refine At.nrm ?_
    refine At.ktext (.q 0 (.q 1 (.n true 2 (.q 3 .done)))) ?_
    refine AtT.kbuild (bd27) ?_
    refine AtT.kmove ?_
    refine AtT.kstoreA tk27 ?_
    refine AtT.kassign ?_
    refine AtT.done ?_
    refine At.nrm ?_
    exact At.ret2 rfl (.agg rfl tk27 Pick.auto rfl) (.tmp rfl) (.inl ⟨he, rfl⟩)
  · refine At.ktext (.q 0 (.q 1 .done)) ?_
    refine AtT.kmove ?_
    refine AtT.kneI ?_
    refine AtT.done ?_
    refine At.nrm ?_
    refine At.condF rfl rfl ?_
    refine At.nrm ?_
    refine At.ktext (.q 0 (.n false 1 (.n true 2 (.q 3 .done)))) ?_
    refine AtT.kmove ?_
    refine AtT.kcallP rfl rfl ok66 (line_f L _ p hp (logE_ok he)) ?_
    rintro _ ⟨x, rfl, hx⟩
    refine AtT.kstoreA tk27 ?_
    refine AtT.kassign ?_
    refine AtT.done ?_
    refine At.nrm ?_
    exact At.ret2 rfl (.agg rfl tk27 Pick.auto rfl) (.tmp rfl) (.inr ⟨he, x, rfl, line_fix (logE_ok he) hx⟩)

def turnsR (L : Lg) (sp sh : Int) : Int × Int :=
  if logE L ≠ 0 then (0, logE L) else if ¬ (0 ≤ sp ∧ sp ≤ 1000 ∧ 1 ≤ sh ∧ sh ≤ 1000) then (0, 3)
  else if (bestV L).num - sp * (bestV L).den < 0 then (0, 17) else (((bestV L).num - sp * (bestV L).den).tdiv (sh * (bestV L).den), 0)

theorem turns_q (L : Lg) (sp sh : Int) (V : View) (v : Value) (hv : LogV V v L) : Fnc Try.prog 30 [v, iv sp, iv sh] V fun r _ => r = .tuple #[iv (turnsR L sp sh).1, iv (turnsR L sp sh).2] := by
  have hv' := hv
  obtain ⟨a, c, a', c', rfl, h2, h3⟩ := hv
  refine fn_of Try.func30 rfl Try.ntmps30 (Nat.le_of_ble_eq_true rfl) ?_
  intro w0 hw0
  refine At.nrm ?_
  refine At.ktext (.n false 0 (.q 1 (.q 2 .done))) ?_
  refine AtT.kbox ?_
  intro b3
  refine AtT.kassign ?_
  refine AtT.kassign ?_
  refine AtT.done ?_
  refine At.nrm ?_
  refine At.ktext (.q 0 (.n false 1 (.q 2 .done))) ?_
  first | refine AtT.kloadOA tk25 ?_ | refine AtT.kloadA tk25 ?_ | refine AtT.kloadOP tk25 ?_
  refine AtT.kcallP rfl rfl ok23 (rcheckLog_f L _ _ hv') ?_
  rintro _ rfl
  refine AtT.kneI ?_
  refine AtT.done ?_
  refine At.nrm ?_
  refine At.condP rfl (fun hb => ?_) (fun hb => ?_)
  · refine At.nrm ?_
    refine At.ktext (.q 0 (.n false 1 (.q 2 (.q 3 .done)))) ?_
    first | refine AtT.kloadOA tk25 ?_ | refine AtT.kloadA tk25 ?_ | refine AtT.kloadOP tk25 ?_
    refine AtT.kcallP rfl rfl ok23 (rcheckLog_f L _ _ hv') ?_
    rintro _ rfl
    refine AtT.kassign ?_
    refine AtT.kassign ?_
    refine AtT.done ?_
    refine At.nrm ?_
    refine At.ret2 rfl (.tmp rfl) (.tmp rfl) ?_
    rw [turnsR, if_pos hb]
  have he : logE L = 0 := by simpa using hb
  have hbb := best_bd (logE_ok he)
  refine At.nrm ?_
  refine At.cutG (ι := Unit) (fun _ => [(1, iv sp), (2, iv sh), (3, .pointer (some ⟨b3, 0, none⟩)), (28, .bool (decide ¬ (0 ≤ sp ∧ sp ≤ 1000 ∧ 1 ≤ sh ∧ sh ≤ 1000)))]) (fun _ => [.blk b3 (LC [.slice a L.pl.length c, .slice a' L.ed.length c'] 25)]) (fun _ V' => V = V') ?_ ?_
  · refine At.ktext (.q 0 (.q 1 (.q 2 (.q 3 (.q 4 (.q 5 (.q 6 (.q 7 (.q 8 (.q 9 (.q 10 (.q 11 (.q 12 (.q 13 .done)))))))))))))) ?_
    refine AtT.kmove ?_
    refine AtT.klss ?_
    refine AtT.kmove ?_
    all_goals (first | refine AtT.kL 17 ?_ | refine AtT.pcase (d := 17) rfl (fun hg17 => ?_) (fun hg17 => ?_) | refine AtT.bcase (d := 17) rfl (fun hg17 => ?_) (fun hg17 => ?_))
    all_goals (first | refine AtT.kpass ?_ | refine AtT.kpassU ?_ | ((refine AtT.kmove ?_)))
    all_goals (first | refine AtT.kpass ?_ | refine AtT.kpassU ?_ | ((refine AtT.kgtr ?_)))
    all_goals (refine AtT.kpick ?_)
    all_goals (refine AtT.kmove ?_)
    all_goals (first | refine AtT.kL 21 ?_ | refine AtT.pcase (d := 21) rfl (fun hg21 => ?_) (fun hg21 => ?_) | refine AtT.bcase (d := 21) rfl (fun hg21 => ?_) (fun hg21 => ?_))
    all_goals (first | refine AtT.kpass ?_ | refine AtT.kpassU ?_ | ((refine AtT.kmove ?_)))
    all_goals (first | refine AtT.kpass ?_ | refine AtT.kpassU ?_ | ((refine AtT.klss ?_)))
    all_goals (refine AtT.kpick ?_)
    all_goals (refine AtT.kmove ?_)
    all_goals (first | refine AtT.kL 25 ?_ | refine AtT.pcase (d := 25) rfl (fun hg25 => ?_) (fun hg25 => ?_) | refine AtT.bcase (d := 25) rfl (fun hg25 => ?_) (fun hg25 => ?_))
    all_goals (first | refine AtT.kpass ?_ | refine AtT.kpassU ?_ | ((refine AtT.kmove ?_)))
    all_goals (first | refine AtT.kpass ?_ | refine AtT.kpassU ?_ | ((refine AtT.kgtr ?_)))
    all_goals (refine AtT.kpick ?_)
    all_goals refine AtT.done ?_
    all_goals (refine At.nrm ?_)
    all_goals (refine At.meetG () rfl ⟨rfl, rfl, rfl, bsome ?_, trivial⟩ Pt.auto)
    all_goals (rw [Bool.eq_iff_iff]; simp [*]; try omega)
  rintro _ _ ks' O' rfl hk hO hl
  subst hk hO
  refine At.condP rfl (fun hb => ?_) (fun hb => ?_)
  · refine At.nrm ?_
    refine At.ktext (.q 0 (.q 1 .done)) ?_
    refine AtT.kassign ?_
    refine AtT.kassign ?_
    refine AtT.done ?_
    refine At.nrm ?_
    refine At.ret2 rfl (.tmp rfl) (.tmp rfl) ?_
    rw [turnsR, if_neg (by simp [he]), if_pos hb]
  have hb' : 0 ≤ sp ∧ sp ≤ 1000 ∧ 1 ≤ sh ∧ sh ≤ 1000 := Decidable.not_not.1 hb
  have m1 := mul_bd (a := sp) (b := (bestV L).den) (A := 1000) (B := 400) (by decide) (by decide) (by omega) (by omega) (by omega) (by omega)
  have m2 := mul_bd (a := sh) (b := (bestV L).den) (A := 1000) (B := 400) (by decide) (by decide) (by omega) (by omega) (by omega) (by omega)
  have m3 : 0 < sh * (bestV L).den := Int.mul_pos (by omega) (by omega)
  refine At.nrm ?_
  refine At.ktext (.q 0 (.n false 1 (.n false 2 (.n true 3 .done)))) ?_
  first | refine AtT.kloadOA tk25 ?_ | refine AtT.kloadA tk25 ?_ | refine AtT.kloadOP tk25 ?_
  refine AtT.kcallP rfl rfl ok65 (bestOf_f L _ _ hv' (logE_ok he)) ?_
  rintro _ rfl
  refine AtT.kalloc z31 ?_
  intro b8
  refine AtT.kstoreA tk31 ?_
  refine AtT.done ?_
  refine At.nrm ?_
  refine At.ktext (.q 0 (.q 1 (.q 2 (.q 3 (.q 4 (.q 5 (.q 6 (.q 7 .done)))))))) ?_
  first | refine AtT.kfieldO fo31_0 ?_ | with_reducible refine AtT.kfield2 fo31_0 ?_ | refine AtT.kfield fo31_0 ?_
  first | refine AtT.kloadO tk2 ?_ | refine AtT.kload tk2 ?_
  refine AtT.kmove ?_
  first | refine AtT.kfieldO fo31_1 ?_ | with_reducible refine AtT.kfield2 fo31_1 ?_ | refine AtT.kfield fo31_1 ?_
  first | refine AtT.kloadO tk2 ?_ | refine AtT.kload tk2 ?_
  first | refine AtT.kmul ?_ | refine AtT.kmulW ?_
  first | refine AtT.ksubt ?_ | refine AtT.ksubW ?_
  refine AtT.kassign ?_
  refine AtT.done ?_
  refine At.nrm ?_
  refine At.ktext (.q 0 (.q 1 .done)) ?_
  refine AtT.kmove ?_
  refine AtT.klss ?_
  refine AtT.done ?_
  refine At.nrm ?_
  refine At.condP rfl (fun hc => ?_) (fun hc => ?_)
  · refine At.nrm ?_
    refine At.ktext (.q 0 (.q 1 .done)) ?_
    refine AtT.kassign ?_
    refine AtT.kassign ?_
    refine AtT.done ?_
    refine At.nrm ?_
    refine At.ret2 rfl (.tmp rfl) (.tmp rfl) ?_
    rw [turnsR, if_neg (by simp [he]), if_neg hb, if_pos hc]
  · have hfit : Fit (((bestV L).num - sp * (bestV L).den).tdiv (sh * (bestV L).den)) := fit_tdiv (by omega) (by omega)
    have hne : sh * (bestV L).den ≠ 0 := by omega
    refine At.nrm ?_
    refine At.ktext (.q 0 (.q 1 (.q 2 (.q 3 (.q 4 (.q 5 (.q 6 (.q 7 .done)))))))) ?_
    refine AtT.kmove ?_
    refine AtT.kmove ?_
    first | refine AtT.kfieldO fo31_1 ?_ | with_reducible refine AtT.kfield2 fo31_1 ?_ | refine AtT.kfield fo31_1 ?_
    first | refine AtT.kloadO tk2 ?_ | refine AtT.kload tk2 ?_
    first | refine AtT.kmul ?_ | refine AtT.kmulW ?_
    refine AtT.kquo ?_
    refine AtT.kassign ?_
    refine AtT.kassign ?_
    refine AtT.done ?_
    refine At.nrm ?_
    refine At.ret2 rfl (.tmp rfl) (.tmp rfl) ?_
    rw [turnsR, if_neg (by simp [he]), if_neg hb, if_neg hc]

theorem tdiv_two {a b c : Int} (h0 : 0 ≤ a) (h1 : 0 < b) (h2 : 0 < c) : (a.tdiv b).tdiv c = a.tdiv (c * b) := by
  rw [Int.tdiv_eq_ediv_of_nonneg h0, Int.tdiv_eq_ediv_of_nonneg (Int.ediv_nonneg h0 (by omega)), Int.tdiv_eq_ediv_of_nonneg h0, Int.ediv_ediv_of_nonneg (by omega), Int.mul_comm]

theorem turns_p (L : Lg) (sp sh : Int) (V : View) (v : Value) (hv : LogV V v L) : Fnc Try.prog 29 [v, iv sp, iv sh] V fun r _ => r = .tuple #[iv (turnsR L sp sh).1, iv (turnsR L sp sh).2] := by
  have hv' := hv
  obtain ⟨a, c, a', c', rfl, h2, h3⟩ := hv
  refine fn_of Try.func29 rfl Try.ntmps29 (Nat.le_of_ble_eq_true rfl) ?_
  intro w0 hw0
  refine At.nrm ?_
  refine At.ktext (.n false 0 (.q 1 (.q 2 .done))) ?_
  refine AtT.kbox ?_
  intro b3
  refine AtT.kassign ?_
  refine AtT.kassign ?_
  refine AtT.done ?_
  refine At.nrm ?_
  refine At.ktext (.q 0 (.n false 1 (.q 2 (.q 3 (.q 4 (.q 5 (.q 6 .done))))))) ?_
  first | refine AtT.kloadOA tk25 ?_ | refine AtT.kloadA tk25 ?_ | refine AtT.kloadOP tk25 ?_
  all_goals (refine AtT.kcall rfl rfl ok59 (open_f L _ _ hv') ?_)
  all_goals (rintro _ V1 hV1 (⟨he, rfl⟩ | ⟨he, p, rfl, hp⟩))
  all_goals (refine AtT.kmove ?_)
  all_goals (refine AtT.kextract ?_)
  all_goals (refine AtT.kextract ?_)
  all_goals (refine AtT.kassign ?_)
  all_goals (refine AtT.kassign ?_)
  all_goals refine AtT.done ?_
  all_goals (refine At.nrm ?_)
  · refine At.ktext (.q 0 (.q 1 (.q 2 .done))) ?_
    refine AtT.kmove ?_
    refine AtT.kneI ?_
    refine AtT.kassign ?_
    refine AtT.done ?_
    refine At.nrm ?_
    refine At.condP rfl (fun hb => ?_) (fun hb => absurd he hb)
    refine At.nrm ?_
    refine At.ktext (.q 0 (.q 1 (.q 2 .done))) ?_
    refine AtT.kmove ?_
    refine AtT.kassign ?_
    refine AtT.kassign ?_
    refine AtT.done ?_
    refine At.nrm ?_
    refine At.ret2 rfl (.tmp rfl) (.tmp rfl) ?_
    rw [turnsR, if_pos he]
  · refine At.ktext (.q 0 (.q 1 (.q 2 .done))) ?_
    refine AtT.kmove ?_
    refine AtT.kneI ?_
    refine AtT.kassign ?_
    refine AtT.done ?_
    refine At.nrm ?_
    refine At.condF rfl rfl ?_
    have hbb := best_bd (logE_ok he)
    refine At.nrm ?_
    refine At.cutG (ι := Unit) (fun _ => [(1, iv sp), (2, iv sh), (8, .pointer (some p)), (21, .bool (decide ¬ (0 ≤ sp ∧ sp ≤ 1000 ∧ 1 ≤ sh ∧ sh ≤ 1000)))]) (fun _ => []) (fun _ V' => Le V1 V') ?_ ?_
    · refine At.ktext (.q 0 (.n false 1 (.n false 2 (.q 3 (.q 4 (.q 5 (.n false 6 (.n false 7 (.q 8 (.q 9 (.q 10 .done))))))))))) ?_
      refine AtT.kmove ?_
      refine AtT.kbsliceG (bs22_1_0 _) ?_
      intro q23 V23 hV23 hq23
      have g23 : Le V V23 := by first | exact hV23 | exact Le.trans (by assumption) hV23
      refine AtT.kcallP rfl rfl ok63 (within_f 0 1000 [sp] _ _ (Sl.lit hq23 rfl (by simp))) ?_
      rintro _ rfl
      refine AtT.knot ?_
      refine AtT.kmove ?_
      all_goals (first | refine AtT.kL 26 ?_ | refine AtT.pcase (d := 26) rfl (fun hg26 => ?_) (fun hg26 => ?_) | refine AtT.bcase (d := 26) rfl (fun hg26 => ?_) (fun hg26 => ?_))
      all_goals (first | refine AtT.kpass ?_ | refine AtT.kpassU ?_ | ((refine AtT.kmove ?_)))
      all_goals (first | refine AtT.kpassN ?_ | refine AtT.kpassNU ?_ | ((refine AtT.kbsliceG (bs22_1_0 _) ?_) ; (intro q28 V28 hV28 hq28) ; (have g28 : Le V V28 := by first | exact hV28 | exact Le.trans (by assumption) hV28)))
      all_goals (first | refine AtT.kpassN ?_ | refine AtT.kpassNU ?_ | ((refine AtT.kcallP rfl rfl ok63 (within_f 1 1000 [sh] _ _ (Sl.lit hq28 rfl (by simp))) ?_) ; (rintro _ rfl)))
      all_goals (first | refine AtT.kpass ?_ | refine AtT.kpassU ?_ | ((refine AtT.knot ?_)))
      all_goals (refine AtT.kpick ?_)
      all_goals (refine AtT.kassign ?_)
      all_goals refine AtT.done ?_
      all_goals (refine At.nrm ?_)
      all_goals (refine At.meetG () (by first | exact hV23 | exact hV23.trans (by assumption)) ⟨rfl, rfl, rfl, bsome ?_, trivial⟩ .nil)
      all_goals (simp [wi, outB] at hg26; rw [Bool.eq_iff_iff]; simp [wi, outB, *]; try omega)
    rintro _ V2 ks' O' hV2 hk hO hl
    subst hk hO
    refine At.condP rfl (fun hb => ?_) (fun hb => ?_)
    · refine At.nrm ?_
      refine At.ktext (.q 0 (.q 1 .done)) ?_
      refine AtT.kassign ?_
      refine AtT.kassign ?_
      refine AtT.done ?_
      refine At.nrm ?_
      refine At.ret2 rfl (.tmp rfl) (.tmp rfl) ?_
      rw [turnsR, if_neg (by simp [he]), if_pos hb]
    have hb' : 0 ≤ sp ∧ sp ≤ 1000 ∧ 1 ≤ sh ∧ sh ≤ 1000 := Decidable.not_not.1 hb
    have m1 := mul_bd (a := sp) (b := (bestV L).den) (A := 1000) (B := 400) (by decide) (by decide) (by omega) (by omega) (by omega) (by omega)
    refine At.nrm ?_
    refine At.ktext (.q 0 (.n false 1 (.n false 2 (.n true 3 .done)))) ?_
    refine AtT.kmove ?_
    refine AtT.kcallP rfl rfl ok64 (best_f L _ p (hp.le hV2) (logE_ok he)) ?_
    rintro _ rfl
    refine AtT.kalloc z31 ?_
    intro b10
    refine AtT.kstoreA tk31 ?_
    refine AtT.done ?_
    refine At.nrm ?_
    refine At.ktext (.q 0 (.q 1 (.q 2 (.q 3 (.q 4 (.q 5 (.q 6 (.q 7 .done)))))))) ?_
    first | refine AtT.kfieldO fo31_0 ?_ | with_reducible refine AtT.kfield2 fo31_0 ?_ | refine AtT.kfield fo31_0 ?_
    first | refine AtT.kloadO tk2 ?_ | refine AtT.kload tk2 ?_
    refine AtT.kmove ?_
    first | refine AtT.kfieldO fo31_1 ?_ | with_reducible refine AtT.kfield2 fo31_1 ?_ | refine AtT.kfield fo31_1 ?_
    first | refine AtT.kloadO tk2 ?_ | refine AtT.kload tk2 ?_
    first | refine AtT.kmul ?_ | refine AtT.kmulW ?_
    first | refine AtT.ksubt ?_ | refine AtT.ksubW ?_
    refine AtT.kassign ?_
    refine AtT.done ?_
    refine At.nrm ?_
    refine At.ktext (.q 0 (.q 1 .done)) ?_
    refine AtT.kmove ?_
    refine AtT.klss ?_
    refine AtT.done ?_
    refine At.nrm ?_
    refine At.condP rfl (fun hc => ?_) (fun hc => ?_)
    · refine At.nrm ?_
      refine At.ktext (.q 0 (.q 1 .done)) ?_
      refine AtT.kassign ?_
      refine AtT.kassign ?_
      refine AtT.done ?_
      refine At.nrm ?_
      refine At.ret2 rfl (.tmp rfl) (.tmp rfl) ?_
      rw [turnsR, if_neg (by simp [he]), if_neg hb, if_pos hc]
    · have hf1 : Fit (((bestV L).num - sp * (bestV L).den).tdiv (bestV L).den) := fit_tdiv (by omega) (by omega)
      have hq1 := tdiv_le ((bestV L).num - sp * (bestV L).den) (bestV L).den
      have hf2 : Fit ((((bestV L).num - sp * (bestV L).den).tdiv (bestV L).den).tdiv sh) := fit_tdiv (by omega) (by omega)
      have hn1 : (bestV L).den ≠ 0 := by omega
      have hn2 : sh ≠ 0 := by omega
      refine At.nrm ?_
      refine At.ktext (.q 0 (.q 1 (.q 2 (.q 3 (.q 4 (.q 5 (.q 6 (.q 7 .done)))))))) ?_
      refine AtT.kmove ?_
      first | refine AtT.kfieldO fo31_1 ?_ | with_reducible refine AtT.kfield2 fo31_1 ?_ | refine AtT.kfield fo31_1 ?_
      first | refine AtT.kloadO tk2 ?_ | refine AtT.kload tk2 ?_
      refine AtT.kquo ?_
      refine AtT.kmove ?_
      refine AtT.kquo ?_
      refine AtT.kassign ?_
      refine AtT.kassign ?_
      refine AtT.done ?_
      refine At.nrm ?_
      refine At.ret2 rfl (.tmp rfl) (.tmp rfl) ?_
      rw [turnsR, if_neg (by simp [he]), if_neg hb, if_neg hc, ← tdiv_two (by omega) (by omega) (by omega)]
end Go.Proofs.Ytnionkopmncopaa
set_option linter.unusedVariables false
namespace Go.Proofs.Ytnionkopmncopaa
open Go.Lw Go.Pl Go.RowKit

theorem placedE_len {pl : List Int} {a b : List Rg} (h : placedE pl [a, b] = 0) : a.length = pl.length ∧ b.length = pl.length := by
  rw [placedE_one] at h
  by_cases c1 : (pl.length : Int) < 2 ∨ 8 < (pl.length : Int)
  · rw [if_pos c1] at h; cases h
  rw [if_neg c1] at h
  by_cases c2 : a.length ≠ pl.length ∨ b.length ≠ pl.length
  · rw [if_pos c2] at h; cases h
  omega

theorem zip_take {α β : Type} {l : List α} {m : List β} {k : Nat} {x : α} {y : β} (h1 : l[k]? = some x) (h2 : m[k]? = some y) : (l.take (k + 1)).zip (m.take (k + 1)) = (l.take k).zip (m.take k) ++ [(x, y)] := by
  rw [take_snoc' h1, take_snoc' h2, List.zip_append]
  · rfl
  · rw [List.length_take, List.length_take]
    have := (List.getElem?_eq_some_iff.1 h1).1
    have := (List.getElem?_eq_some_iff.1 h2).1
    omega

theorem checkRough_f (R : Rough) (V : View) (v : Value) (hR : RoughV V v R) : Fnc Try.prog 39 [v] V fun v _ => v = iv (roughE R) := by
  obtain ⟨a, c, a1, c1, a2, c2, rfl, h2, h3, h4⟩ := hR
  have hl1 := h3.lenLe
  refine fn_of Try.func39 rfl Try.ntmps39 (Nat.le_of_ble_eq_true rfl) ?_
  intro w0 hw0
  refine At.nrm ?_
  refine At.ktext (.n false 0 (.q 1 .done)) ?_
  refine AtT.kbox ?_
  intro b1
  refine AtT.kassign ?_
  refine AtT.done ?_
  refine At.nrm ?_
  refine At.ktext (.q 0 (.q 1 (.q 2 (.q 3 (.q 4 (.q 5 (.n false 6 (.n false 7 (.q 8 .done))))))))) ?_
  first | refine AtT.kfieldO fo53_0 ?_ | with_reducible refine AtT.kfield2 fo53_0 ?_ | refine AtT.kfield fo53_0 ?_
  first | refine AtT.kloadO tk22 ?_ | refine AtT.kload tk22 ?_
  first | refine AtT.kfieldO fo53_1 ?_ | with_reducible refine AtT.kfield2 fo53_1 ?_ | refine AtT.kfield fo53_1 ?_
  first | refine AtT.kloadO tk23 ?_ | refine AtT.kload tk23 ?_
  first | refine AtT.kfieldO fo53_2 ?_ | with_reducible refine AtT.kfield2 fo53_2 ?_ | refine AtT.kfield fo53_2 ?_
  first | refine AtT.kloadO tk23 ?_ | refine AtT.kload tk23 ?_
  refine AtT.kbsliceG (bs112_2_0_1 _ _ _ _ _ _) ?_
  intro q12 V12 hV12 hq12
  have g12 : Le V V12 := by first | exact hV12 | exact Le.trans (by assumption) hV12
  refine AtT.kcallP rfl rfl ok61 (placed_f R.pl [(.slice a1 R.low.length c1, R.low), (.slice a2 R.high.length c2, R.high)] _ _ _ (h2.le g12) (Sl.of_cells (l := [(.slice a1 R.low.length c1, R.low), (.slice a2 R.high.length c2, R.high)]) ve_len hq12 (Nat.le_refl _) (by unfold maxLen; simp)) (by intro p hp; simp at hp; rcases hp with rfl | rfl; exact h3.le g12; exact h4.le g12)) ?_
  rintro _ rfl
  refine AtT.kassign ?_
  refine AtT.done ?_
  refine At.nrm ?_
  have h3' := h3.le g12
  have h4' := h4.le g12
  refine At.ktext (.q 0 (.q 1 .done)) ?_
  refine AtT.kmove ?_
  refine AtT.kneI ?_
  refine AtT.done ?_
  refine At.nrm ?_
  refine At.condP rfl (fun hb => ?_) (fun hb => ?_)
  · refine At.nrm ?_
    refine At.ktext (.q 0 (.q 1 .done)) ?_
    refine AtT.kmove ?_
    refine AtT.kassign ?_
    refine AtT.done ?_
    refine At.nrm ?_
    exact At.ret1 rfl (.tmp rfl) (by have hb' : placedE R.pl [R.low, R.high] ≠ 0 := hb; rw [roughE, if_pos hb']; rfl)
  have he : placedE R.pl [R.low, R.high] = 0 := Decidable.not_not.1 hb
  obtain ⟨e1, e2⟩ := placedE_len he
  refine At.nrm ?_
  refine At.ktext (.q 0 (.q 1 (.q 2 (.q 3 .done)))) ?_
  first | refine AtT.kfieldO fo53_1 ?_ | with_reducible refine AtT.kfield2 fo53_1 ?_ | refine AtT.kfield fo53_1 ?_
  first | refine AtT.kloadO tk23 ?_ | refine AtT.kload tk23 ?_
  first | refine AtT.klenS Try.underlying23 ?_ | refine AtT.klenR Try.underlying23 ?_
  refine AtT.kmove ?_
  refine AtT.done ?_
  refine At.nrm ?_
  refine At.lp (ι := Nat) (KS := fun k => [(1, .pointer (some ⟨b1, 0, none⟩)), (18, .slice a1 R.low.length c1), (19, iv R.low.length), (20, iv k)]) (OS := fun _ => [.blk b1 (LC [.slice a R.pl.length c, .slice a1 R.low.length c1, .slice a2 R.high.length c2] 53)])
    (VS := fun k V' => V12 = V' ∧ k ≤ R.low.length ∧ ((R.low.take k).zip (R.high.take k)).any (fun p => decide (p.2.lo < p.1.hi)) = false) (μ := fun k => R.low.length - k) 0 ?_ ?_ ?_ ?_
  · exact ⟨rfl, rfl, rfl, rfl, trivial⟩
  · exact Pt.auto
  · exact ⟨rfl, Nat.zero_le _, rfl⟩
  · rintro k V' ks' O' ⟨rfl, hkl, hany⟩ hk hO hl
    subst hk hO
    refine At.nrm ?_
    refine At.ktext (.q 0 .done) ?_
    refine AtT.klss ?_
    refine AtT.done ?_
    refine At.nrm ?_
    refine At.condP rfl (fun hp => ?_) (fun hp => ?_)
    · obtain ⟨x, hx⟩ : ∃ x, R.low[k]? = some x := ⟨_, List.getElem?_eq_getElem (by omega)⟩
      obtain ⟨y, hy⟩ : ∃ y, R.high[k]? = some y := ⟨_, List.getElem?_eq_getElem (by omega)⟩
      have hz := zip_take hx hy
      refine At.nrm ?_
      refine At.ktext (.q 0 (.q 1 (.q 2 (.n false 3 (.q 4 (.n true 5 .done)))))) ?_
      refine AtT.kmove ?_
      refine AtT.kidx Try.underlying23 tk69 ?_
      intro p23 e23 he23 hc23
      obtain rfl : e23 = x := by have : R.low[k]? = some e23 := (by simpa using he23); rw [hx] at this; simpa using this.symm
      first | refine AtT.kloadOA tk69 ?_ | refine AtT.kloadA tk69 ?_ | refine AtT.kloadOP tk69 ?_
      refine AtT.kalloc z69 ?_
      intro b5
      refine AtT.kassign ?_
      refine AtT.kstoreA tk69 ?_
      refine AtT.done ?_
      refine At.nrm ?_
      refine At.draw (.q 0 (.q 1 (.q 2 (.q 3 (.q 4 (.q 5 (.q 6 (.q 7 (.q 8 .done))))))))) ffm (by kernel_rfl) ?_
      first | refine AtT.kfieldO fo69_1 ?_ | with_reducible refine AtT.kfield2 fo69_1 ?_ | refine AtT.kfield fo69_1 ?_
      first | refine AtT.kloadO tk2 ?_ | refine AtT.kload tk2 ?_
      first | refine AtT.kfieldO fo53_2 ?_ | with_reducible refine AtT.kfield2 fo53_2 ?_ | refine AtT.kfield fo53_2 ?_
      first | refine AtT.kloadO tk23 ?_ | refine AtT.kload tk23 ?_
      refine AtT.kmove ?_
      refine AtT.kidx Try.underlying23 tk69 ?_
      intro p30 e30 he30 hc30
      obtain rfl : e30 = y := by have : R.high[k]? = some e30 := (by simpa using he30); rw [hy] at this; simpa using this.symm
      first | refine AtT.kfieldO fo69_0 ?_ | with_reducible refine AtT.kfield2 fo69_0 ?_ | refine AtT.kfield fo69_0 ?_
      first | refine AtT.kloadO tk2 ?_ | refine AtT.kload tk2 ?_
      refine AtT.kgtr ?_
      refine AtT.done ?_
      refine At.nrm ?_
      refine At.condP rfl (fun hc => ?_) (fun hc => ?_)
      · refine At.nrm ?_
        refine At.ktext (.q 0 .done) ?_
        refine AtT.kassign ?_
        refine AtT.done ?_
        refine At.nrm ?_
        refine At.ret1 rfl (.tmp rfl) ?_
        rw [roughE, if_neg (by simp [he]), if_pos]
        refine List.any_eq_true.2 ⟨(e23, e30), ?_, by simpa using hc⟩
        have : (R.low.zip R.high)[k]? = some (e23, e30) := by rw [List.getElem?_zip_eq_some]; exact ⟨hx, hy⟩
        exact List.mem_of_getElem? this
      · refine At.nrm ?_
        refine At.ktext (.q 0 (.q 1 .done)) ?_
        first | refine AtT.kadd ?_ | refine AtT.kaddW ?_
        refine AtT.kmove ?_
        refine AtT.done ?_
        refine At.nrm ?_
        refine At.round (k + 1) ?_ ?_ ?_ ?_
        · show R.low.length - (k + 1) < R.low.length - k; omega
        · refine ⟨rfl, by omega, ?_⟩
          rw [hz, List.any_append, hany]; simpa using hc
        · exact ⟨rfl, rfl, rfl, rfl, trivial⟩
        · exact Pt.auto
    · have hkk : k = R.low.length := by omega
      subst hkk
      have : R.high.take R.low.length = R.high := by rw [e1, ← e2, List.take_length]
      rw [List.take_length, this] at hany
      refine At.nrm ?_
      refine At.ktext (.q 0 .done) ?_
      refine AtT.kassign ?_
      refine AtT.done ?_
      refine At.nrm ?_
      refine At.ret1 rfl (.tmp rfl) ?_
      rw [roughE, if_neg (by simp [he]), if_neg (by rw [hany]; simp)]

theorem rcheckRough_f (R : Rough) (V : View) (v : Value) (hR : RoughV V v R) : Fnc Try.prog 40 [v] V fun v _ => v = iv (roughE R) := by
  obtain ⟨a, c, a1, c1, a2, c2, rfl, h2, h3, h4⟩ := hR
  have hl1 := h2.lenLe
  refine fn_of Try.func40 rfl Try.ntmps40 (Nat.le_of_ble_eq_true rfl) ?_
  intro w0 hw0
  refine At.nrm ?_
  refine At.ktext (.n false 0 (.q 1 .done)) ?_
  refine AtT.kbox ?_
  intro b1
  refine AtT.kassign ?_
  refine AtT.done ?_
  refine At.nrm ?_
  refine At.ktext (.q 0 (.q 1 (.q 2 (.q 3 (.q 4 (.q 5 (.n false 6 (.q 7 .done)))))))) ?_
  first | refine AtT.kfieldO fo53_0 ?_ | with_reducible refine AtT.kfield2 fo53_0 ?_ | refine AtT.kfield fo53_0 ?_
  first | refine AtT.kloadO tk22 ?_ | refine AtT.kload tk22 ?_
  first | refine AtT.kfieldO fo53_1 ?_ | with_reducible refine AtT.kfield2 fo53_1 ?_ | refine AtT.kfield fo53_1 ?_
  first | refine AtT.kloadO tk23 ?_ | refine AtT.kload tk23 ?_
  first | refine AtT.kfieldO fo53_2 ?_ | with_reducible refine AtT.kfield2 fo53_2 ?_ | refine AtT.kfield fo53_2 ?_
  first | refine AtT.kloadO tk23 ?_ | refine AtT.kload tk23 ?_
  refine AtT.kcallP rfl rfl ok62 (rplaced_f R.pl R.low R.high _ _ _ _ h2 h3 h4) ?_
  rintro _ rfl
  refine AtT.kneI ?_
  refine AtT.done ?_
  refine At.nrm ?_
  refine At.condP rfl (fun hb => ?_) (fun hb => ?_)
  · refine At.nrm ?_
    refine At.ktext (.q 0 (.q 1 (.q 2 (.q 3 (.q 4 (.q 5 (.n false 6 (.q 7 .done)))))))) ?_
    first | refine AtT.kfieldO fo53_0 ?_ | with_reducible refine AtT.kfield2 fo53_0 ?_ | refine AtT.kfield fo53_0 ?_
    first | refine AtT.kloadO tk22 ?_ | refine AtT.kload tk22 ?_
    first | refine AtT.kfieldO fo53_1 ?_ | with_reducible refine AtT.kfield2 fo53_1 ?_ | refine AtT.kfield fo53_1 ?_
    first | refine AtT.kloadO tk23 ?_ | refine AtT.kload tk23 ?_
    first | refine AtT.kfieldO fo53_2 ?_ | with_reducible refine AtT.kfield2 fo53_2 ?_ | refine AtT.kfield fo53_2 ?_
    first | refine AtT.kloadO tk23 ?_ | refine AtT.kload tk23 ?_
    refine AtT.kcallP rfl rfl ok62 (rplaced_f R.pl R.low R.high _ _ _ _ h2 h3 h4) ?_
    rintro _ rfl
    refine AtT.kassign ?_
    refine AtT.done ?_
    refine At.nrm ?_
    exact At.ret1 rfl (.tmp rfl) (by have hb' : placedE R.pl [R.low, R.high] ≠ 0 := hb; rw [roughE, if_pos hb'])
  have he : placedE R.pl [R.low, R.high] = 0 := Decidable.not_not.1 hb
  obtain ⟨e1, e2⟩ := placedE_len he
  refine At.nrm ?_
  refine At.ktext (.q 0 .done) ?_
  refine AtT.kassign ?_
  refine AtT.done ?_
  refine At.nrm ?_
  refine At.lp (ι := Nat) (KS := fun k => [(1, .pointer (some ⟨b1, 0, none⟩)), (3, iv k)]) (OS := fun _ => [.blk b1 (LC [.slice a R.pl.length c, .slice a1 R.low.length c1, .slice a2 R.high.length c2] 53)])
    (VS := fun k V' => V = V' ∧ k ≤ R.pl.length ∧ ((R.low.take k).zip (R.high.take k)).any (fun p => decide (p.2.lo < p.1.hi)) = false) (μ := fun k => R.pl.length - k) 0 ?_ ?_ ?_ ?_
  · exact ⟨rfl, rfl, trivial⟩
  · exact Pt.auto
  · exact ⟨rfl, Nat.zero_le _, rfl⟩
  · rintro k V' ks' O' ⟨rfl, hkl, hany⟩ hk hO hl
    subst hk hO
    refine At.nrm ?_
    refine At.ktext (.q 0 (.q 1 (.q 2 (.q 3 (.q 4 .done))))) ?_
    refine AtT.kmove ?_
    first | refine AtT.kfieldO fo53_0 ?_ | with_reducible refine AtT.kfield2 fo53_0 ?_ | refine AtT.kfield fo53_0 ?_
    first | refine AtT.kloadO tk22 ?_ | refine AtT.kload tk22 ?_
    first | refine AtT.klenS Try.underlying22 ?_ | refine AtT.klenR Try.underlying22 ?_
    refine AtT.klss ?_
    refine AtT.done ?_
    refine At.nrm ?_
    refine At.condP rfl (fun hp => ?_) (fun hp => ?_)
    · obtain ⟨x, hx⟩ : ∃ x, R.low[k]? = some x := ⟨_, List.getElem?_eq_getElem (by omega)⟩
      obtain ⟨y, hy⟩ : ∃ y, R.high[k]? = some y := ⟨_, List.getElem?_eq_getElem (by omega)⟩
      have hz := zip_take hx hy
      refine At.nrm ?_
      refine At.draw (.q 0 (.q 1 (.q 2 (.q 3 (.q 4 (.q 5 (.q 6 (.q 7 (.q 8 (.q 9 (.q 10 (.q 11 (.q 12 .done))))))))))))) ffm (by kernel_rfl) ?_
      first | refine AtT.kfieldO fo53_1 ?_ | with_reducible refine AtT.kfield2 fo53_1 ?_ | refine AtT.kfield fo53_1 ?_
      first | refine AtT.kloadO tk23 ?_ | refine AtT.kload tk23 ?_
      refine AtT.kmove ?_
      refine AtT.kidx Try.underlying23 tk69 ?_
      intro p29 e29 he29 hc29
      obtain rfl : e29 = x := by have : R.low[k]? = some e29 := (by simpa using he29); rw [hx] at this; simpa using this.symm
      first | refine AtT.kfieldO fo69_1 ?_ | with_reducible refine AtT.kfield2 fo69_1 ?_ | refine AtT.kfield fo69_1 ?_
      first | refine AtT.kloadO tk2 ?_ | refine AtT.kload tk2 ?_
      first | refine AtT.kfieldO fo53_2 ?_ | with_reducible refine AtT.kfield2 fo53_2 ?_ | refine AtT.kfield fo53_2 ?_
      first | refine AtT.kloadO tk23 ?_ | refine AtT.kload tk23 ?_
      refine AtT.kmove ?_
      refine AtT.kidx Try.underlying23 tk69 ?_
      intro p35 e35 he35 hc35
      obtain rfl : e35 = y := by have : R.high[k]? = some e35 := (by simpa using he35); rw [hy] at this; simpa using this.symm
      first | refine AtT.kfieldO fo69_0 ?_ | with_reducible refine AtT.kfield2 fo69_0 ?_ | refine AtT.kfield fo69_0 ?_
      first | refine AtT.kloadO tk2 ?_ | refine AtT.kload tk2 ?_
      refine AtT.kgtr ?_
      refine AtT.done ?_
      refine At.nrm ?_
      refine At.condP rfl (fun hc => ?_) (fun hc => ?_)
      · refine At.nrm ?_
        refine At.ktext (.q 0 .done) ?_
        refine AtT.kassign ?_
        refine AtT.done ?_
        refine At.nrm ?_
        refine At.ret1 rfl (.tmp rfl) ?_
        rw [roughE, if_neg (by simp [he]), if_pos]
        refine List.any_eq_true.2 ⟨(e29, e35), ?_, by simpa using hc⟩
        have : (R.low.zip R.high)[k]? = some (e29, e35) := by rw [List.getElem?_zip_eq_some]; exact ⟨hx, hy⟩
        exact List.mem_of_getElem? this
      · refine At.nrm ?_
        refine At.ktext (.q 0 (.q 1 (.q 2 .done))) ?_
        refine AtT.kmove ?_
        first | refine AtT.kadd ?_ | refine AtT.kaddW ?_
        refine AtT.kassign ?_
        refine AtT.done ?_
        refine At.nrm ?_
        refine At.round (k + 1) ?_ ?_ ?_ ?_
        · show R.pl.length - (k + 1) < R.pl.length - k; omega
        · refine ⟨rfl, by omega, ?_⟩
          rw [hz, List.any_append, hany]; simpa using hc
        · exact ⟨rfl, rfl, trivial⟩
        · exact Pt.auto
    · have hkk : k = R.pl.length := by omega
      subst hkk
      have t1 : R.high.take R.pl.length = R.high := by rw [← e2, List.take_length]
      have t2 : R.low.take R.pl.length = R.low := by rw [← e1, List.take_length]
      rw [t1, t2] at hany
      refine At.nrm ?_
      refine At.ktext (.q 0 .done) ?_
      refine AtT.kassign ?_
      refine AtT.done ?_
      refine At.nrm ?_
      refine At.ret1 rfl (.tmp rfl) ?_
      rw [roughE, if_neg (by simp [he]), if_neg (by rw [hany]; simp)]
end Go.Proofs.Ytnionkopmncopaa
namespace Go.Pl

def innR (x y : Rg) : Rg := ⟨x.hi, y.lo⟩
def outR (x y : Rg) : Rg := ⟨x.lo, y.hi⟩
/-- The log of a rough one that has the least wood, or the most. -/
def truthL (R : Rough) (most : Bool) : Lg := ⟨R.pl, List.zipWith (if most then outR else innR) R.low R.high⟩
/-- The first k are told. -/
def tellK (f : Rg → Rg → Rg) (low high : List Rg) : Nat → List Rg
  | 0 => low
  | k + 1 => (tellK f low high k).set k (f (low.getD k ⟨0, 0⟩) (high.getD k ⟨0, 0⟩))
theorem tellK_len (f : Rg → Rg → Rg) (low high : List Rg) : ∀ k, (tellK f low high k).length = low.length
  | 0 => rfl
  | k + 1 => by simp [tellK, tellK_len f low high k]
theorem tellK_at (f : Rg → Rg → Rg) (low high : List Rg) : ∀ (k i : Nat), i < low.length → (tellK f low high k)[i]? = if i < k then some (f (low.getD i ⟨0, 0⟩) (high.getD i ⟨0, 0⟩)) else low[i]?
  | 0, i, _ => by simp [tellK]
  | k + 1, i, h => by
    simp only [tellK, List.getElem?_set]
    by_cases c : k = i
    · subst c; simp [tellK_len, h]
    · rw [if_neg c, tellK_at f low high k i h]
      by_cases d : i < k
      · simp [d, show i < k + 1 by omega]
      · simp [d, show ¬ i < k + 1 by omega]
theorem tellK_end (f : Rg → Rg → Rg) {low high : List Rg} (h : high.length = low.length) : tellK f low high low.length = List.zipWith f low high := by
  apply List.ext_getElem?
  intro i
  by_cases c : i < low.length
  · rw [tellK_at f low high _ i c, if_pos c, List.getElem?_zipWith]
    have c2 : i < high.length := by omega
    simp [List.getD, List.getElem?_eq_getElem c, List.getElem?_eq_getElem c2]
  · rw [List.getElem?_eq_none (by rw [tellK_len]; omega), List.getElem?_eq_none (by rw [List.length_zipWith]; omega)]

theorem placed_part {pl : List Int} {a b : List Rg} (h0 : placedE pl [a, b] = 0) {x : List Rg} (hx : x = a ∨ x = b) : placedE pl [x] = 0 := by
  rw [← placedE_two, placedE_one]
  rw [placedE_one] at h0
  by_cases c1 : (pl.length : Int) < 2 ∨ 8 < (pl.length : Int)
  · rw [if_pos c1] at h0; cases h0
  rw [if_neg c1] at h0 ⊢
  by_cases c2 : a.length ≠ pl.length ∨ b.length ≠ pl.length
  · rw [if_pos c2] at h0; cases h0
  rw [if_neg c2] at h0
  have hl : x.length = pl.length := by rcases hx with rfl | rfl <;> omega
  rw [if_neg (by omega)]
  by_cases c3 : (∃ i : Nat, i < pl.length ∧ (pl.getD i 0 < 0 ∨ 100 < pl.getD i 0 ∨ strayB (a.getD i ⟨0, 0⟩) = true ∨ strayB (b.getD i ⟨0, 0⟩) = true))
  · rw [if_pos c3] at h0; cases h0
  rw [if_neg c3] at h0
  rw [if_neg]
  · exact h0
  · rintro ⟨i, hi, h⟩
    refine c3 ⟨i, hi, ?_⟩
    rcases hx with rfl | rfl <;> rcases h with h | h | h | h <;> first | exact .inl h | exact .inr (.inl h) | exact .inr (.inr (.inl h)) | exact .inr (.inr (.inr h))
theorem roughE_ok {R : Rough} (h : roughE R = 0) : R.low.length = R.pl.length ∧ R.high.length = R.pl.length ∧ LgOk ⟨R.pl, R.low⟩ ∧ LgOk ⟨R.pl, R.high⟩ ∧
    ∀ (i : Nat) (x y : Rg), R.low[i]? = some x → R.high[i]? = some y → x.hi ≤ y.lo := by
  unfold roughE at h
  by_cases c : placedE R.pl [R.low, R.high] ≠ 0
  · rw [if_pos c] at h; exact absurd h c
  rw [if_neg c] at h
  have h0 : placedE R.pl [R.low, R.high] = 0 := Decidable.not_not.1 c
  have key : logE ⟨R.pl, R.low⟩ = 0 ∧ logE ⟨R.pl, R.high⟩ = 0 := ⟨placed_part h0 (.inl rfl), placed_part h0 (.inr rfl)⟩
  have k1 := logE_ok key.1
  have k2 := logE_ok key.2
  refine ⟨k1.el, k2.el, k1, k2, fun i x y hx hy => ?_⟩
  by_cases c5 : (R.low.zip R.high).any (fun p => decide (p.2.lo < p.1.hi)) = true
  · rw [if_pos c5] at h; cases h
  · have : (R.low.zip R.high)[i]? = some (x, y) := by rw [List.getElem?_zip_eq_some]; exact ⟨hx, hy⟩
    have hm := List.mem_of_getElem? this
    have h6 := mt (fun hlt : y.lo < x.hi => List.any_eq_true.2 ⟨(x, y), hm, by simpa using hlt⟩) c5
    omega
theorem truth_ok {R : Rough} (h : roughE R = 0) (most : Bool) : LgOk (truthL R most) := by
  obtain ⟨e1, e2, k1, k2, hle⟩ := roughE_ok h
  refine ⟨k1.n2, k1.n8, ?_, k1.at0, fun r hr => ?_, k1.inc⟩
  · show (List.zipWith _ R.low R.high).length = R.pl.length
    rw [List.length_zipWith]; omega
  · obtain ⟨i, hi⟩ := List.getElem?_of_mem hr
    simp only [truthL, List.getElem?_zipWith] at hi
    cases hx : R.low[i]? with
    | none => rw [hx] at hi; cases hi
    | some x =>
      cases hy : R.high[i]? with
      | none => rw [hx, hy] at hi; cases hi
      | some y =>
        rw [hx, hy] at hi
        simp only [Option.some.injEq] at hi
        have a1 := k1.edge x (List.mem_of_getElem? hx)
        have a2 := k2.edge y (List.mem_of_getElem? hy)
        have a3 := hle i x y hx hy
        subst hi
        cases most <;> simp [innR, outR] <;> omega
end Go.Pl
set_option linter.unusedVariables false
namespace Go.Proofs.Ytnionkopmncopaa
open Go.Lw Go.Pl Go.RowKit

def spanR (R : Rough) : Rt × Rt × Int := if roughE R ≠ 0 then (⟨0, 0⟩, ⟨0, 0⟩, roughE R) else (bestV (truthL R false), bestV (truthL R true), 0)

theorem span_p (R : Rough) (V : View) (v : Value) (hR : RoughV V v R) : Fnc Try.prog 37 [v] V fun r _ => r = .tuple #[rtv (spanR R).1, rtv (spanR R).2.1, iv (spanR R).2.2] := by
  have hR' := hR
  obtain ⟨a, c, a1, c1, a2, c2, rfl, h2, h3, h4⟩ := hR
  have hl1 := h2.lenLe
  refine fn_of Try.func37 rfl Try.ntmps37 (Nat.le_of_ble_eq_true rfl) ?_
  intro w0 hw0
  refine At.nrm ?_
  refine At.ktext (.n false 0 (.n false 1 (.n false 2 (.q 3 .done)))) ?_
  refine AtT.kbox ?_
  intro b1
  refine AtT.kalloc z31 ?_
  intro b2
  refine AtT.kalloc z31 ?_
  intro b3
  refine AtT.kassign ?_
  refine AtT.done ?_
  refine At.nrm ?_
  refine At.ktext (.q 0 (.n false 1 (.q 2 .done))) ?_
  first | refine AtT.kloadOA tk53 ?_ | refine AtT.kloadA tk53 ?_ | refine AtT.kloadOP tk53 ?_
  refine AtT.kcallP rfl rfl ok39 (checkRough_f R _ _ hR') ?_
  rintro _ rfl
  refine AtT.kassign ?_
  refine AtT.done ?_
  refine At.nrm ?_
  refine At.ktext (.q 0 (.q 1 .done)) ?_
  refine AtT.kmove ?_
  refine AtT.kneI ?_
  refine AtT.done ?_
  refine At.nrm ?_
  refine At.condP rfl (fun hb => ?_) (fun hb => ?_)
  · refine At.nrm ?_
    refine At.ktext (.q 0 (.q 1 (.q 2 (.n true 3 (.n true 4 (.q 5 .done)))))) ?_
    refine AtT.kbuild (bd31) ?_
    refine AtT.kbuild (bd31) ?_
    refine AtT.kmove ?_
    refine AtT.kstoreA tk31 ?_
    refine AtT.kstoreA tk31 ?_
    refine AtT.kassign ?_
    refine AtT.done ?_
    refine At.nrm ?_
    refine At.ret3 rfl (.agg rfl tk31 Pick.auto rfl) (.agg rfl tk31 Pick.auto rfl) (.tmp rfl) ?_
    rw [spanR, if_pos hb]
  have he : roughE R = 0 := Decidable.not_not.1 hb
  obtain ⟨e1, e2, k1, k2, hle⟩ := roughE_ok he
  have hn8 := k1.n8
  dsimp only at hn8
  refine At.nrm ?_
  refine At.cutG (ι := Nat × Nat) (fun g => [(1, .pointer (some ⟨b1, 0, none⟩)), (2, .pointer (some ⟨b2, 0, none⟩)), (3, .pointer (some ⟨b3, 0, none⟩)), (6, .slice (some ⟨g.1, 0, none⟩) R.low.length R.low.length), (7, .slice (some ⟨g.2, 0, none⟩) R.low.length R.low.length)])
    (fun g => [.blk b1 (LC [.slice a R.pl.length c, .slice a1 R.low.length c1, .slice a2 R.high.length c2] 53), .blk b2 (LC [iv 0, iv 0] 31), .blk b3 (LC [iv 0, iv 0] 31), .blk g.1 (LC (flat rge (List.replicate R.low.length ⟨0, 0⟩)) 69), .blk g.2 (LC (flat rge (List.replicate R.low.length ⟨0, 0⟩)) 69)]) (fun _ V' => V = V') ?_ ?_
  · refine At.draw (.q 0 (.q 1 (.q 2 (.q 4 (.q 5 (.q 6 (.two 3 (.q 8 (.n false 7 (.q 9 .done))) 7 (.n false 3 (.q 8 (.q 9 .done)))))))))) ffm (by kernel_rfl) ?_
    first | refine AtT.kfieldO fo53_0 ?_ | with_reducible refine AtT.kfield2 fo53_0 ?_ | refine AtT.kfield fo53_0 ?_
    first | refine AtT.kloadO tk22 ?_ | refine AtT.kload tk22 ?_
    first | refine AtT.klenS Try.underlying22 ?_ | refine AtT.klenR Try.underlying22 ?_
    first | refine AtT.kfieldO fo53_0 ?_ | with_reducible refine AtT.kfield2 fo53_0 ?_ | refine AtT.kfield fo53_0 ?_
    first | refine AtT.kloadO tk22 ?_ | refine AtT.kload tk22 ?_
    first | refine AtT.klenS Try.underlying22 ?_ | refine AtT.klenR Try.underlying22 ?_
    refine AtT.two ?_ ?_
    focus
      refine AtT.makeSl rfl trivial rge rfl Try.underlying23 rw69 rfl rfl (by decide) rfl rfl (by omega) (by omega) (by decide) (za := (⟨0, 0⟩ : Rg)) ?_
      intro b22
      refine AtT.kassign ?_
      refine AtT.makeSl rfl trivial rge rfl Try.underlying23 rw69 rfl rfl (by decide) rfl rfl (by omega) (by omega) (by decide) (za := (⟨0, 0⟩ : Rg)) ?_
      intro b26
      refine AtT.kassign ?_
      refine AtT.done ?_
    rotate_right
    focus
      refine AtT.makeSl rfl trivial rge rfl Try.underlying23 rw69 rfl rfl (by decide) rfl rfl (by omega) (by omega) (by decide) (za := (⟨0, 0⟩ : Rg)) ?_
      intro b26
      refine AtT.makeSl rfl trivial rge rfl Try.underlying23 rw69 rfl rfl (by decide) rfl rfl (by omega) (by omega) (by decide) (za := (⟨0, 0⟩ : Rg)) ?_
      intro b22
      refine AtT.kassign ?_
      refine AtT.kassign ?_
      refine AtT.done ?_
    all_goals (refine At.nrm ?_)
    all_goals (refine At.meetG (b22, b26) rfl ⟨rfl, rfl, rfl, by rw [e1]; rfl, by rw [e1]; rfl, trivial⟩ ?_)
    all_goals (dsimp only; rw [e1])
    all_goals (repeat (first | exact Pt.nil | refine Pt.cons Pick.auto ?_))
  rintro ⟨b22, b26⟩ _ ks' O' rfl hk hO hl
  dsimp only at hk hO
  subst hk hO
  have hlen0 : (flat rge (List.replicate R.low.length (⟨0, 0⟩ : Rg))).length = R.low.length * 2 := by rw [flat_len rge_len]; simp
  refine At.nrm ?_
  refine At.ktext (.q 0 (.q 1 (.q 2 (.n true 3 .done)))) ?_
  refine AtT.kmove ?_
  first | refine AtT.kfieldO fo53_1 ?_ | with_reducible refine AtT.kfield2 fo53_1 ?_ | refine AtT.kfield fo53_1 ?_
  first | refine AtT.kloadO tk23 ?_ | refine AtT.kload tk23 ?_
  refine AtT.copyO rfl trivial Try.underlying23 tk69 rfl rfl h3 rge_len (fun _ => rfl) hlen0 (by repeat (first | exact Upd.here | apply Upd.there)) (by decide) ?_
  refine AtT.done ?_
  refine At.nrm ?_
  refine At.ktext (.q 0 (.q 1 (.q 2 (.n true 3 .done)))) ?_
  refine AtT.kmove ?_
  first | refine AtT.kfieldO fo53_1 ?_ | with_reducible refine AtT.kfield2 fo53_1 ?_ | refine AtT.kfield fo53_1 ?_
  first | refine AtT.kloadO tk23 ?_ | refine AtT.kload tk23 ?_
  refine AtT.copyO rfl trivial Try.underlying23 tk69 rfl rfl h3 rge_len (fun _ => rfl) hlen0 (by repeat (first | exact Upd.here | apply Upd.there)) (by decide) ?_
  refine AtT.done ?_
  refine At.nrm ?_
  refine At.ktext (.q 0 (.q 1 (.q 2 (.q 3 .done)))) ?_
  first | refine AtT.kfieldO fo53_2 ?_ | with_reducible refine AtT.kfield2 fo53_2 ?_ | refine AtT.kfield fo53_2 ?_
  first | refine AtT.kloadO tk23 ?_ | refine AtT.kload tk23 ?_
  first | refine AtT.klenS Try.underlying23 ?_ | refine AtT.klenR Try.underlying23 ?_
  refine AtT.kmove ?_
  refine AtT.done ?_
  refine At.nrm ?_
  refine At.lp (ι := Nat) (KS := fun k => [(1, .pointer (some ⟨b1, 0, none⟩)), (2, .pointer (some ⟨b2, 0, none⟩)), (3, .pointer (some ⟨b3, 0, none⟩)), (6, .slice (some ⟨b22, 0, none⟩) R.low.length R.low.length), (7, .slice (some ⟨b26, 0, none⟩) R.low.length R.low.length), (36, .slice a2 R.high.length c2), (37, iv R.high.length), (38, iv k)])
    (OS := fun k => [.blk b1 (LC [.slice a R.pl.length c, .slice a1 R.low.length c1, .slice a2 R.high.length c2] 53), .blk b2 (LC [iv 0, iv 0] 31), .blk b3 (LC [iv 0, iv 0] 31), .blk b22 (LC (flat rge (tellK innR R.low R.high k)) 69), .blk b26 (LC (flat rge (tellK outR R.low R.high k)) 69)])
    (VS := fun k V' => V = V' ∧ k ≤ R.high.length) (μ := fun k => R.high.length - k) 0 ?_ ?_ ?_ ?_
  · exact ⟨rfl, rfl, rfl, rfl, rfl, rfl, rfl, rfl, trivial⟩
  · exact Pt.auto
  · exact ⟨rfl, Nat.zero_le _⟩
  · rintro k V' ks' O' ⟨rfl, hkl⟩ hk hO hl
    subst hk hO
    refine At.nrm ?_
    refine At.ktext (.q 0 .done) ?_
    refine AtT.klss ?_
    refine AtT.done ?_
    refine At.nrm ?_
    refine At.condP rfl (fun hb => ?_) (fun hb => ?_)
    · obtain ⟨x, hx⟩ : ∃ x, R.low[k]? = some x := ⟨_, List.getElem?_eq_getElem (by omega)⟩
      obtain ⟨y, hy⟩ : ∃ y, R.high[k]? = some y := ⟨_, List.getElem?_eq_getElem (by omega)⟩
      have t1 : (tellK innR R.low R.high k)[k]? = some x := by rw [tellK_at _ _ _ _ _ (by omega), if_neg (by omega), hx]
      have t2 : (tellK outR R.low R.high k)[k]? = some x := by rw [tellK_at _ _ _ _ _ (by omega), if_neg (by omega), hx]
      have g1 : R.low.getD k ⟨0, 0⟩ = x := by simp [List.getD, hx]
      have g2 : R.high.getD k ⟨0, 0⟩ = y := by simp [List.getD, hy]
      have l1 := tellK_len innR R.low R.high k
      have l2 := tellK_len outR R.low R.high k
      have f1 : (flat rge (tellK innR R.low R.high k)).length = R.low.length * 2 := by rw [flat_len rge_len, l1]
      have f2 : (flat rge (tellK outR R.low R.high k)).length = R.low.length * 2 := by rw [flat_len rge_len, l2]
      have q1 : (flat rge (tellK innR R.low R.high k))[k * 2 + 1]? = some (iv x.hi) := flat_at rge_len _ _ _ t1 1 _ rfl
      have s1 := flat_set rge_len (tellK innR R.low R.high k) k (innR x y) (by omega)
      have s2 := flat_set1 rge_len (tellK outR R.low R.high k) k 1 x (outR x y) (iv y.hi) t2 (by decide) rfl
      have n1 : tellK innR R.low R.high (k + 1) = (tellK innR R.low R.high k).set k (innR x y) := by rw [tellK, g1, g2]
      have n2 : tellK outR R.low R.high (k + 1) = (tellK outR R.low R.high k).set k (outR x y) := by rw [tellK, g1, g2]
      refine At.nrm ?_
      refine At.ktext (.q 0 (.q 1 (.q 2 (.n false 3 (.q 4 (.n true 5 .done)))))) ?_
      refine AtT.kmove ?_
      refine AtT.kidx Try.underlying23 tk69 ?_
      intro p41 e41 he41 hc41
      obtain rfl : e41 = y := by have : R.high[k]? = some e41 := (by simpa using he41); rw [hy] at this; simpa using this.symm
      first | refine AtT.kloadOA tk69 ?_ | refine AtT.kloadA tk69 ?_ | refine AtT.kloadOP tk69 ?_
      refine AtT.kalloc z69 ?_
      intro b9
      refine AtT.kassign ?_
      refine AtT.kstoreA tk69 ?_
      refine AtT.done ?_
      refine At.nrm ?_
      refine At.draw (.q 0 (.q 1 (.q 2 (.q 3 (.q 4 (.q 5 (.q 6 (.q 7 (.q 8 (.q 9 (.q 10 (.n true 11 .done)))))))))))) ffm (by kernel_rfl) ?_
      refine AtT.kmove ?_
      refine AtT.kmove ?_
      refine AtT.kmove ?_
      refine AtT.kmove ?_
      refine AtT.kidxO Try.underlying23 tk69 ?_
      refine AtT.re (d := 47) rfl (v' := .pointer (some ⟨b22, k * 2, none⟩)) (by simp) ?_
      first | refine AtT.kfieldO fo69_1 ?_ | with_reducible refine AtT.kfield2 fo69_1 ?_ | refine AtT.kfield fo69_1 ?_
      refine AtT.loadO rfl trivial rfl tk2 Pick.auto q1 (by decide) ?_
      first | refine AtT.kfieldO fo69_0 ?_ | with_reducible refine AtT.kfield2 fo69_0 ?_ | refine AtT.kfield fo69_0 ?_
      first | refine AtT.kloadO tk2 ?_ | refine AtT.kload tk2 ?_
      refine AtT.kbuild (bd69_0_1 _ _) ?_
      refine AtT.kidxO Try.underlying23 tk69 ?_
      refine AtT.re (d := 53) rfl (v' := .pointer (some ⟨b22, k * 2, none⟩)) (by simp) ?_
      refine AtT.store rfl trivial rfl rfl tk69 rfl rfl (by simp; omega) rfl s1 (by repeat (first | exact Upd.here | apply Upd.there)) ?_
      refine AtT.done ?_
      refine At.nrm ?_
      refine At.ktext (.q 0 (.q 1 (.q 2 (.q 3 (.q 4 (.q 5 (.n true 6 .done))))))) ?_
      refine AtT.kmove ?_
      refine AtT.kmove ?_
      first | refine AtT.kfieldO fo69_1 ?_ | with_reducible refine AtT.kfield2 fo69_1 ?_ | refine AtT.kfield fo69_1 ?_
      first | refine AtT.kloadO tk2 ?_ | refine AtT.kload tk2 ?_
      refine AtT.kidxO Try.underlying23 tk69 ?_
      refine AtT.re (d := 58) rfl (v' := .pointer (some ⟨b26, k * 2, none⟩)) (by simp) ?_
      first | refine AtT.kfieldO fo69_1 ?_ | with_reducible refine AtT.kfield2 fo69_1 ?_ | refine AtT.kfield fo69_1 ?_
      refine AtT.store1 rfl trivial rfl rfl tk2 rfl rfl (by repeat (first | exact Upd.here | apply Upd.there)) (setAt_of (by omega) s2) ?_
      refine AtT.done ?_
      refine At.nrm ?_
      refine At.ktext (.q 0 (.q 1 .done)) ?_
      first | refine AtT.kadd ?_ | refine AtT.kaddW ?_
      refine AtT.kmove ?_
      refine AtT.done ?_
      refine At.nrm ?_
      refine At.round (k + 1) ?_ ?_ ?_ ?_
      · show R.high.length - (k + 1) < R.high.length - k; omega
      · exact ⟨rfl, by omega⟩
      · exact ⟨rfl, rfl, rfl, rfl, rfl, rfl, rfl, rfl, trivial⟩
      rw [n1, n2]
      · exact Pt.auto
    · have hk : k = R.low.length := by omega
      subst hk
      have hz1 := tellK_end innR (low := R.low) (high := R.high) (by omega)
      have hz2 := tellK_end outR (low := R.low) (high := R.high) (by omega)
      have hzl1 : (List.zipWith innR R.low R.high).length = R.low.length := by rw [List.length_zipWith]; omega
      have hzl2 : (List.zipWith outR R.low R.high).length = R.low.length := by rw [List.length_zipWith]; omega
      rw [hz1, hz2]
      refine At.nrm ?_
      refine At.cutG (ι := Nat × Nat) (fun g => [(2, .pointer (some ⟨b2, 0, none⟩)), (3, .pointer (some ⟨b3, 0, none⟩)), (10, .pointer (some ⟨g.1, 0, none⟩)), (11, .pointer (some ⟨g.2, 0, none⟩))])
        (fun g => [.blk b2 (LC [iv 0, iv 0] 31), .blk b3 (LC [iv 0, iv 0] 31), .blk b22 (LC (flat rge (List.zipWith innR R.low R.high)) 69), .blk b26 (LC (flat rge (List.zipWith outR R.low R.high)) 69), .blk g.1 (LC [.slice a R.pl.length c, .slice (some ⟨b22, 0, none⟩) R.low.length R.low.length] 106), .blk g.2 (LC [.slice a R.pl.length c, .slice (some ⟨b26, 0, none⟩) R.low.length R.low.length] 106)]) (fun _ V' => V = V') ?_ ?_
      · refine At.draw (.q 0 (.q 1 (.q 2 (.q 3 (.q 4 (.q 6 (.q 7 (.q 8 (.q 9 (.q 10 (.two 5 (.q 12 (.n false 11 (.q 13 .done))) 11 (.n false 5 (.q 12 (.q 13 .done)))))))))))))) ffm (by kernel_rfl) ?_
        first | refine AtT.kfieldO fo53_0 ?_ | with_reducible refine AtT.kfield2 fo53_0 ?_ | refine AtT.kfield fo53_0 ?_
        first | refine AtT.kloadO tk22 ?_ | refine AtT.kload tk22 ?_
        refine AtT.kmove ?_
        refine AtT.kbuild (bd25_0_1 _ _ _ _ _ _) ?_
        refine AtT.kbuild (bd106_0 _ _ _ _ _ _) ?_
        first | refine AtT.kfieldO fo53_0 ?_ | with_reducible refine AtT.kfield2 fo53_0 ?_ | refine AtT.kfield fo53_0 ?_
        first | refine AtT.kloadO tk22 ?_ | refine AtT.kload tk22 ?_
        refine AtT.kmove ?_
        refine AtT.kbuild (bd25_0_1 _ _ _ _ _ _) ?_
        refine AtT.kbuild (bd106_0 _ _ _ _ _ _) ?_
        refine AtT.two ?_ ?_
        focus
          refine AtT.kbox ?_
          intro b66
          refine AtT.kassign ?_
          refine AtT.kbox ?_
          intro b72
          refine AtT.kassign ?_
          refine AtT.done ?_
        rotate_right
        focus
          refine AtT.kbox ?_
          intro b72
          refine AtT.kbox ?_
          intro b66
          refine AtT.kassign ?_
          refine AtT.kassign ?_
          refine AtT.done ?_
        all_goals (refine At.nrm ?_)
        all_goals (refine At.meetG (b66, b72) rfl ⟨rfl, rfl, rfl, rfl, trivial⟩ ?_)
        all_goals (repeat (first | exact Pt.nil | refine Pt.cons Pick.auto ?_))
      rintro ⟨b66, b72⟩ _ ks' O' rfl hk hO hl
      dsimp only at hk hO
      subst hk hO
      refine At.giveB (b := b22) Pick.auto ?_
      intro Va hVa hba
      refine At.giveB (b := b26) Pick.auto ?_
      intro Vb hVb hbb
      refine At.giveB (b := b66) Pick.auto ?_
      intro Vc hVc hbc
      refine At.giveB (b := b72) Pick.auto ?_
      intro Vd hVd hbd
      have hml : R.low.length ≤ maxLen := by unfold maxLen; omega
      have hLi : LathV Vd ⟨b66, 0, none⟩ (truthL R false) := by
        refine ⟨a, c, some ⟨b22, 0, none⟩, R.low.length, ?_, h2.le (hVa.trans (hVb.trans (hVc.trans hVd))), ?_⟩
        · show Cells Vd _ [.slice a R.pl.length c, .slice _ (List.zipWith innR R.low R.high).length _]
          rw [hzl1]
          exact (cells_blk hbc).le hVd
        · exact Sl.of_cells (l := List.zipWith innR R.low R.high) rge_len ((cells_blk hba).le (hVb.trans (hVc.trans hVd))) (by rw [hzl1]; exact Nat.le_refl _) hml
      have hLo : LathV Vd ⟨b72, 0, none⟩ (truthL R true) := by
        refine ⟨a, c, some ⟨b26, 0, none⟩, R.low.length, ?_, h2.le (hVa.trans (hVb.trans (hVc.trans hVd))), ?_⟩
        · show Cells Vd _ [.slice a R.pl.length c, .slice _ (List.zipWith outR R.low R.high).length _]
          rw [hzl2]
          exact cells_blk hbd
        · exact Sl.of_cells (l := List.zipWith outR R.low R.high) rge_len ((cells_blk hbb).le (hVc.trans hVd)) (by rw [hzl2]; exact Nat.le_refl _) hml
      refine At.nrm ?_
      refine At.ktext (.q 0 (.n false 1 (.q 2 (.n false 3 (.n true 4 (.n true 5 (.q 6 .done))))))) ?_
      refine AtT.kmove ?_
      refine AtT.kcallP rfl rfl ok64 (best_f (truthL R false) _ _ hLi (truth_ok he false)) ?_
      rintro _ rfl
      refine AtT.kmove ?_
      refine AtT.kcallP rfl rfl ok64 (best_f (truthL R true) _ _ hLo (truth_ok he true)) ?_
      rintro _ rfl
      refine AtT.kstoreA tk31 ?_
      refine AtT.kstoreA tk31 ?_
      refine AtT.kassign ?_
      refine AtT.done ?_
      refine At.nrm ?_
      refine At.ret3 rfl (.agg rfl tk31 Pick.auto rfl) (.agg rfl tk31 Pick.auto rfl) (.tmp rfl) ?_
      rw [spanR, if_neg (by simp [he])]
end Go.Proofs.Ytnionkopmncopaa
set_option linter.unusedVariables false
namespace Go.Proofs.Ytnionkopmncopaa
open Go.Lw Go.Pl Go.RowKit

theorem Sl.empty {α : Type} (V : View) (enc : α → List Value) (s : Nat) (q : Addr) : Sl V enc s (.slice (some q) 0 0) ([] : List α) :=
  ⟨some q, 0, rfl, Nat.le_refl _, Nat.zero_le _, fun h => absurd rfl h, fun _ _ i x h => by simp at h⟩

theorem truth_f (R : Rough) (most : Bool) (V : View) (v : Value) (hR : RoughV V v R) (he : roughE R = 0) : Fnc Try.prog 73 [v, .bool most] V fun r V' => LogV V' r (truthL R most) := by
  obtain ⟨a, c, a1, c1, a2, c2, rfl, h2, h3, h4⟩ := hR
  obtain ⟨e1, e2, k1, k2, hle⟩ := roughE_ok he
  have hn8 := k1.n8
  have hn2 := k1.n2
  dsimp only at hn8 hn2
  have hne : R.pl ≠ [] := fun h => by rw [h] at hn2; simp at hn2
  obtain ⟨q0, rfl⟩ : ∃ q, a = some q := by
    obtain ⟨a', c', h, _, _, hs, _⟩ := h2
    cases h
    exact Option.isSome_iff_exists.1 (hs hne)
  generalize hed : List.zipWith (if most then outR else innR) R.low R.high = ed
  have hedl : ed.length = R.pl.length := by rw [← hed, List.length_zipWith]; omega
  refine fn_of Try.func73 rfl Try.ntmps73 (Nat.le_of_ble_eq_true rfl) ?_
  intro w0 hw0
  refine At.nrm ?_
  refine At.ktext (.n false 0 (.n false 1 .done)) ?_
  refine AtT.kbox ?_
  intro b2
  refine AtT.kalloc z25 ?_
  intro b4
  refine AtT.done ?_
  refine At.nrm ?_
  refine At.ktext (.n false 0 (.q 1 (.q 2 (.n true 3 (.q 4 (.n false 5 (.n true 6 .done))))))) ?_
  refine AtT.kbsliceG (bs22_0) ?_
  intro q8 V8 hV8 hq8
  have g8 : Le V V8 := by first | exact hV8 | exact Le.trans (by assumption) hV8
  first | refine AtT.kfieldO fo53_0 ?_ | with_reducible refine AtT.kfield2 fo53_0 ?_ | refine AtT.kfield fo53_0 ?_
  first | refine AtT.kloadO tk22 ?_ | refine AtT.kload tk22 ?_
  refine AtT.appendC rfl trivial Try.underlying22 rw2 rfl (by decide) rfl (Sl.empty _ ei 1 _) rfl rfl (Sl.cells ei_len (h2.le (by assumption))) (fun _ => rfl) hne (by unfold maxLen; simp only [List.length_nil]; omega) (by simp only [List.length_nil]; omega) (by decide) (l := ([] : List Int)) (m := R.pl) ?_
  intro a11 c11 V11 hV11 hs11
  refine AtT.kbuild (bd25_0 _ _ _) ?_
  refine AtT.kalloc z25 ?_
  intro b5
  refine AtT.kstoreA tk25 ?_
  refine AtT.done ?_
  refine At.nrm ?_
  rw [List.nil_append] at hs11
  have h3' := h3.le (hV8.trans hV11)
  have h4' := h4.le (hV8.trans hV11)
  refine At.ktext (.q 0 .done) ?_
  refine AtT.kassign ?_
  refine AtT.done ?_
  refine At.nrm ?_
  refine At.newRow 69 2 ?_
  refine At.lp (ι := Nat × Option Addr × Nat) (KS := fun g => [(1, .bool most), (2, .pointer (some ⟨b2, 0, none⟩)), (4, .pointer (some ⟨b4, 0, none⟩)), (5, .pointer (some ⟨b5, 0, none⟩)), (6, iv g.1)])
    (OS := fun g => [.blk b2 (LC [.slice (some q0) R.pl.length c, .slice a1 R.low.length c1, .slice a2 R.high.length c2] 53), .blk b4 (LC [.slice none 0 0, .slice none 0 0] 25), .blk b5 (LC [.slice a11 R.pl.length c11, .slice g.2.1 g.1 g.2.2] 25), .row (.slice g.2.1 g.1 g.2.2) 69 2 g.1 (flat rge (ed.take g.1))])
    (VS := fun g V' => Le V11 V' ∧ g.1 ≤ R.pl.length) (μ := fun g => R.pl.length - g.1) (0, none, 0) ?_ ?_ ?_ ?_
  · exact ⟨rfl, rfl, rfl, rfl, rfl, trivial⟩
  · exact Pt.auto
  · exact ⟨Le.refl _, Nat.zero_le _⟩
  · rintro ⟨k, ao, co⟩ V' ks' O' ⟨hVV, hkl⟩ hk hO hl
    dsimp only at hkl hk hO
    subst hk hO
    have h3'' := h3'.le hVV
    have h4'' := h4'.le hVV
    refine At.nrm ?_
    refine At.ktext (.q 0 (.q 1 (.q 2 (.q 3 (.q 4 .done))))) ?_
    refine AtT.kmove ?_
    first | refine AtT.kfieldO fo53_0 ?_ | with_reducible refine AtT.kfield2 fo53_0 ?_ | refine AtT.kfield fo53_0 ?_
    first | refine AtT.kloadO tk22 ?_ | refine AtT.kload tk22 ?_
    first | refine AtT.klenS Try.underlying22 ?_ | refine AtT.klenR Try.underlying22 ?_
    refine AtT.klss ?_
    refine AtT.done ?_
    refine At.nrm ?_
    refine At.condP rfl (fun hb => ?_) (fun hb => ?_)
    · obtain ⟨x, hx⟩ : ∃ x, R.low[k]? = some x := ⟨_, List.getElem?_eq_getElem (by omega)⟩
      obtain ⟨y, hy⟩ : ∃ y, R.high[k]? = some y := ⟨_, List.getElem?_eq_getElem (by omega)⟩
      have hek : ed[k]? = some ((if most then outR else innR) x y) := by rw [← hed, List.getElem?_zipWith, hx, hy]
      have htk := take_snoc' hek
      refine At.nrm ?_
      refine At.draw (.q 0 (.q 1 (.q 2 (.q 3 (.q 4 (.q 5 (.q 6 (.q 7 (.q 8 (.q 9 (.q 10 (.q 11 (.q 12 (.n false 13 (.n true 14 .done))))))))))))))) ffm (by kernel_rfl) ?_
      first | refine AtT.kfieldO fo53_1 ?_ | with_reducible refine AtT.kfield2 fo53_1 ?_ | refine AtT.kfield fo53_1 ?_
      first | refine AtT.kloadO tk23 ?_ | refine AtT.kload tk23 ?_
      refine AtT.kmove ?_
      refine AtT.kidx Try.underlying23 tk69 ?_
      intro p23 e23 he23 hc23
      obtain rfl : e23 = x := by have : R.low[k]? = some e23 := (by simpa using he23); rw [hx] at this; simpa using this.symm
      first | refine AtT.kfieldO fo69_1 ?_ | with_reducible refine AtT.kfield2 fo69_1 ?_ | refine AtT.kfield fo69_1 ?_
      first | refine AtT.kloadO tk2 ?_ | refine AtT.kload tk2 ?_
      first | refine AtT.kfieldO fo53_2 ?_ | with_reducible refine AtT.kfield2 fo53_2 ?_ | refine AtT.kfield fo53_2 ?_
      first | refine AtT.kloadO tk23 ?_ | refine AtT.kload tk23 ?_
      refine AtT.kmove ?_
      refine AtT.kidx Try.underlying23 tk69 ?_
      intro p29 e29 he29 hc29
      obtain rfl : e29 = y := by have : R.high[k]? = some e29 := (by simpa using he29); rw [hy] at this; simpa using this.symm
      first | refine AtT.kfieldO fo69_0 ?_ | with_reducible refine AtT.kfield2 fo69_0 ?_ | refine AtT.kfield fo69_0 ?_
      first | refine AtT.kloadO tk2 ?_ | refine AtT.kload tk2 ?_
      refine AtT.kbuild (bd69_0_1 _ _) ?_
      refine AtT.kalloc z69 ?_
      intro b7
      refine AtT.kstoreA tk69 ?_
      refine AtT.done ?_
      refine At.nrm ?_
      refine At.ktext (.q 0 .done) ?_
      refine AtT.kmove ?_
      refine AtT.done ?_
      refine At.nrm ?_
      refine At.cond rfl (fun hm => ?_) (fun hm => ?_)
      · subst hm
        refine At.nrm ?_
        refine At.draw (.q 0 (.q 1 (.q 2 (.q 3 (.q 4 (.q 5 (.q 6 (.q 7 (.q 8 (.q 9 (.q 10 (.q 11 (.q 12 (.n true 13 .done)))))))))))))) ffm (by kernel_rfl) ?_
        first | refine AtT.kfieldO fo53_1 ?_ | with_reducible refine AtT.kfield2 fo53_1 ?_ | refine AtT.kfield fo53_1 ?_
        first | refine AtT.kloadO tk23 ?_ | refine AtT.kload tk23 ?_
        refine AtT.kmove ?_
        refine AtT.kidx Try.underlying23 tk69 ?_
        intro p37 e37 he37 hc37
        obtain rfl : e37 = e23 := by have : R.low[k]? = some e37 := (by simpa using he37); rw [hx] at this; simpa using this.symm
        first | refine AtT.kfieldO fo69_0 ?_ | with_reducible refine AtT.kfield2 fo69_0 ?_ | refine AtT.kfield fo69_0 ?_
        first | refine AtT.kloadO tk2 ?_ | refine AtT.kload tk2 ?_
        first | refine AtT.kfieldO fo53_2 ?_ | with_reducible refine AtT.kfield2 fo53_2 ?_ | refine AtT.kfield fo53_2 ?_
        first | refine AtT.kloadO tk23 ?_ | refine AtT.kload tk23 ?_
        refine AtT.kmove ?_
        refine AtT.kidx Try.underlying23 tk69 ?_
        intro p43 e43 he43 hc43
        obtain rfl : e43 = e29 := by have : R.high[k]? = some e43 := (by simpa using he43); rw [hy] at this; simpa using this.symm
        first | refine AtT.kfieldO fo69_1 ?_ | with_reducible refine AtT.kfield2 fo69_1 ?_ | refine AtT.kfield fo69_1 ?_
        first | refine AtT.kloadO tk2 ?_ | refine AtT.kload tk2 ?_
        refine AtT.kbuild (bd69_0_1 _ _) ?_
        refine AtT.kstoreA tk69 ?_
        refine AtT.done ?_
        refine At.nrm ?_
        refine At.ktext (.q 0 (.q 1 (.q 2 (.n false 3 (.n true 4 (.q 5 (.n true 6 .done))))))) ?_
        first | refine AtT.kfieldO fo25_1 ?_ | with_reducible refine AtT.kfield2 fo25_1 ?_ | refine AtT.kfield fo25_1 ?_
        first | refine AtT.kloadO tk23 ?_ | refine AtT.kload tk23 ?_
        first | refine AtT.kloadOA tk69 ?_ | refine AtT.kloadA tk69 ?_ | refine AtT.kloadOP tk69 ?_
        refine AtT.kbsliceG (bs23_1_0 _ _) ?_
        intro q50 V50 hV50 hq50
        have g50 : Le V V50 := by first | exact hV50 | exact Le.trans (by assumption) hV50
        first | refine AtT.kappend Try.underlying23 rw69 ?_
        intro a51 c51
        first | refine AtT.kfieldO fo25_1 ?_ | with_reducible refine AtT.kfield2 fo25_1 ?_ | refine AtT.kfield fo25_1 ?_
        first | refine AtT.kstore1 tk23 ?_ | refine AtT.kstoreA tk23 ?_
        refine AtT.done ?_
        refine At.nrm ?_
        refine At.ktext (.q 0 (.q 1 (.q 2 .done))) ?_
        refine AtT.kmove ?_
        first | refine AtT.kadd ?_ | refine AtT.kaddW ?_
        refine AtT.kassign ?_
        refine AtT.done ?_
        refine At.nrm ?_
        refine At.round (k + 1, a51, c51) ?_ ?_ ?_ ?_
        · show R.pl.length - (k + 1) < R.pl.length - k; omega
        · exact ⟨hVV.trans hV50, by dsimp only; omega⟩
        · exact ⟨rfl, rfl, rfl, rfl, rfl, trivial⟩
        dsimp only
        rw [htk, flat_snoc]
        · exact Pt.auto
      · subst hm
        refine At.nrm ?_
        refine At.ktext (.q 0 (.q 1 (.q 2 (.n false 3 (.n true 4 (.q 5 (.n true 6 .done))))))) ?_
        first | refine AtT.kfieldO fo25_1 ?_ | with_reducible refine AtT.kfield2 fo25_1 ?_ | refine AtT.kfield fo25_1 ?_
        first | refine AtT.kloadO tk23 ?_ | refine AtT.kload tk23 ?_
        first | refine AtT.kloadOA tk69 ?_ | refine AtT.kloadA tk69 ?_ | refine AtT.kloadOP tk69 ?_
        refine AtT.kbsliceG (bs23_1_0 _ _) ?_
        intro q50 V50 hV50 hq50
        have g50 : Le V V50 := by first | exact hV50 | exact Le.trans (by assumption) hV50
        first | refine AtT.kappend Try.underlying23 rw69 ?_
        intro a51 c51
        first | refine AtT.kfieldO fo25_1 ?_ | with_reducible refine AtT.kfield2 fo25_1 ?_ | refine AtT.kfield fo25_1 ?_
        first | refine AtT.kstore1 tk23 ?_ | refine AtT.kstoreA tk23 ?_
        refine AtT.done ?_
        refine At.nrm ?_
        refine At.ktext (.q 0 (.q 1 (.q 2 .done))) ?_
        refine AtT.kmove ?_
        first | refine AtT.kadd ?_ | refine AtT.kaddW ?_
        refine AtT.kassign ?_
        refine AtT.done ?_
        refine At.nrm ?_
        refine At.round (k + 1, a51, c51) ?_ ?_ ?_ ?_
        · show R.pl.length - (k + 1) < R.pl.length - k; omega
        · exact ⟨hVV.trans hV50, by dsimp only; omega⟩
        · exact ⟨rfl, rfl, rfl, rfl, rfl, trivial⟩
        dsimp only
        rw [htk, flat_snoc]
        · exact Pt.auto
    · have hk : k = R.pl.length := by omega
      subst hk
      have hte : ed.take R.pl.length = ed := by rw [← hedl, List.take_length]
      rw [hte]
      refine At.nrm ?_
      refine At.ktext (.q 0 (.n true 1 .done)) ?_
      first | refine AtT.kloadOA tk25 ?_ | refine AtT.kloadA tk25 ?_ | refine AtT.kloadOP tk25 ?_
      refine AtT.kstoreA tk25 ?_
      refine AtT.done ?_
      refine At.nrm ?_
      refine At.giveSl rge_len rfl hedl.symm Pick.auto (fun V4 hV4 hs4 => ?_)
      refine At.ret1 rfl (.agg rfl tk25 Pick.auto rfl) ?_
      have hed' : ed = (truthL R most).ed := hed.symm
      refine ⟨a11, c11, ao, co, ?_, hs11.le (hVV.trans hV4), ?_⟩
      · show Value.agg _ = _
        rw [← hed', hedl]; rfl
      · rw [← hed', hedl]; exact hs4

theorem span_q (R : Rough) (V : View) (v : Value) (hR : RoughV V v R) : Fnc Try.prog 38 [v] V fun r _ => r = .tuple #[rtv (spanR R).1, rtv (spanR R).2.1, iv (spanR R).2.2] := by
  have hR' := hR
  obtain ⟨a, c, a1, c1, a2, c2, rfl, h2, h3, h4⟩ := hR
  refine fn_of Try.func38 rfl Try.ntmps38 (Nat.le_of_ble_eq_true rfl) ?_
  intro w0 hw0
  refine At.nrm ?_
  refine At.ktext (.n false 0 (.n false 1 (.n false 2 (.q 3 .done)))) ?_
  refine AtT.kbox ?_
  intro b1
  refine AtT.kalloc z31 ?_
  intro b2
  refine AtT.kalloc z31 ?_
  intro b3
  refine AtT.kassign ?_
  refine AtT.done ?_
  refine At.nrm ?_
  refine At.ktext (.q 0 (.n false 1 (.q 2 .done))) ?_
  first | refine AtT.kloadOA tk53 ?_ | refine AtT.kloadA tk53 ?_ | refine AtT.kloadOP tk53 ?_
  refine AtT.kcallP rfl rfl ok40 (rcheckRough_f R _ _ hR') ?_
  rintro _ rfl
  refine AtT.kneI ?_
  refine AtT.done ?_
  refine At.nrm ?_
  refine At.condP rfl (fun hb => ?_) (fun hb => ?_)
  · refine At.nrm ?_
    refine At.ktext (.q 0 (.q 1 (.q 2 (.n false 3 (.n true 4 (.n true 5 (.q 6 .done))))))) ?_
    refine AtT.kbuild (bd31) ?_
    refine AtT.kbuild (bd31) ?_
    first | refine AtT.kloadOA tk53 ?_ | refine AtT.kloadA tk53 ?_ | refine AtT.kloadOP tk53 ?_
    refine AtT.kcallP rfl rfl ok40 (rcheckRough_f R _ _ hR') ?_
    rintro _ rfl
    refine AtT.kstoreA tk31 ?_
    refine AtT.kstoreA tk31 ?_
    refine AtT.kassign ?_
    refine AtT.done ?_
    refine At.nrm ?_
    refine At.ret3 rfl (.agg rfl tk31 Pick.auto rfl) (.agg rfl tk31 Pick.auto rfl) (.tmp rfl) ?_
    rw [spanR, if_pos hb]
  have he : roughE R = 0 := Decidable.not_not.1 hb
  refine At.nrm ?_
  refine At.cutG (ι := Unit) (fun _ => [(2, .pointer (some ⟨b2, 0, none⟩)), (3, .pointer (some ⟨b3, 0, none⟩)), (4, iv 0)]) (fun _ => [.blk b2 (LC (rte (bestV (truthL R false))) 31), .blk b3 (LC (rte (bestV (truthL R true))) 31)]) (fun _ V' => Le V V') ?_ ?_
  · refine At.draw (.q 0 (.q 3 (.n false 1 (.n false 2 (.n false 4 (.n false 5 (.n true 6 (.n true 7 (.q 8 .done))))))))) ffm (by kernel_rfl) ?_
    first | refine AtT.kloadOA tk53 ?_ | refine AtT.kloadA tk53 ?_ | refine AtT.kloadOP tk53 ?_
    first | refine AtT.kloadOA tk53 ?_ | refine AtT.kloadA tk53 ?_ | refine AtT.kloadOP tk53 ?_
    refine AtT.kcall rfl rfl ok73 (truth_f R false _ _ (hR'.le (by first | exact Le.refl _ | assumption | exact Le.trans (by assumption) (by assumption) | exact Le.trans (by assumption) (Le.trans (by assumption) (by assumption)))) he) ?_
    intro v13 V13 hV13 hT13
    refine AtT.kcallP rfl rfl ok65 (bestOf_f (truthL R false) _ _ (hT13.le (by first | exact Le.refl _ | assumption | exact Le.trans (by assumption) (by assumption) | exact Le.trans (by assumption) (Le.trans (by assumption) (by assumption)))) (truth_ok he false)) ?_
    rintro _ rfl
    refine AtT.kcall rfl rfl ok73 (truth_f R true _ _ (hR'.le (by first | exact Le.refl _ | assumption | exact Le.trans (by assumption) (by assumption) | exact Le.trans (by assumption) (Le.trans (by assumption) (by assumption)))) he) ?_
    intro v16 V16 hV16 hT16
    refine AtT.kcallP rfl rfl ok65 (bestOf_f (truthL R true) _ _ (hT16.le (by first | exact Le.refl _ | assumption | exact Le.trans (by assumption) (by assumption) | exact Le.trans (by assumption) (Le.trans (by assumption) (by assumption)))) (truth_ok he true)) ?_
    rintro _ rfl
    refine AtT.kstoreA tk31 ?_
    refine AtT.kstoreA tk31 ?_
    refine AtT.kassign ?_
    refine AtT.done ?_
    refine At.nrm ?_
    all_goals (refine At.meetG () (by first | exact Le.refl _ | assumption | exact Le.trans (by assumption) (by assumption) | exact Le.trans (by assumption) (Le.trans (by assumption) (by assumption))) ⟨rfl, rfl, rfl, trivial⟩ ?_)
    all_goals (repeat (first | exact Pt.nil | refine Pt.cons Pick.auto ?_))
  rintro _ V5 ks' O' hV5 hk hO hl
  subst hk hO
  refine At.nrm ?_
  refine At.ret3 rfl (.agg rfl tk31 Pick.auto rfl) (.agg rfl tk31 Pick.auto rfl) (.tmp rfl) ?_
  rw [spanR, if_neg (by simp [he])]
end Go.Proofs.Ytnionkopmncopaa
