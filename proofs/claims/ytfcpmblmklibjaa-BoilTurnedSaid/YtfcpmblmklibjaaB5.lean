/- Texts that the last one of this claim imports. -/
import Derived.ChangeKeysEq
import Derived.Test.YtfcpmblmklibjaaB4
set_option linter.unusedVariables false
set_option linter.unusedSimpArgs false
set_option linter.unusedSectionVars false
set_option linter.unusedVariables false
namespace Go.Proofs.Ytfcpmblmklibjaa
open Go.Lw Go.Gl Go.Bl Go.RowKit

theorem apart_f (ts : List Tq) (ht : ∀ t ∈ ts, sndB t.p = true) (h16 : ts.length ≤ 16) : ∀ (t n : Nat) (begun : List Int) (had : Nat) (V : View) (p : Addr) (vb : Value), (flL ts).length - n = t → n ≤ (flL ts).length → begun.length ≤ n → had < 32768 → BcV V p ts → SlI V vb begun →
    Fnc Try.prog 75 [.pointer (some p), vb, stv had, iv n] V fun r V' => SlI V' r (aG ((prP ts).drop n) begun begun had) := by
  intro t
  induction t using Nat.strongRecOn with
  | _ t ih =>
  intro n begun had V p vb hnt hn hbn hhad hb hs
  have hfl := fl_ls (clA ts) ts ts.length
  have hfl1 : (flL ts).length = (lsL ts).length := hfl.1
  have hfl2 : (flL ts).length ≤ 16 := by have : (flL ts).length ≤ ts.length := hfl.2; omega
  have hpl := prP_len ts
  have hlt := ls_lt (no := clA ts) ht ts.length
  obtain ⟨a, c, rfl, k1, k2, _⟩ := id hs
  clear k1 k2
  obtain ⟨a1, c1, hc1, hs1⟩ := bc_failed hb
  obtain ⟨a2, c2, hc2, hs2⟩ := bc_left hb
  refine fn_of Try.func75 rfl Try.ntmps75 (Nat.le_of_ble_eq_true rfl) ?_
  intro w0 hw0
  refine At.nrm ?_
  refine At.ktext (.n false 0 (.q 1 .done)) ?_
  refine AtT.kbox ?_
  intro b6
  refine AtT.kassign ?_
  refine AtT.done ?_
  refine At.nrm ?_
  refine At.ktext (.q 0 (.q 1 .done)) ?_
  refine AtT.kmove ?_
  refine AtT.kassign ?_
  refine AtT.done ?_
  refine At.nrm ?_
  refine At.ktext (.q 0 (.q 1 .done)) ?_
  refine AtT.kmove ?_
  refine AtT.kassign ?_
  refine AtT.done ?_
  refine At.nrm ?_
  refine At.lp (ι := Nat × List Int × Option Addr × Nat) (KS := fun g => [(0, .pointer (some p)), (1, .slice a begun.length c), (6, .pointer (some ⟨b6, 0, none⟩)), (9, .slice g.2.2.1 g.2.1.length g.2.2.2), (10, iv g.1)])
    (OS := fun g => [.blk b6 (LC (ste had) 72)])
    (VS := fun g V' => Le V V' ∧ n ≤ g.1 ∧ g.1 ≤ (flL ts).length ∧ SlI V' (.slice g.2.2.1 g.2.1.length g.2.2.2) g.2.1 ∧ aG ((prP ts).drop g.1) begun g.2.1 had = aG ((prP ts).drop n) begun begun had ∧ g.2.1.length ≤ 16) (μ := fun g => (flL ts).length - g.1) (n, begun, a, c) ?_ ?_ ?_ ?_
  · exact ⟨rfl, rfl, rfl, rfl, rfl, trivial⟩
  · exact Pt.auto
  · exact ⟨Le.refl _, Nat.le_refl _, hn, hs, rfl, by dsimp only; omega⟩
  rintro ⟨k, out, ao, co⟩ V' ks' O' ⟨hVV, hnk, hkl, hso, heq, hol⟩ hk2 hO hl3
  dsimp only at hnk hkl hso heq hk2 hO hol
  subst hk2 hO
  have hb' := hb.le hVV
  have hcc1 := hc1.le hVV
  have hss1 := hs1.le hVV
  have hcc2 := hc2.le hVV
  have hss2 := hs2.le hVV
  have hsv := hs.le hVV
  refine At.nrm ?_
  refine At.ktext (.q 0 (.q 1 (.q 2 (.q 3 (.q 4 (.q 5 (.q 6 .done))))))) ?_
  refine AtT.kmove ?_
  refine AtT.kmove ?_
  refine AtT.knil ?_
  first | refine AtT.kfieldO fo82_1 ?_ | with_reducible refine AtT.kfield2 fo82_1 ?_ | refine AtT.kfield fo82_1 ?_
  first | refine AtT.kloadO tk25 ?_ | refine AtT.kload tk25 ?_
  first | refine AtT.klenS Try.underlying25 ?_ | refine AtT.klenR Try.underlying25 ?_
  refine AtT.klss ?_
  refine AtT.done ?_
  refine At.nrm ?_
  refine At.condP rfl (fun hp => ?_) (fun hp => ?_)
  rotate_left
  · obtain rfl : k = (flL ts).length := by omega
    refine At.nrm ?_
    refine At.ktext (.q 0 (.q 1 .done)) ?_
    refine AtT.kmove ?_
    refine AtT.kassign ?_
    refine AtT.done ?_
    refine At.nrm ?_
    refine At.ret1 rfl (.tmp rfl) ?_
    rw [← heq, List.drop_eq_nil_of_le (by omega)]; exact hso
  have hk1 : k < (flL ts).length := by omega
  obtain ⟨f, hf⟩ : ∃ x, (flL ts)[k]? = some x := ⟨_, List.getElem?_eq_getElem hk1⟩
  obtain ⟨s, hs3⟩ : ∃ x, (lsL ts)[k]? = some x := ⟨_, List.getElem?_eq_getElem (by omega)⟩
  have hslt := hlt s (List.mem_of_getElem? hs3)
  rw [prP_at hf hs3] at heq
  have hnl : (begun ++ [f]).length = begun.length + 1 := by simp
  have hdl : ((prP ts).drop (k + 1)).length = (flL ts).length - (k + 1) := by rw [List.length_drop, hpl]
  have hap := aG_len ((prP ts).drop (k + 1)) (begun ++ [f]) (begun ++ [f]) (had ||| s) 16 (by omega) (by omega)
  have hor : had ||| s < 32768 := Nat.or_lt_two_pow (n := 15) hhad hslt
  refine At.nrmB ?_
  refine At.cutG (ι := List Int × Option Addr × Nat) (fun g => [(0, .pointer (some p)), (1, .slice a begun.length c), (6, .pointer (some ⟨b6, 0, none⟩)), (9, .slice g.2.1 g.1.length g.2.2), (10, iv k)]) (fun _ => [.blk b6 (LC (ste had) 72)])
    (fun g V'' => Le V' V'' ∧ SlI V'' (.slice g.2.1 g.1.length g.2.2) g.1 ∧ aG ((prP ts).drop (k + 1)) begun g.1 had = aG ((prP ts).drop n) begun begun had ∧ g.1.length ≤ 16) ?_ ?_
  · refine At.nrm ?_
    cases hm : mtB s had with
    | true =>
      rw [aG_meet hm] at heq
      refine At.draw (.q 0 (.q 1 (.q 2 (.q 3 (.q 4 (.q 5 (.q 6 (.q 7 (.n false 8 .done))))))))) ffm (by kernel_rfl) ?_
      refine AtT.kmove ?_
      refine AtT.knil ?_
      first | refine AtT.kfieldO fo82_2 ?_ | with_reducible refine AtT.kfield2 fo82_2 ?_ | refine AtT.kfield fo82_2 ?_
      first | refine AtT.kloadO tk80 ?_ | refine AtT.kload tk80 ?_
      refine AtT.kmove ?_
      refine AtT.kidx Try.underlying80 tk72 ?_
      intro p28 e28 he28 hc28
      obtain rfl : s = e28 := by have : (lsL ts)[k]? = some e28 := (by simpa using he28); rw [hs3] at this; simpa using this
      first | refine AtT.kloadOA tk72 ?_ | refine AtT.kloadA tk72 ?_ | refine AtT.kloadOP tk72 ?_
      first | refine AtT.kloadOA tk72 ?_ | refine AtT.kloadA tk72 ?_ | refine AtT.kloadOP tk72 ?_
      refine AtT.kcallP rfl rfl ok65 (meets_f s had (by omega) (by omega) _) ?_
      rintro _ rfl; rw [hm]
      refine AtT.done ?_
      refine At.nrm ?_
      refine At.condT rfl rfl ?_
      refine At.nrm ?_
      exact At.meetG (out, ao, co) ⟨Le.refl _, hso, heq, hol⟩ ⟨rfl, rfl, rfl, rfl, rfl, trivial⟩ Pt.auto
    | false =>
      refine At.draw (.q 0 (.q 1 (.q 2 (.q 3 (.q 4 (.q 5 (.q 6 (.q 7 (.n false 8 .done))))))))) ffm (by kernel_rfl) ?_
      refine AtT.kmove ?_
      refine AtT.knil ?_
      first | refine AtT.kfieldO fo82_2 ?_ | with_reducible refine AtT.kfield2 fo82_2 ?_ | refine AtT.kfield fo82_2 ?_
      first | refine AtT.kloadO tk80 ?_ | refine AtT.kload tk80 ?_
      refine AtT.kmove ?_
      refine AtT.kidx Try.underlying80 tk72 ?_
      intro p28 e28 he28 hc28
      obtain rfl : s = e28 := by have : (lsL ts)[k]? = some e28 := (by simpa using he28); rw [hs3] at this; simpa using this
      first | refine AtT.kloadOA tk72 ?_ | refine AtT.kloadA tk72 ?_ | refine AtT.kloadOP tk72 ?_
      first | refine AtT.kloadOA tk72 ?_ | refine AtT.kloadA tk72 ?_ | refine AtT.kloadOP tk72 ?_
      refine AtT.kcallP rfl rfl ok65 (meets_f s had (by omega) (by omega) _) ?_
      rintro _ rfl; rw [hm]
      refine AtT.done ?_
      refine At.nrm ?_
      refine At.condF rfl rfl ?_
      refine At.nrm ?_
      refine At.draw (.q 0 (.q 1 (.q 2 (.q 3 (.q 4 (.q 5 (.q 6 (.q 7 (.q 8 (.q 9 (.q 10 (.q 11 (.q 12 (.q 13 (.q 16 (.q 17 (.q 18 (.q 19 (.q 20 (.q 21 (.q 22 (.q 23 (.q 24 (.q 25 (.q 26 (.q 27 (.q 28 (.q 29 (.n false 14 (.n false 15 (.n false 30 (.q 31 .done)))))))))))))))))))))))))))))))) ffm (by kernel_rfl) ?_
      refine AtT.kmove ?_
      refine AtT.kmove ?_
      refine AtT.kmove ?_
      first | refine AtT.klenS Try.underlying25 ?_ | refine AtT.klenR Try.underlying25 ?_
      refine AtT.kmove ?_
      first | refine AtT.klenS Try.underlying25 ?_ | refine AtT.klenR Try.underlying25 ?_
      first | refine AtT.kclipAll Try.underlying25 tk3 ?_ | refine AtT.kclip Try.underlying25 tk3 ?_
      intro a38 hs38
      refine AtT.kmove ?_
      refine AtT.knil ?_
      first | refine AtT.kfieldO fo82_1 ?_ | with_reducible refine AtT.kfield2 fo82_1 ?_ | refine AtT.kfield fo82_1 ?_
      first | refine AtT.kloadO tk25 ?_ | refine AtT.kload tk25 ?_
      refine AtT.kmove ?_
      refine AtT.kidx Try.underlying25 tk3 ?_
      intro p44 e44 he44 hc44
      obtain rfl : f = e44 := by have : (flL ts)[k]? = some e44 := (by simpa using he44); rw [hf] at this; simpa using this
      first | refine AtT.kloadO tk3 ?_ | refine AtT.kload tk3 ?_
      first | refine AtT.kfieldO fo72_0 ?_ | with_reducible refine AtT.kfield2 fo72_0 ?_ | refine AtT.kfield fo72_0 ?_
      first | refine AtT.kloadO tk3 ?_ | refine AtT.kload tk3 ?_
      refine AtT.kmove ?_
      refine AtT.knil ?_
      first | refine AtT.kfieldO fo82_2 ?_ | with_reducible refine AtT.kfield2 fo82_2 ?_ | refine AtT.kfield fo82_2 ?_
      first | refine AtT.kloadO tk80 ?_ | refine AtT.kload tk80 ?_
      refine AtT.kmove ?_
      refine AtT.kidx Try.underlying80 tk72 ?_
      intro p55 e55 he55 hc55
      obtain rfl : s = e55 := by have : (lsL ts)[k]? = some e55 := (by simpa using he55); rw [hs3] at this; simpa using this
      first | refine AtT.kfieldO fo72_0 ?_ | with_reducible refine AtT.kfield2 fo72_0 ?_ | refine AtT.kfield fo72_0 ?_
      first | refine AtT.kloadO tk3 ?_ | refine AtT.kload tk3 ?_
      refine AtT.orN rfl trivial rfl rfl rfl rfl (by omega) (by omega) (by decide) (A := had) (B := s) ?_
      refine AtT.kbuild (bd72_0 _) ?_
      refine AtT.kmove ?_
      first | refine AtT.kadd ?_ | refine AtT.kaddW ?_
      refine AtT.kbsliceG (bs25_1_0 _) ?_
      intro q46 V46 hV46 hq46
      have g46 : Le V V46 := by first | exact hV46 | exact Le.trans (by assumption) hV46
      refine AtT.appendC rfl trivial Try.underlying25 rw3 rfl (by decide) rfl (by first | assumption | exact Sl.le (by assumption) (by assumption)) rfl rfl (by first | assumption | exact Cells.le (by assumption) (by assumption)) (fun _ => rfl) (by simp) (by unfold maxLen; simp only [List.length_cons, List.length_nil]; omega) (by simp only [List.length_cons, List.length_nil]; omega) (by decide) (enc := ei) (m := [f]) ?_
      intro a47 c47 V47 hV47 hs47
      have g47 : Le V V47 := by first | exact hV47 | exact Le.trans (by assumption) hV47
      refine AtT.kcall rfl rfl ok75 (ih ((flL ts).length - (k + 1)) (by omega) (k + 1) (begun ++ [f]) (had ||| s) _ p _ rfl (by omega) (by omega) hor (hb'.le (hV46.trans hV47)) hs47) ?_
      rintro v62 V62 hV62 hs62
      refine AtT.kassign ?_
      refine AtT.done ?_
      refine At.nrm ?_
      obtain ⟨a62, c62, rfl, _⟩ := id hs62
      have hVV2 := (hV46.trans hV47).trans hV62
      have hso3 := hso.le hVV2
      refine At.ktext (.q 0 (.q 1 (.q 2 (.q 3 (.q 4 .done))))) ?_
      refine AtT.kmove ?_
      first | refine AtT.klenS Try.underlying25 ?_ | refine AtT.klenR Try.underlying25 ?_
      refine AtT.kmove ?_
      first | refine AtT.klenS Try.underlying25 ?_ | refine AtT.klenR Try.underlying25 ?_
      refine AtT.kgtr ?_
      refine AtT.done ?_
      refine At.nrm ?_
      refine At.condP rfl (fun hq => ?_) (fun hq => ?_)
      · rw [aG_more hm (by omega)] at heq
        refine At.nrm ?_
        refine At.ktext (.q 0 (.q 1 .done)) ?_
        refine AtT.kmove ?_
        refine AtT.kassign ?_
        refine AtT.done ?_
        refine At.nrm ?_
        exact At.meetG (aG ((prP ts).drop (k + 1)) (begun ++ [f]) (begun ++ [f]) (had ||| s), a62, c62) ⟨hVV2, hs62, heq, hap⟩ ⟨rfl, rfl, rfl, rfl, rfl, trivial⟩ Pt.auto
      · rw [aG_same hm (by omega)] at heq
        refine At.nrm ?_
        exact At.meetG (out, ao, co) ⟨hVV2, hso3, heq, hol⟩ ⟨rfl, rfl, rfl, rfl, rfl, trivial⟩ Pt.auto
  rintro ⟨out2, ao2, co2⟩ V3 ks' O' ⟨hV3, hso3, heq3, hol3⟩ hk2 hO hl4
  dsimp only at hk2 hO hso3 heq3 hol3
  subst hk2 hO
  refine At.nrm ?_
  refine At.ktext (.q 0 (.q 1 (.q 2 .done))) ?_
  refine AtT.kmove ?_
  first | refine AtT.kadd ?_ | refine AtT.kaddW ?_
  refine AtT.kassign ?_
  refine AtT.done ?_
  refine At.nrm ?_
  refine At.round (k + 1, out2, ao2, co2) ?_ ?_ ?_ ?_
  · show (flL ts).length - (k + 1) < (flL ts).length - k; omega
  · exact ⟨hVV.trans hV3, by dsimp only; omega, by dsimp only; omega, hso3, heq3, hol3⟩
  · exact ⟨rfl, rfl, rfl, rfl, ivs (by dsimp only; omega), trivial⟩
  · exact Pt.auto
/-- Which trials are apart: the answer, or the error. -/
def apR (ts : List Tq) : List Int := if trE ts = 0 then aG (prP ts) [] [] 0 else []
theorem apF_f (ts : List Tq) (V : View) (v : Value) (hs : Sl V tqe 4 v ts) : Fnc Try.prog 33 [v] V fun r V' => ∃ u, r = .tuple #[u, iv (trE ts)] ∧ SlI V' u (apR ts) := by
  refine fn_of Try.func33 rfl Try.ntmps33 (Nat.le_of_ble_eq_true rfl) ?_
  intro w0 hw0
  refine At.nrm ?_
  refine At.ktext (.q 0 (.q 1 .done)) ?_
  refine AtT.kassign ?_
  refine AtT.kassign ?_
  refine AtT.done ?_
  refine At.nrm ?_
  by_cases he : trE ts = 0
  rotate_left
  · refine At.ktext (.q 0 (.n false 1 (.q 2 (.q 3 (.q 4 (.q 5 (.q 6 .done))))))) ?_
    refine AtT.kmove ?_
    refine AtT.kcallP rfl rfl ok59 (open_bad ts he _ _ hs) ?_
    rintro _ rfl
    refine AtT.kmove ?_
    refine AtT.kextract ?_
    refine AtT.kextract ?_
    refine AtT.kassign ?_
    refine AtT.kassign ?_
    refine AtT.done ?_
    refine At.nrm ?_
    refine At.ktext (.q 0 (.q 1 .done)) ?_
    refine AtT.kmove ?_
    refine AtT.kneI ?_
    refine AtT.done ?_
    refine At.nrm ?_
    refine At.condT rfl (decide_eq_true he) ?_
    refine At.nrm ?_
    refine At.ktext (.q 0 (.q 1 (.q 2 .done))) ?_
    refine AtT.kmove ?_
    refine AtT.kassign ?_
    refine AtT.kassign ?_
    refine AtT.done ?_
    refine At.nrm ?_
    exact At.ret2 rfl (.tmp rfl) (.tmp rfl) ⟨_, rfl, by unfold apR; rw [if_neg he]; exact Sl.nil _ _ _⟩
  obtain ⟨h16, ht⟩ := trE_ok he
  have hfl2 : (flL ts).length ≤ 16 := by have : (flL ts).length ≤ ts.length := (fl_ls (clA ts) ts ts.length).2; omega
  have hpl := prP_len ts
  have hap := aG_len (prP ts) [] [] 0 16 (by simp) (by simp; omega)
  refine At.ktext (.q 0 (.n false 1 (.q 2 (.q 3 (.q 4 (.q 5 (.q 6 .done))))))) ?_
  refine AtT.kmove ?_
  refine AtT.kcall rfl rfl ok59 (open_ok ts he _ _ hs) ?_
  rintro _ V1 hV1 ⟨p, rfl, hpb⟩
  refine AtT.kmove ?_
  refine AtT.kextract ?_
  refine AtT.kextract ?_
  refine AtT.kassign ?_
  refine AtT.kassign ?_
  refine AtT.done ?_
  refine At.nrm ?_
  refine At.ktext (.q 0 (.q 1 .done)) ?_
  refine AtT.kmove ?_
  refine AtT.kneI ?_
  refine AtT.done ?_
  refine At.nrm ?_
  refine At.condF rfl (decide_eq_false (by simp)) ?_
  refine At.nrm ?_
  refine At.ktext (.q 0 (.q 1 (.n false 2 (.q 3 .done)))) ?_
  refine AtT.kmove ?_
  refine AtT.kbuild (bd72) ?_
  refine AtT.kcall rfl rfl ok75 (apart_f ts ht h16 _ 0 [] 0 _ p _ rfl (by omega) (by simp) (by omega) hpb (Sl.nil _ _ _)) ?_
  rintro v18 V18 hV18 hs18
  refine AtT.kassign ?_
  refine AtT.done ?_
  refine At.nrm ?_
  rw [List.drop_zero] at hs18
  obtain ⟨ms, hms⟩ : ∃ ms, ms = aG (prP ts) [] [] 0 := ⟨_, rfl⟩
  rw [← hms] at hs18 hap
  have hlen0 : (flat ei (List.replicate ms.length (0 : Int))).length = ms.length * 1 := by rw [flat_len Lw.ei_len]; simp
  obtain ⟨a18, c18, rfl, q1, q2, _⟩ := id hs18
  clear q1 q2
  refine At.ktext (.q 0 (.q 1 (.n false 2 (.q 3 .done)))) ?_
  refine AtT.kmove ?_
  first | refine AtT.klenS Try.underlying25 ?_ | refine AtT.klenR Try.underlying25 ?_
  refine AtT.makeSl rfl trivial ei rfl Try.underlying25 rw3 rfl rfl (by decide) rfl rfl (by omega) (by omega) (by decide) (za := (0 : Int)) ?_
  intro b21
  refine AtT.kassign ?_
  refine AtT.done ?_
  refine At.nrm ?_
  refine At.ktext (.q 0 (.q 1 (.n true 2 .done))) ?_
  refine AtT.kmove ?_
  refine AtT.kmove ?_
  refine AtT.copyO rfl trivial Try.underlying25 tk3 rfl rfl hs18 Lw.ei_len (fun _ => rfl) hlen0 (by repeat (first | exact Upd.here | apply Upd.there)) (by decide) ?_
  refine AtT.done ?_
  refine At.nrm ?_
  refine At.ktext (.q 0 (.q 1 (.q 2 .done))) ?_
  refine AtT.kmove ?_
  refine AtT.kassign ?_
  refine AtT.kassign ?_
  refine AtT.done ?_
  refine At.nrm ?_
  refine At.giveB (b := b21) Pick.auto (fun V3 hV3 hb3 => ?_)
  refine At.ret2 rfl (.tmp rfl) (.tmp rfl) ⟨_, by rw [he], ?_⟩
  unfold apR
  rw [if_pos he, ← hms]
  exact Sl.of_cells Lw.ei_len (cells_blk hb3) (Nat.le_refl _) (by unfold maxLen; omega)
theorem goOn_f (L : List Int) (hL : ∀ x ∈ L, -1 ≤ x ∧ x < 32768) (h16 : L.length ≤ 16) : ∀ (t n : Nat) (begun : List Int) (had : Nat) (V : View) (v vb : Value), L.length - n = t → n ≤ L.length → begun.length ≤ n → had < 32768 → SlI V v L → SlI V vb begun →
    Fnc Try.prog 76 [v, vb, iv had, iv n] V fun r V' => SlI V' r (aG (prR n (L.drop n)) begun begun had) := by
  intro t
  induction t using Nat.strongRecOn with
  | _ t ih =>
  intro n begun had V v vb hnt hn hbn hhad hb hs
  obtain ⟨a, c, rfl, k1, k2, _⟩ := id hs
  obtain ⟨a1, c1, rfl, k3, k4, _⟩ := id hb
  clear k1 k2 k3 k4
  refine fn_of Try.func76 rfl Try.ntmps76 (Nat.le_of_ble_eq_true rfl) ?_
  intro w0 hw0
  refine At.nrm ?_
  refine At.ktext (.q 0 .done) ?_
  refine AtT.kassign ?_
  refine AtT.done ?_
  refine At.nrm ?_
  refine At.ktext (.q 0 (.q 1 .done)) ?_
  refine AtT.kmove ?_
  refine AtT.kassign ?_
  refine AtT.done ?_
  refine At.nrm ?_
  refine At.ktext (.q 0 (.q 1 .done)) ?_
  refine AtT.kmove ?_
  refine AtT.kassign ?_
  refine AtT.done ?_
  refine At.nrm ?_
  refine At.lp (ι := Nat × List Int × Option Addr × Nat) (KS := fun g => [(0, .slice a1 L.length c1), (1, .slice a begun.length c), (2, iv had), (9, .slice g.2.2.1 g.2.1.length g.2.2.2), (10, iv g.1)])
    (OS := fun g => [])
    (VS := fun g V' => Le V V' ∧ n ≤ g.1 ∧ g.1 ≤ L.length ∧ SlI V' (.slice g.2.2.1 g.2.1.length g.2.2.2) g.2.1 ∧ aG (prR g.1 (L.drop g.1)) begun g.2.1 had = aG (prR n (L.drop n)) begun begun had ∧ g.2.1.length ≤ 16) (μ := fun g => L.length - g.1) (n, begun, a, c) ?_ ?_ ?_ ?_
  · exact ⟨rfl, rfl, rfl, rfl, rfl, trivial⟩
  · exact Pt.auto
  · exact ⟨Le.refl _, Nat.le_refl _, hn, hs, rfl, by dsimp only; omega⟩
  rintro ⟨k, out, ao, co⟩ V' ks' O' ⟨hVV, hnk, hkl, hso, heq, hol⟩ hk2 hO hl3
  dsimp only at hnk hkl hso heq hk2 hO hol
  subst hk2 hO
  have hb' := hb.le hVV
  have hsv := hs.le hVV
  refine At.nrm ?_
  refine At.ktext (.q 0 (.q 1 (.q 2 (.q 3 .done)))) ?_
  refine AtT.kmove ?_
  refine AtT.kmove ?_
  first | refine AtT.klenS Try.underlying25 ?_ | refine AtT.klenR Try.underlying25 ?_
  refine AtT.klss ?_
  refine AtT.done ?_
  refine At.nrm ?_
  refine At.condP rfl (fun hp => ?_) (fun hp => ?_)
  rotate_left
  · obtain rfl : k = L.length := by omega
    refine At.nrm ?_
    refine At.ktext (.q 0 (.q 1 .done)) ?_
    refine AtT.kmove ?_
    refine AtT.kassign ?_
    refine AtT.done ?_
    refine At.nrm ?_
    refine At.ret1 rfl (.tmp rfl) ?_
    rw [← heq, List.drop_eq_nil_of_le (Nat.le_refl _)]; exact hso
  have hk1 : k < L.length := by omega
  obtain ⟨x, hx⟩ : ∃ x, L[k]? = some x := ⟨_, List.getElem?_eq_getElem hk1⟩
  have hxb := hL x (List.mem_of_getElem? hx)
  have hdr : L.drop k = x :: L.drop (k + 1) := by
    obtain ⟨h1, h2⟩ := List.getElem?_eq_some_iff.1 hx
    rw [List.drop_eq_getElem_cons h1, h2]
  rw [hdr] at heq
  have hnl : (begun ++ [(k : Int)]).length = begun.length + 1 := by simp
  have hdl := prR_len (k + 1) (L.drop (k + 1))
  rw [List.length_drop] at hdl
  refine At.nrmB ?_
  refine At.cutG (ι := List Int × Option Addr × Nat) (fun g => [(0, .slice a1 L.length c1), (1, .slice a begun.length c), (2, iv had), (9, .slice g.2.1 g.1.length g.2.2), (10, iv k)]) (fun _ => [])
    (fun g V'' => Le V' V'' ∧ SlI V'' (.slice g.2.1 g.1.length g.2.2) g.1 ∧ aG (prR (k + 1) (L.drop (k + 1))) begun g.1 had = aG (prR n (L.drop n)) begun begun had ∧ g.1.length ≤ 16) ?_ ?_
  · refine At.nrm ?_
    by_cases c0 : x < 0
    · simp only [prR, if_pos c0] at heq
      refine At.ktext (.q 0 (.q 1 (.q 2 (.q 3 (.q 4 (.q 5 (.q 6 (.q 7 (.q 8 (.q 9 (.q 10 (.q 11 (.q 12 (.q 13 .done)))))))))))))) ?_
      refine AtT.kmove ?_
      refine AtT.kmove ?_
      refine AtT.kidx Try.underlying25 tk3 ?_
      intro p22 e22 he22 hc22
      obtain rfl : x = e22 := by have : L[k]? = some e22 := (by simpa using he22); rw [hx] at this; simpa using this
      first | refine AtT.kloadO tk3 ?_ | refine AtT.kload tk3 ?_
      refine AtT.klss ?_
      refine AtT.setT (d := 24) rfl (c0) ?_
      refine AtT.kmove ?_
      all_goals (first | refine AtT.kL 25 ?_ | refine AtT.pcase (d := 25) rfl (fun hg25 => ?_) (fun hg25 => ?_) | refine AtT.bcase (d := 25) rfl (fun hg25 => ?_) (fun hg25 => ?_))
      all_goals (first | refine AtT.kpass ?_ | refine AtT.kpassU ?_ | ((refine AtT.kmove ?_)))
      all_goals (first | refine AtT.kpass ?_ | refine AtT.kpassU ?_ | ((refine AtT.kmove ?_)))
      all_goals (first | refine AtT.kpass ?_ | refine AtT.kpassU ?_ | ((refine AtT.kidx Try.underlying25 tk3 ?_) ; (intro p28 e28 he28 hc28)))
      all_goals (first | refine AtT.kpass ?_ | refine AtT.kpassU ?_ | ((first | refine AtT.kloadO tk3 ?_ | refine AtT.kload tk3 ?_)))
      all_goals (first | refine AtT.kpass ?_ | refine AtT.kpassU ?_ | ((refine AtT.kmove ?_)))
      all_goals (first | refine AtT.kpass ?_ | refine AtT.kpassU ?_ | ((fail)))
      all_goals (first | refine AtT.kpass ?_ | refine AtT.kpassU ?_ | ((refine AtT.kneI ?_)))
      all_goals (refine AtT.kpick ?_)
      all_goals refine AtT.done ?_
      all_goals (refine At.nrm ?_)
      refine At.condT rfl rfl ?_
      refine At.nrm ?_
      exact At.meetG (out, ao, co) ⟨Le.refl _, hso, heq, hol⟩ ⟨rfl, rfl, rfl, rfl, rfl, trivial⟩ Pt.auto
    obtain ⟨s, rfl⟩ : ∃ s : Nat, x = (s : Int) := ⟨x.toNat, by omega⟩
    simp only [prR, if_neg c0, Int.toNat_natCast] at heq
    have hor : had ||| s < 32768 := Nat.or_lt_two_pow (n := 15) hhad (by omega)
    have hap := aG_len (prR (k + 1) (L.drop (k + 1))) (begun ++ [(k : Int)]) (begun ++ [(k : Int)]) (had ||| s) 16 (by omega) (by omega)
    cases hm : mtB s had with
    | true =>
      have hm' : s &&& had ≠ 0 := of_decide_eq_true hm
      rw [aG_meet hm] at heq
      refine At.ktext (.q 0 (.q 1 (.q 2 (.q 3 (.q 4 (.q 5 (.q 6 (.q 7 (.q 8 (.q 9 (.q 10 (.q 11 (.q 12 (.q 13 .done)))))))))))))) ?_
      refine AtT.kmove ?_
      refine AtT.kmove ?_
      refine AtT.kidx Try.underlying25 tk3 ?_
      intro p22 e22 he22 hc22
      obtain rfl : (s : Int) = e22 := by have : L[k]? = some e22 := (by simpa using he22); rw [hx] at this; simpa using this
      first | refine AtT.kloadO tk3 ?_ | refine AtT.kload tk3 ?_
      refine AtT.klss ?_
      refine AtT.setF (d := 24) rfl (c0) ?_
      refine AtT.kmove ?_
      all_goals (first | refine AtT.kL 25 ?_ | refine AtT.pcase (d := 25) rfl (fun hg25 => ?_) (fun hg25 => ?_) | refine AtT.bcase (d := 25) rfl (fun hg25 => ?_) (fun hg25 => ?_))
      all_goals (first | refine AtT.kpass ?_ | refine AtT.kpassU ?_ | ((refine AtT.kmove ?_)))
      all_goals (first | refine AtT.kpass ?_ | refine AtT.kpassU ?_ | ((refine AtT.kmove ?_)))
      all_goals (first | refine AtT.kpass ?_ | refine AtT.kpassU ?_ | ((refine AtT.kidx Try.underlying25 tk3 ?_) ; (intro p28 e28 he28 hc28)))
      all_goals (obtain rfl : (s : Int) = e28 := by have : L[k]? = some e28 := (by simpa using he28); rw [hx] at this; simpa using this)
      all_goals (first | refine AtT.kpass ?_ | refine AtT.kpassU ?_ | ((first | refine AtT.kloadO tk3 ?_ | refine AtT.kload tk3 ?_)))
      all_goals (first | refine AtT.kpass ?_ | refine AtT.kpassU ?_ | ((refine AtT.kmove ?_)))
      all_goals (first | refine AtT.kpass ?_ | refine AtT.kpassU ?_ | ((refine AtT.andN rfl ⟨_, _, rfl, rfl, rfl⟩ rfl rfl rfl rfl (by omega) (by omega) (by decide) (A := s) (B := had) ?_)))
      all_goals (first | refine AtT.kpass ?_ | refine AtT.kpassU ?_ | ((refine AtT.kneI ?_)))
      all_goals (refine AtT.setT (d := 32) rfl ((by omega)) ?_)
      all_goals (refine AtT.kpick ?_)
      all_goals refine AtT.done ?_
      all_goals (refine At.nrm ?_)
      refine At.condT rfl rfl ?_
      refine At.nrm ?_
      exact At.meetG (out, ao, co) ⟨Le.refl _, hso, heq, hol⟩ ⟨rfl, rfl, rfl, rfl, rfl, trivial⟩ Pt.auto
    | false =>
      have hm' : s &&& had = 0 := by
        apply Classical.byContradiction; intro hc
        rw [show mtB s had = true from decide_eq_true hc] at hm; cases hm
      refine At.ktext (.q 0 (.q 1 (.q 2 (.q 3 (.q 4 (.q 5 (.q 6 (.q 7 (.q 8 (.q 9 (.q 10 (.q 11 (.q 12 (.q 13 .done)))))))))))))) ?_
      refine AtT.kmove ?_
      refine AtT.kmove ?_
      refine AtT.kidx Try.underlying25 tk3 ?_
      intro p22 e22 he22 hc22
      obtain rfl : (s : Int) = e22 := by have : L[k]? = some e22 := (by simpa using he22); rw [hx] at this; simpa using this
      first | refine AtT.kloadO tk3 ?_ | refine AtT.kload tk3 ?_
      refine AtT.klss ?_
      refine AtT.setF (d := 24) rfl (c0) ?_
      refine AtT.kmove ?_
      all_goals (first | refine AtT.kL 25 ?_ | refine AtT.pcase (d := 25) rfl (fun hg25 => ?_) (fun hg25 => ?_) | refine AtT.bcase (d := 25) rfl (fun hg25 => ?_) (fun hg25 => ?_))
      all_goals (first | refine AtT.kpass ?_ | refine AtT.kpassU ?_ | ((refine AtT.kmove ?_)))
      all_goals (first | refine AtT.kpass ?_ | refine AtT.kpassU ?_ | ((refine AtT.kmove ?_)))
      all_goals (first | refine AtT.kpass ?_ | refine AtT.kpassU ?_ | ((refine AtT.kidx Try.underlying25 tk3 ?_) ; (intro p28 e28 he28 hc28)))
      all_goals (obtain rfl : (s : Int) = e28 := by have : L[k]? = some e28 := (by simpa using he28); rw [hx] at this; simpa using this)
      all_goals (first | refine AtT.kpass ?_ | refine AtT.kpassU ?_ | ((first | refine AtT.kloadO tk3 ?_ | refine AtT.kload tk3 ?_)))
      all_goals (first | refine AtT.kpass ?_ | refine AtT.kpassU ?_ | ((refine AtT.kmove ?_)))
      all_goals (first | refine AtT.kpass ?_ | refine AtT.kpassU ?_ | ((refine AtT.andN rfl ⟨_, _, rfl, rfl, rfl⟩ rfl rfl rfl rfl (by omega) (by omega) (by decide) (A := s) (B := had) ?_)))
      all_goals (first | refine AtT.kpass ?_ | refine AtT.kpassU ?_ | ((refine AtT.kneI ?_)))
      all_goals (refine AtT.setF (d := 32) rfl ((by omega)) ?_)
      all_goals (refine AtT.kpick ?_)
      all_goals refine AtT.done ?_
      all_goals (refine At.nrm ?_)
      refine At.condF rfl rfl ?_
      refine At.nrm ?_
      refine At.cutG (ι := Option Addr × Nat) (fun g => [(0, .slice a1 L.length c1), (1, .slice a begun.length c), (2, iv had), (9, .slice ao out.length co), (10, iv k), (11, .slice g.1 (aG (prR (k + 1) (L.drop (k + 1))) (begun ++ [(k : Int)]) (begun ++ [(k : Int)]) (had ||| s)).length g.2)]) (fun _ => [])
        (fun g V'' => Le V' V'' ∧ SlI V'' (.slice g.1 (aG (prR (k + 1) (L.drop (k + 1))) (begun ++ [(k : Int)]) (begun ++ [(k : Int)]) (had ||| s)).length g.2) (aG (prR (k + 1) (L.drop (k + 1))) (begun ++ [(k : Int)]) (begun ++ [(k : Int)]) (had ||| s))) ?_ ?_
      · refine At.drawC [] (.q 0 (.q 2 (.q 4 (.q 7 (.q 8 (.q 9 (.q 10 (.q 11 (.q 12 (.q 13 (.q 14 (.two 1 (.two 3 (.n false 5 (.n false 6 (.n false 15 (.q 16 .done)))) 5 (.n false 3 (.n false 6 (.n false 15 (.q 16 .done))))) 5 (.n false 1 (.n false 3 (.n false 6 (.n false 15 (.q 16 .done))))))))))))))))) ffm (by kernel_rfl) Pt.auto ?_
        refine AtC.pre (fun hle0 => ?_)
        refine AtC.kq (by (refine AtT.kmove ?_); exact At.knows) ?_
        refine AtC.kq (by (refine AtT.kmove ?_); exact At.knows) ?_
        refine AtC.kq (by (refine AtT.kmove ?_); exact At.knows) ?_
        refine AtC.kq (by (refine AtT.kmove ?_); exact At.knows) ?_
        refine AtC.kq (by (refine AtT.kmove ?_); exact At.knows) ?_
        refine AtC.kq (by (refine AtT.kmove ?_); exact At.knows) ?_
        refine AtC.kidx Try.underlying25 tk3 ?_
        intro p44 e44 he44 hc44
        obtain rfl : (s : Int) = e44 := by have : L[k]? = some e44 := (by simpa using he44); rw [hx] at this; simpa using this
        refine AtC.kq (by (first | refine AtT.kloadO tk3 ?_ | refine AtT.kload tk3 ?_); exact At.knows) ?_
        refine AtC.kq (by (refine AtT.orN rfl trivial rfl rfl rfl rfl (by omega) (by omega) (by decide) (A := had) (B := s) ?_); exact At.knows) ?_
        refine AtC.kq (by (refine AtT.kmove ?_); exact At.knows) ?_
        refine AtC.kq (by (first | refine AtT.kadd ?_ | refine AtT.kaddW ?_); exact At.knows) ?_
        refine AtC.two ?_ ?_
        focus
          refine AtC.nz ?_
          refine AtT.bsliceR0 rfl trivial rfl bs25_0 (by decide) (s := 1) (fun b35 => ?_)
          refine AtC.kgo ?_
          refine AtC.two ?_ ?_
          focus
            refine AtC.nz ?_
            refine AtT.appendRS rfl trivial Try.underlying25 rw3 rfl (by decide) rfl rfl Pick.auto (by first | exact hsv | exact hsv.le (by assumption)) Lw.ei_len (fun _ => rfl) (by unfold maxLen; omega) (by omega) (by decide) (fun a37 c37 => ?_)
            refine AtC.kgo ?_
            rw [Nat.zero_add, List.nil_append]
            refine AtC.nz ?_
            refine AtT.kbsliceG (bs25_1_0 _) ?_
            intro q39 V39 hV39 hq39
            have g39 : Le V V39 := by first | exact hV39 | exact Le.trans (by assumption) hV39
            refine AtC.kgo ?_
            refine AtC.nz ?_
            first | refine AtT.kappend Try.underlying25 rw3 ?_
            intro a40 c40
            refine AtC.kgo ?_
            refine AtC.giveSl (l := begun ++ [(k : Int)]) Lw.ei_len (flat_snoc _ _ _).symm hnl.symm Pick.auto (fun V41 hV41 hs41 => ?_)
            have hVV41 : Le V' V41 := Le.trans (by assumption) hV41
            refine AtC.nz ?_
            refine AtT.kcall rfl rfl ok76 (ih (L.length - (k + 1)) (by omega) (k + 1) (begun ++ [(k : Int)]) (had ||| s) _ _ _ rfl (by omega) (by omega) hor (hb'.le hVV41) hs41) ?_
            rintro v49 V49 hV49 hs49; have hVV49 : Le V' V49 := hVV41.trans hV49; obtain ⟨a49, c49, rfl, _⟩ := id hs49
            refine AtC.kgo ?_
            refine AtC.kq (by (refine AtT.kassign ?_); exact At.knows) ?_
            refine AtC.done ?_
          rotate_right
          focus
            refine AtC.nz ?_
            refine AtT.kbsliceG (bs25_1_0 _) ?_
            intro q39 V39 hV39 hq39
            have g39 : Le V V39 := by first | exact hV39 | exact Le.trans (by assumption) hV39
            refine AtC.kgo ?_
            refine AtC.nz ?_
            refine AtT.appendRS rfl trivial Try.underlying25 rw3 rfl (by decide) rfl rfl Pick.auto (by first | exact hsv | exact hsv.le (by assumption)) Lw.ei_len (fun _ => rfl) (by unfold maxLen; omega) (by omega) (by decide) (fun a37 c37 => ?_)
            refine AtC.kgo ?_
            rw [Nat.zero_add, List.nil_append]
            refine AtC.nz ?_
            first | refine AtT.kappend Try.underlying25 rw3 ?_
            intro a40 c40
            refine AtC.kgo ?_
            refine AtC.giveSl (l := begun ++ [(k : Int)]) Lw.ei_len (flat_snoc _ _ _).symm hnl.symm Pick.auto (fun V41 hV41 hs41 => ?_)
            have hVV41 : Le V' V41 := Le.trans (by assumption) hV41
            refine AtC.nz ?_
            refine AtT.kcall rfl rfl ok76 (ih (L.length - (k + 1)) (by omega) (k + 1) (begun ++ [(k : Int)]) (had ||| s) _ _ _ rfl (by omega) (by omega) hor (hb'.le hVV41) hs41) ?_
            rintro v49 V49 hV49 hs49; have hVV49 : Le V' V49 := hVV41.trans hV49; obtain ⟨a49, c49, rfl, _⟩ := id hs49
            refine AtC.kgo ?_
            refine AtC.kq (by (refine AtT.kassign ?_); exact At.knows) ?_
            refine AtC.done ?_
        rotate_right
        focus
          refine AtC.nz ?_
          refine AtT.kbsliceG (bs25_1_0 _) ?_
          intro q39 V39 hV39 hq39
          have g39 : Le V V39 := by first | exact hV39 | exact Le.trans (by assumption) hV39
          refine AtC.kgo ?_
          refine AtC.nz ?_
          refine AtT.bsliceR0 rfl trivial rfl bs25_0 (by decide) (s := 1) (fun b35 => ?_)
          refine AtC.kgo ?_
          refine AtC.nz ?_
          refine AtT.appendRS rfl trivial Try.underlying25 rw3 rfl (by decide) rfl rfl Pick.auto (by first | exact hsv | exact hsv.le (by assumption)) Lw.ei_len (fun _ => rfl) (by unfold maxLen; omega) (by omega) (by decide) (fun a37 c37 => ?_)
          refine AtC.kgo ?_
          rw [Nat.zero_add, List.nil_append]
          refine AtC.nz ?_
          first | refine AtT.kappend Try.underlying25 rw3 ?_
          intro a40 c40
          refine AtC.kgo ?_
          refine AtC.giveSl (l := begun ++ [(k : Int)]) Lw.ei_len (flat_snoc _ _ _).symm hnl.symm Pick.auto (fun V41 hV41 hs41 => ?_)
          have hVV41 : Le V' V41 := Le.trans (by assumption) hV41
          refine AtC.nz ?_
          refine AtT.kcall rfl rfl ok76 (ih (L.length - (k + 1)) (by omega) (k + 1) (begun ++ [(k : Int)]) (had ||| s) _ _ _ rfl (by omega) (by omega) hor (hb'.le hVV41) hs41) ?_
          rintro v49 V49 hV49 hs49; have hVV49 : Le V' V49 := hVV41.trans hV49; obtain ⟨a49, c49, rfl, _⟩ := id hs49
          refine AtC.kgo ?_
          refine AtC.kq (by (refine AtT.kassign ?_); exact At.knows) ?_
          refine AtC.done ?_
        all_goals (refine At.nrm ?_)
        all_goals (exact At.meetG (a49, c49) ⟨hVV49, hs49⟩ ⟨rfl, rfl, rfl, rfl, rfl, rfl, trivial⟩ Pt.auto)
      rintro ⟨a49, c49⟩ V49 ks' O' ⟨hV49, hs49⟩ hk2 hO hl4
      dsimp only at hk2 hO hs49
      subst hk2 hO
      have hso3 := hso.le hV49
      refine At.nrm ?_
      refine At.ktext (.q 0 (.q 1 (.q 2 (.q 3 (.q 4 .done))))) ?_
      refine AtT.kmove ?_
      first | refine AtT.klenS Try.underlying25 ?_ | refine AtT.klenR Try.underlying25 ?_
      refine AtT.kmove ?_
      first | refine AtT.klenS Try.underlying25 ?_ | refine AtT.klenR Try.underlying25 ?_
      refine AtT.kgtr ?_
      refine AtT.done ?_
      refine At.nrm ?_
      refine At.condP rfl (fun hq => ?_) (fun hq => ?_)
      · rw [aG_more hm (by omega)] at heq
        refine At.nrm ?_
        refine At.ktext (.q 0 (.q 1 .done)) ?_
        refine AtT.kmove ?_
        refine AtT.kassign ?_
        refine AtT.done ?_
        refine At.nrm ?_
        exact At.meetG (aG (prR (k + 1) (L.drop (k + 1))) (begun ++ [(k : Int)]) (begun ++ [(k : Int)]) (had ||| s), a49, c49) ⟨hV49, hs49, heq, hap⟩ ⟨rfl, rfl, rfl, rfl, rfl, trivial⟩ Pt.auto
      · rw [aG_same hm (by omega)] at heq
        refine At.nrm ?_
        exact At.meetG (out, ao, co) ⟨hV49, hso3, heq, hol⟩ ⟨rfl, rfl, rfl, rfl, rfl, trivial⟩ Pt.auto
  rintro ⟨out2, ao2, co2⟩ V3 ks' O' ⟨hV3, hso3, heq3, hol3⟩ hk2 hO hl4
  dsimp only at hk2 hO hso3 heq3 hol3
  subst hk2 hO
  refine At.nrm ?_
  refine At.ktext (.q 0 (.q 1 (.q 2 .done))) ?_
  refine AtT.kmove ?_
  first | refine AtT.kadd ?_ | refine AtT.kaddW ?_
  refine AtT.kassign ?_
  refine AtT.done ?_
  refine At.nrm ?_
  refine At.round (k + 1, out2, ao2, co2) ?_ ?_ ?_ ?_
  · show L.length - (k + 1) < L.length - k; omega
  · exact ⟨hVV.trans hV3, by dsimp only; omega, by dsimp only; omega, hso3, heq3, hol3⟩
  · exact ⟨rfl, rfl, rfl, rfl, ivs (by dsimp only; omega), trivial⟩
  · exact Pt.auto
theorem rapF_f (ts : List Tq) (V : View) (v : Value) (hs : Sl V tqe 4 v ts) : Fnc Try.prog 34 [v] V fun r V' => ∃ u, r = .tuple #[u, iv (trE ts)] ∧ SlI V' u (apR ts) := by
  refine fn_of Try.func34 rfl Try.ntmps34 (Nat.le_of_ble_eq_true rfl) ?_
  intro w0 hw0
  refine At.nrm ?_
  refine At.ktext (.q 0 (.q 1 .done)) ?_
  refine AtT.kassign ?_
  refine AtT.kassign ?_
  refine AtT.done ?_
  refine At.nrm ?_
  refine At.ktext (.q 0 (.n false 1 (.q 2 .done))) ?_
  refine AtT.kmove ?_
  refine AtT.kcallP rfl rfl ok22 (rtrials_f ts _ _ hs) ?_
  rintro _ rfl
  refine AtT.kneI ?_
  refine AtT.done ?_
  refine At.nrm ?_
  refine At.condP rfl (fun he => ?_) (fun he => ?_)
  · refine At.nrm ?_
    refine At.ktext (.q 0 (.n false 1 (.q 2 (.q 3 .done)))) ?_
    refine AtT.kmove ?_
    refine AtT.kcallP rfl rfl ok22 (rtrials_f ts _ _ hs) ?_
    rintro _ rfl
    refine AtT.kassign ?_
    refine AtT.kassign ?_
    refine AtT.done ?_
    refine At.nrm ?_
    exact At.ret2 rfl (.tmp rfl) (.tmp rfl) ⟨_, rfl, by unfold apR; rw [if_neg he]; exact Sl.nil _ _ _⟩
  have he' : trE ts = 0 := Decidable.not_not.1 he
  obtain ⟨h16, ht⟩ := trE_ok he'
  have hll : (lfL ts).length = ts.length := by unfold lfL; rw [List.length_map]
  refine At.nrm ?_
  refine At.ktext (.q 0 (.n false 1 (.n false 2 (.q 3 (.q 4 .done))))) ?_
  refine AtT.kmove ?_
  refine AtT.kcall rfl rfl ok69 (left_f ts ht (by omega) _ _ hs) ?_
  rintro v10 V10 hV10 hs10
  refine AtT.kcall rfl rfl ok76 (goOn_f (lfL ts) (lf_bd ht) (by omega) _ 0 [] 0 _ _ _ rfl (by omega) (by simp) (by decide) hs10 (Sl.nil _ _ _)) ?_
  rintro v11 V11 hV11 hs11
  refine AtT.kassign ?_
  refine AtT.kassign ?_
  refine AtT.done ?_
  refine At.nrm ?_
  rw [List.drop_zero, ← prP_eq] at hs11
  exact At.ret2 rfl (.tmp rfl) (.tmp rfl) ⟨_, by rw [he'], by unfold apR; rw [if_pos he']; exact hs11⟩
end Go.Proofs.Ytfcpmblmklibjaa
set_option linter.unusedVariables false
namespace Go.Proofs.Ytfcpmblmklibjaa
open Go.Lw Go.Gl Go.Bl Go.RowKit

/-- The place of a number. -/
theorem indexI_f (l : List Int) (s : Int) (V : View) (v : Value) (hs : SlI V v l) : Fnc Try.prog 79 [v, iv s] V fun r _ => r = iv (ixI (l.findIdx? (· == s))) := by
  have hlen := hs.lenLe
  obtain ⟨a, c, rfl, k1, k2, _⟩ := id hs
  clear k1 k2
  refine fn_of Try.func79 rfl Try.ntmps79 (Nat.le_of_ble_eq_true rfl) ?_
  intro w0 hw0
  refine At.nrm ?_
  refine At.ktext (.q 0 .done) ?_
  refine AtT.kassign ?_
  refine AtT.done ?_
  refine At.nrm ?_
  refine At.ktext (.q 0 (.q 1 (.q 2 .done))) ?_
  refine AtT.kmove ?_
  first | refine AtT.klenS Try.underlying25 ?_ | refine AtT.klenR Try.underlying25 ?_
  refine AtT.kmove ?_
  refine AtT.done ?_
  refine At.nrm ?_
  refine At.lp (ι := Nat) (KS := fun k => [(0, .slice a l.length c), (1, iv s), (7, iv l.length), (8, iv k)]) (OS := fun _ => []) (VS := fun k V' => V' = V ∧ k ≤ l.length ∧ ∀ (j : Nat) (y : Int), j < k → l[j]? = some y → (y == s) = false) (μ := fun k => l.length - k) 0 ?_ ?_ ?_ ?_
  · exact ⟨rfl, rfl, rfl, rfl, trivial⟩
  · exact Pt.auto
  · exact ⟨rfl, Nat.zero_le _, fun j y hj => absurd hj (Nat.not_lt_zero j)⟩
  rintro k V' ks' O' ⟨rfl, hkl, hok⟩ hk hO hl2
  subst hk hO
  refine At.nrm ?_
  refine At.ktext (.q 0 .done) ?_
  refine AtT.klss ?_
  refine AtT.done ?_
  refine At.nrm ?_
  refine At.condP rfl (fun hp => ?_) (fun hp => ?_)
  · obtain ⟨x, hx⟩ : ∃ x, l[k]? = some x := ⟨_, List.getElem?_eq_getElem (by omega)⟩
    refine At.nrm ?_
    refine At.ktext (.q 0 (.q 1 .done)) ?_
    refine AtT.kmove ?_
    refine AtT.kassign ?_
    refine AtT.done ?_
    refine At.nrm ?_
    refine At.ktext (.q 0 (.q 1 (.q 2 (.q 3 (.q 4 (.q 5 .done)))))) ?_
    refine AtT.kmove ?_
    refine AtT.kmove ?_
    refine AtT.kmove ?_
    refine AtT.kidx Try.underlying25 tk3 ?_
    intro p14 e14 he14 hc14
    obtain rfl : x = e14 := by have : l[k]? = some e14 := (by simpa using he14); rw [hx] at this; simpa using this
    first | refine AtT.kloadO tk3 ?_ | refine AtT.kload tk3 ?_
    refine AtT.keqI ?_
    refine AtT.done ?_
    refine At.nrm ?_
    refine At.condP rfl (fun hc => ?_) (fun hc => ?_)
    · refine At.nrm ?_
      refine At.ktext (.q 0 (.q 1 .done)) ?_
      refine AtT.kmove ?_
      refine AtT.kassign ?_
      refine AtT.done ?_
      refine At.nrm ?_
      exact At.ret1 rfl (.tmp rfl) (by rw [fi_hit hx (by simp [hc]) hok]; rfl)
    · refine At.nrm ?_
      refine At.ktext (.q 0 (.q 1 .done)) ?_
      first | refine AtT.kadd ?_ | refine AtT.kaddW ?_
      refine AtT.kmove ?_
      refine AtT.done ?_
      refine At.nrm ?_
      refine At.round (k + 1) ?_ ?_ ?_ ?_
      · show l.length - (k + 1) < l.length - k; omega
      · refine ⟨rfl, by omega, fun j y hj hy => ?_⟩
        by_cases hjk : j = k
        · subst hjk; rw [hx] at hy; cases hy; exact beq_false_of_ne (fun e => hc e.symm)
        · exact hok j y (by omega) hy
      · exact ⟨rfl, rfl, rfl, ivs (by omega), trivial⟩
      · exact Pt.auto
  · refine At.nrm ?_
    refine At.ktext (.q 0 .done) ?_
    refine AtT.kassign ?_
    refine AtT.done ?_
    refine At.nrm ?_
    exact At.ret1 rfl (.tmp rfl) (by rw [fi_none fun j y hj hy => hok j y (by omega) hy]; rfl)
theorem rckAp_f (ts : List Tq) (l : List Int) (V : View) (v u : Value) (hs : Sl V tqe 4 v ts) (hu : SlI V u l) : Fnc Try.prog 36 [v, u] V fun r _ => r = iv (ckR ts l) := by
  have hlen := hs.lenLe
  have hlen2 := hu.lenLe
  obtain ⟨a, c, rfl, k1, k2, _⟩ := id hs
  obtain ⟨a1, c1, rfl, k3, k4, _⟩ := id hu
  clear k1 k2 k3 k4
  refine fn_of Try.func36 rfl Try.ntmps36 (Nat.le_of_ble_eq_true rfl) ?_
  intro w0 hw0
  refine At.nrm ?_
  refine At.ktext (.q 0 .done) ?_
  refine AtT.kassign ?_
  refine AtT.done ?_
  refine At.nrm ?_
  refine At.ktext (.q 0 (.n false 1 (.q 2 .done))) ?_
  refine AtT.kmove ?_
  refine AtT.kcallP rfl rfl ok22 (rtrials_f ts _ _ hs) ?_
  rintro _ rfl
  refine AtT.kneI ?_
  refine AtT.done ?_
  refine At.nrm ?_
  refine At.condP rfl (fun he => ?_) (fun he => ?_)
  · refine At.nrm ?_
    refine At.ktext (.q 0 (.n false 1 (.q 2 .done))) ?_
    refine AtT.kmove ?_
    refine AtT.kcallP rfl rfl ok22 (rtrials_f ts _ _ hs) ?_
    rintro _ rfl
    refine AtT.kassign ?_
    refine AtT.done ?_
    refine At.nrm ?_
    exact At.ret1 rfl (.tmp rfl) (by rw [ckR_tr he])
  have he' : trE ts = 0 := Decidable.not_not.1 he
  obtain ⟨h16, ht⟩ := trE_ok he'
  have hll : (lfL ts).length = ts.length := by unfold lfL; rw [List.length_map]
  have hbd := lf_bd ht
  refine At.nrm ?_
  cases h1 : lstB l ts.length with
  | false =>
    refine At.ktext (.q 0 (.q 1 (.q 2 (.n false 3 (.q 4 .done))))) ?_
    refine AtT.kmove ?_
    refine AtT.kmove ?_
    first | refine AtT.klenS Try.underlying22 ?_ | refine AtT.klenR Try.underlying22 ?_
    refine AtT.kcallP rfl rfl ok41 (isList_f l ts.length _ _ hu) ?_
    rintro _ rfl; rw [h1]
    refine AtT.knot ?_
    refine AtT.done ?_
    refine At.nrm ?_
    refine At.condT rfl rfl ?_
    refine At.nrm ?_
    refine At.ktext (.q 0 .done) ?_
    refine AtT.kassign ?_
    refine AtT.done ?_
    refine At.nrm ?_
    exact At.ret1 rfl (.tmp rfl) (by rw [ckR_arg he' h1])
  | true =>
  have hin := lstB_in h1
  refine At.ktext (.q 0 (.q 1 (.q 2 (.n false 3 (.q 4 .done))))) ?_
  refine AtT.kmove ?_
  refine AtT.kmove ?_
  first | refine AtT.klenS Try.underlying22 ?_ | refine AtT.klenR Try.underlying22 ?_
  refine AtT.kcallP rfl rfl ok41 (isList_f l ts.length _ _ hu) ?_
  rintro _ rfl; rw [h1]
  refine AtT.knot ?_
  refine AtT.done ?_
  refine At.nrm ?_
  refine At.condF rfl rfl ?_
  refine At.nrm ?_
  refine At.ktext (.q 0 (.n false 1 (.q 2 (.q 3 .done)))) ?_
  refine AtT.kmove ?_
  refine AtT.kcall rfl rfl ok69 (left_f ts ht (by omega) _ _ hs) ?_
  rintro v20 V20 hV20 hs20; obtain ⟨a2, c2, rfl, _⟩ := id hs20
  refine AtT.kassign ?_
  refine AtT.kassign ?_
  refine AtT.done ?_
  refine At.nrm ?_
  have hu20 := hu.le hV20
  refine At.ktext (.q 0 .done) ?_
  refine AtT.kassign ?_
  refine AtT.done ?_
  refine At.nrm ?_
  have hget : ∀ {k : Nat} {x : Int}, l[k]? = some x → ∃ y, (lfL ts)[x.toNat]? = some y ∧ (lfL ts).getD x.toNat 0 = y ∧ -1 ≤ y ∧ y < 32768 ∧ 0 ≤ x ∧ x < ts.length := fun {k x} hx => by
    have := hin x (List.mem_of_getElem? hx)
    obtain ⟨y, hy⟩ : ∃ y, (lfL ts)[x.toNat]? = some y := ⟨_, List.getElem?_eq_getElem (by omega)⟩
    have hb := hbd y (List.mem_of_getElem? hy)
    exact ⟨y, hy, by simp [List.getD, hy], hb.1, hb.2, this.1, this.2⟩
  refine At.lp (ι := Nat) (KS := fun k => [(1, .slice a1 l.length c1), (5, .slice a2 (lfL ts).length c2), (6, iv 0), (7, iv k)]) (OS := fun _ => []) (VS := fun k V' => V' = V20 ∧ k ≤ l.length ∧ ∀ (j : Nat) (x : Int), j < k → l[j]? = some x → 0 ≤ (lfL ts).getD x.toNat 0) (μ := fun k => l.length - k) 0 ?_ ?_ ?_ ?_
  · exact ⟨rfl, rfl, rfl, rfl, trivial⟩
  · exact Pt.auto
  · exact ⟨rfl, Nat.zero_le _, fun j y hj => absurd hj (Nat.not_lt_zero j)⟩
  rintro k V' ks' O' ⟨rfl, hkl, hok⟩ hk hO hl2
  subst hk hO
  refine At.nrm ?_
  refine At.ktext (.q 0 (.q 1 (.q 2 (.q 3 .done)))) ?_
  refine AtT.kmove ?_
  refine AtT.kmove ?_
  first | refine AtT.klenS Try.underlying25 ?_ | refine AtT.klenR Try.underlying25 ?_
  refine AtT.klss ?_
  refine AtT.done ?_
  refine At.nrm ?_
  refine At.condP rfl (fun hp => ?_) (fun hp => ?_)
  · obtain ⟨x, hx⟩ : ∃ x, l[k]? = some x := ⟨_, List.getElem?_eq_getElem (by omega)⟩
    obtain ⟨y, hy, hyd, hb1, hb2, hx0, hx1⟩ := hget hx
    refine At.nrm ?_
    refine At.ktext (.q 0 (.q 1 (.q 2 (.q 3 (.q 4 (.q 5 (.q 6 (.q 7 .done)))))))) ?_
    refine AtT.kmove ?_
    refine AtT.kmove ?_
    refine AtT.kmove ?_
    refine AtT.kidx Try.underlying25 tk3 ?_
    intro p30 e30 he30 hc30
    obtain rfl : x = e30 := by have : l[k]? = some e30 := (by simpa using he30); rw [hx] at this; simpa using this
    first | refine AtT.kloadO tk3 ?_ | refine AtT.kload tk3 ?_
    refine AtT.kidx Try.underlying25 tk3 ?_
    intro p32 e32 he32 hc32
    obtain rfl : y = e32 := by rw [hy] at he32; simpa using he32
    first | refine AtT.kloadO tk3 ?_ | refine AtT.kload tk3 ?_
    refine AtT.klss ?_
    refine AtT.done ?_
    refine At.nrm ?_
    refine At.condP rfl (fun hc => ?_) (fun hc => ?_)
    · refine At.nrm ?_
      refine At.ktext (.q 0 .done) ?_
      refine AtT.kassign ?_
      refine AtT.done ?_
      refine At.nrm ?_
      exact At.ret1 rfl (.tmp rfl) (by rw [ckR_range he' h1 (ng_true (List.mem_of_getElem? hx) (by rw [hyd]; exact hc))])
    · refine At.nrm ?_
      refine At.ktext (.q 0 (.q 1 (.q 2 .done))) ?_
      refine AtT.kmove ?_
      first | refine AtT.kadd ?_ | refine AtT.kaddW ?_
      refine AtT.kassign ?_
      refine AtT.done ?_
      refine At.nrm ?_
      refine At.round (k + 1) ?_ ?_ ?_ ?_
      · show l.length - (k + 1) < l.length - k; omega
      · refine ⟨rfl, by omega, fun j y' hj hy' => ?_⟩
        by_cases hjk : j = k
        · subst hjk; rw [hx] at hy'; cases hy'; omega
        · exact hok j y' (by omega) hy'
      · exact ⟨rfl, rfl, rfl, ivs (by omega), trivial⟩
      · exact Pt.auto
  have hng : ngB (lfL ts) l = false := ng_false fun x hx => by
    obtain ⟨j, hj⟩ := List.mem_iff_getElem?.1 hx
    exact hok j x (by have := (List.getElem?_eq_some_iff.1 hj).1; omega) hj
  refine At.nrm ?_
  refine At.ktext (.q 0 .done) ?_
  refine AtT.kassign ?_
  refine AtT.done ?_
  refine At.nrm ?_
  refine At.lp (ι := Nat) (KS := fun k => [(1, .slice a1 l.length c1), (5, .slice a2 (lfL ts).length c2), (6, iv (hdK (lfL ts) l k)), (8, iv k)]) (OS := fun _ => []) (VS := fun k V'' => V'' = V' ∧ k ≤ l.length ∧ ∀ (j : Nat) (x : Int), j < k → l[j]? = some x → mtB (gtL (lfL ts) x) (hdK (lfL ts) l j) = false) (μ := fun k => l.length - k) 0 ?_ ?_ ?_ ?_
  · exact ⟨rfl, rfl, rfl, rfl, trivial⟩
  · exact Pt.auto
  · exact ⟨rfl, Nat.zero_le _, fun j y hj => absurd hj (Nat.not_lt_zero j)⟩
  rintro k2 V3 ks' O' ⟨rfl, hkl2, hok2⟩ hk hO hl3
  subst hk hO
  refine At.nrm ?_
  refine At.ktext (.q 0 (.q 1 (.q 2 (.q 3 .done)))) ?_
  refine AtT.kmove ?_
  refine AtT.kmove ?_
  first | refine AtT.klenS Try.underlying25 ?_ | refine AtT.klenR Try.underlying25 ?_
  refine AtT.klss ?_
  refine AtT.done ?_
  refine At.nrm ?_
  refine At.condP rfl (fun hp2 => ?_) (fun hp2 => ?_)
  rotate_left
  · have hd : disB (lfL ts) l = true := dis_true fun j x hx => hok2 j x (by have := (List.getElem?_eq_some_iff.1 hx).1; omega) hx
    refine At.nrm ?_
    refine At.ktext (.q 0 .done) ?_
    refine AtT.kassign ?_
    refine AtT.done ?_
    refine At.nrm ?_
    exact At.ret1 rfl (.tmp rfl) (by rw [ckR_ok he' h1 hng hd])
  obtain ⟨x, hx⟩ : ∃ x, l[k2]? = some x := ⟨_, List.getElem?_eq_getElem (by omega)⟩
  obtain ⟨y, hy, hyd, hb1, hb2, hx0, hx1⟩ := hget hx
  have hy0 := ng_at hng (List.mem_of_getElem? hx)
  rw [hyd] at hy0
  obtain ⟨s, rfl⟩ : ∃ s : Nat, y = (s : Int) := ⟨y.toNat, by omega⟩
  have hgt : gtL (lfL ts) x = s := by unfold gtL; rw [hyd]; simp
  have hhd := hdK_lt (l := l) hbd k2
  have hnx := hdK_succ (L := lfL ts) hx
  rw [hgt] at hnx
  refine At.nrm ?_
  by_cases hm : s &&& hdK (lfL ts) l k2 = 0
  rotate_left
  · refine At.ktext (.q 0 (.q 1 (.q 2 (.q 3 (.q 4 (.q 5 (.q 6 (.q 7 (.q 8 (.q 9 .done)))))))))) ?_
    refine AtT.kmove ?_
    refine AtT.kmove ?_
    refine AtT.kmove ?_
    refine AtT.kidx Try.underlying25 tk3 ?_
    intro p44 e44 he44 hc44
    obtain rfl : x = e44 := by have : l[k2]? = some e44 := (by simpa using he44); rw [hx] at this; simpa using this
    first | refine AtT.kloadO tk3 ?_ | refine AtT.kload tk3 ?_
    refine AtT.kidx Try.underlying25 tk3 ?_
    intro p46 e46 he46 hc46
    obtain rfl : (s : Int) = e46 := by rw [hy] at he46; simpa using he46
    first | refine AtT.kloadO tk3 ?_ | refine AtT.kload tk3 ?_
    refine AtT.kmove ?_
    refine AtT.andN rfl trivial rfl rfl rfl rfl (by omega) (by omega) (by decide) (A := s) (B := hdK (lfL ts) l k2) ?_
    refine AtT.kneI ?_
    refine AtT.done ?_
    refine At.nrm ?_
    refine At.condT rfl (decide_eq_true (by omega)) ?_
    refine At.nrm ?_
    refine At.ktext (.q 0 .done) ?_
    refine AtT.kassign ?_
    refine AtT.done ?_
    refine At.nrm ?_
    exact At.ret1 rfl (.tmp rfl) (by rw [ckR_rule he' h1 hng (dis_false hx (by rw [hgt]; exact decide_eq_true hm))])
  refine At.ktext (.q 0 (.q 1 (.q 2 (.q 3 (.q 4 (.q 5 (.q 6 (.q 7 (.q 8 (.q 9 .done)))))))))) ?_
  refine AtT.kmove ?_
  refine AtT.kmove ?_
  refine AtT.kmove ?_
  refine AtT.kidx Try.underlying25 tk3 ?_
  intro p44 e44 he44 hc44
  obtain rfl : x = e44 := by have : l[k2]? = some e44 := (by simpa using he44); rw [hx] at this; simpa using this
  first | refine AtT.kloadO tk3 ?_ | refine AtT.kload tk3 ?_
  refine AtT.kidx Try.underlying25 tk3 ?_
  intro p46 e46 he46 hc46
  obtain rfl : (s : Int) = e46 := by rw [hy] at he46; simpa using he46
  first | refine AtT.kloadO tk3 ?_ | refine AtT.kload tk3 ?_
  refine AtT.kmove ?_
  refine AtT.andN rfl trivial rfl rfl rfl rfl (by omega) (by omega) (by decide) (A := s) (B := hdK (lfL ts) l k2) ?_
  refine AtT.kneI ?_
  refine AtT.done ?_
  refine At.nrm ?_
  refine At.condF rfl (decide_eq_false (by omega)) ?_
  refine At.nrm ?_
  refine At.ktext (.q 0 (.q 1 (.q 2 (.q 3 (.q 4 (.q 5 (.q 6 (.q 7 (.q 8 (.q 9 .done)))))))))) ?_
  refine AtT.kmove ?_
  refine AtT.kmove ?_
  refine AtT.kmove ?_
  refine AtT.kmove ?_
  refine AtT.kidx Try.underlying25 tk3 ?_
  intro p55 e55 he55 hc55
  obtain rfl : x = e55 := by have : l[k2]? = some e55 := (by simpa using he55); rw [hx] at this; simpa using this
  first | refine AtT.kloadO tk3 ?_ | refine AtT.kload tk3 ?_
  refine AtT.kidx Try.underlying25 tk3 ?_
  intro p57 e57 he57 hc57
  obtain rfl : (s : Int) = e57 := by rw [hy] at he57; simpa using he57
  first | refine AtT.kloadO tk3 ?_ | refine AtT.kload tk3 ?_
  refine AtT.orN rfl trivial rfl rfl rfl rfl (by omega) (by omega) (by decide) (A := hdK (lfL ts) l k2) (B := s) ?_
  refine AtT.kassign ?_
  refine AtT.done ?_
  refine At.nrm ?_
  refine At.ktext (.q 0 (.q 1 (.q 2 .done))) ?_
  refine AtT.kmove ?_
  first | refine AtT.kadd ?_ | refine AtT.kaddW ?_
  refine AtT.kassign ?_
  refine AtT.done ?_
  refine At.nrm ?_
  refine At.round (k2 + 1) ?_ ?_ ?_ ?_
  · show l.length - (k2 + 1) < l.length - k2; omega
  · refine ⟨rfl, by omega, fun j y' hj hy' => ?_⟩
    by_cases hjk : j = k2
    · subst hjk; rw [hx] at hy'; cases hy'; rw [hgt]; exact decide_eq_false (fun hh => hh hm)
    · exact hok2 j y' (by omega) hy'
  · rw [hnx]; exact ⟨rfl, rfl, rfl, ivs (by omega), trivial⟩
  · exact Pt.auto
end Go.Proofs.Ytfcpmblmklibjaa
set_option linter.unusedVariables false
namespace Go.Proofs.Ytfcpmblmklibjaa
open Go.Lw Go.Gl Go.Bl Go.RowKit

theorem notF_f (ts : List Tq) (i : Int) (hi : 0 ≤ i ∧ i < ts.length) (V : View) (q : Addr) (a : Option Addr) (c : Nat) (hq : Cells V q [.slice a ts.length c]) (hs : Sl V tqe 4 (.slice a ts.length c) ts) : Fnc Try.prog 78 ([] ++ [iv i] ++ [.pointer (some q)]) V fun r _ => r = .bool (decide ((lfL ts).getD i.toNat 0 < 0)) := by
  have hlen := hs.lenLe
  obtain ⟨t, ht⟩ : ∃ t, ts[i.toNat]? = some t := ⟨_, List.getElem?_eq_getElem (by omega)⟩
  have hl := lf_at ht
  have hg : (lfL ts).getD i.toNat 0 = lfI (clA ts) t := by simp [List.getD, hl]
  have hb : (!t.f) = decide ((lfL ts).getD i.toNat 0 < 0) := by
    rw [hg]
    cases c : t.f with
    | false => rw [decide_eq_true (lfI_neg.2 c)]; rfl
    | true => rw [decide_eq_false (fun h => by rw [lfI_neg.1 h] at c; cases c)]; rfl
  refine fn_of Try.func78 rfl Try.ntmps78 (Nat.le_of_ble_eq_true rfl) ?_
  intro w0 hw0
  refine At.nrm ?_
  refine At.ktext (.q 0 .done) ?_
  refine AtT.kassign ?_
  refine AtT.done ?_
  refine At.nrm ?_
  refine At.ktext (.q 0 (.q 1 (.q 2 (.q 3 (.q 4 (.q 5 (.q 6 .done))))))) ?_
  first | refine AtT.kloadO tk22 ?_ | refine AtT.kload tk22 ?_
  refine AtT.kmove ?_
  refine AtT.kidx Try.underlying22 tk53 ?_
  intro p6 e6 he6 hc6
  obtain rfl : t = e6 := by rw [ht] at he6; simpa using he6
  first | refine AtT.kfieldO fo53_1 ?_ | with_reducible refine AtT.kfield2 fo53_1 ?_ | refine AtT.kfield fo53_1 ?_
  first | refine AtT.kloadO tk4 ?_ | refine AtT.kload tk4 ?_
  refine AtT.knot ?_
  refine AtT.kassign ?_
  refine AtT.done ?_
  refine At.nrm ?_
  exact At.ret1 rfl (.tmp rfl) (by rw [← hb])
theorem ckAp_f (ts : List Tq) (l : List Int) (V : View) (v u : Value) (hs : Sl V tqe 4 v ts) (hu : SlI V u l) : Fnc Try.prog 35 [v, u] V fun r _ => r = iv (ckR ts l) := by
  have hlen := hs.lenLe
  have hlen2 := hu.lenLe
  obtain ⟨a, c, rfl, k1, k2, _⟩ := id hs
  obtain ⟨a1, c1, rfl, k3, k4, _⟩ := id hu
  clear k1 k2 k3 k4
  refine fn_of Try.func35 rfl Try.ntmps35 (Nat.le_of_ble_eq_true rfl) ?_
  intro w0 hw0
  refine At.nrm ?_
  refine At.ktext (.n false 0 (.q 1 .done)) ?_
  refine AtT.kbox ?_
  intro b2
  refine AtT.kassign ?_
  refine AtT.done ?_
  refine At.nrm ?_
  by_cases h0 : trE ts = 0
  rotate_left
  · refine At.ktext (.q 0 (.n false 1 (.q 2 (.q 3 (.q 4 (.q 5 (.q 6 .done))))))) ?_
    first | refine AtT.kloadO tk22 ?_ | refine AtT.kload tk22 ?_
    refine AtT.kcallP rfl rfl ok59 (open_bad ts h0 _ _ hs) ?_
    rintro _ rfl
    refine AtT.kmove ?_
    refine AtT.kextract ?_
    refine AtT.kextract ?_
    refine AtT.kassign ?_
    refine AtT.kassign ?_
    refine AtT.done ?_
    refine At.nrm ?_
    refine At.ktext (.q 0 (.q 1 (.q 2 .done))) ?_
    refine AtT.kmove ?_
    refine AtT.kneI ?_
    refine AtT.kassign ?_
    refine AtT.done ?_
    refine At.nrm ?_
    refine At.condT rfl (decide_eq_true h0) ?_
    refine At.nrm ?_
    refine At.ktext (.q 0 (.q 1 .done)) ?_
    refine AtT.kmove ?_
    refine AtT.kassign ?_
    refine AtT.done ?_
    refine At.nrm ?_
    exact At.ret1 rfl (.tmp rfl) (by rw [ckR_tr h0])
  obtain ⟨h16, ht⟩ := trE_ok h0
  have hll : (lfL ts).length = ts.length := by unfold lfL; rw [List.length_map]
  have hbd := lf_bd ht
  refine At.ktext (.q 0 (.n false 1 (.q 2 (.q 3 (.q 4 (.q 5 (.q 6 .done))))))) ?_
  first | refine AtT.kloadO tk22 ?_ | refine AtT.kload tk22 ?_
  refine AtT.kcall rfl rfl ok59 (open_ok ts h0 _ _ hs) ?_
  rintro _ V1 hV1 ⟨p, rfl, hb⟩
  refine AtT.kmove ?_
  refine AtT.kextract ?_
  refine AtT.kextract ?_
  refine AtT.kassign ?_
  refine AtT.kassign ?_
  refine AtT.done ?_
  refine At.nrm ?_
  have hu1 := hu.le hV1
  have hs1 := hs.le hV1
  refine At.ktext (.q 0 (.q 1 (.q 2 .done))) ?_
  refine AtT.kmove ?_
  refine AtT.kneI ?_
  refine AtT.kassign ?_
  refine AtT.done ?_
  refine At.nrm ?_
  refine At.condF rfl (decide_eq_false (by simp)) ?_
  refine At.nrm ?_
  cases h1 : lstB l ts.length with
  | false =>
    refine At.ktext (.q 0 (.q 1 (.q 2 (.n false 3 (.q 4 (.q 5 .done)))))) ?_
    refine AtT.kmove ?_
    first | refine AtT.kloadO tk22 ?_ | refine AtT.kload tk22 ?_
    first | refine AtT.klenS Try.underlying22 ?_ | refine AtT.klenR Try.underlying22 ?_
    refine AtT.kcallP rfl rfl ok63 (rising_f l ts.length (by omega) _ _ hu1) ?_
    rintro _ rfl; rw [h1]
    refine AtT.knot ?_
    refine AtT.kassign ?_
    refine AtT.done ?_
    refine At.nrm ?_
    refine At.condT rfl rfl ?_
    refine At.nrm ?_
    refine At.ktext (.q 0 .done) ?_
    refine AtT.kassign ?_
    refine AtT.done ?_
    refine At.nrm ?_
    exact At.ret1 rfl (.tmp rfl) (by rw [ckR_arg h0 h1])
  | true =>
  have hin := lstB_in h1
  refine At.ktext (.q 0 (.q 1 (.q 2 (.n false 3 (.q 4 (.q 5 .done)))))) ?_
  refine AtT.kmove ?_
  first | refine AtT.kloadO tk22 ?_ | refine AtT.kload tk22 ?_
  first | refine AtT.klenS Try.underlying22 ?_ | refine AtT.klenR Try.underlying22 ?_
  refine AtT.kcallP rfl rfl ok63 (rising_f l ts.length (by omega) _ _ hu1) ?_
  rintro _ rfl; rw [h1]
  refine AtT.knot ?_
  refine AtT.kassign ?_
  refine AtT.done ?_
  refine At.nrm ?_
  refine At.condF rfl rfl ?_
  refine At.nrm ?_
  refine At.giveB (b := b2) Pick.auto (fun V2 hV2 hb2 => ?_)
  have hu2 := hu1.le hV2
  have hs2 := hs1.le hV2
  have hbb := hb.le hV2
  cases h2 : ngB (lfL ts) l with
  | true =>
    refine At.ktext (.q 0 (.q 1 (.n false 2 (.q 3 .done)))) ?_
    refine AtT.kmove ?_
    refine AtT.kfn ?_
    refine AtT.kcallP rfl rfl ok77 (contains_n 78 [.pointer (some ⟨b2, 0, none⟩)] (fun i => decide ((lfL ts).getD i.toNat 0 < 0)) _ _ l hu2 ok78 (fun x hx => notF_f ts x (hin x hx) _ _ a c (cells_blk hb2) hs2)) ?_
    rintro _ rfl
    refine AtT.kassign ?_
    refine AtT.done ?_
    refine At.nrm ?_
    refine At.condT rfl h2 ?_
    refine At.nrm ?_
    refine At.ktext (.q 0 .done) ?_
    refine AtT.kassign ?_
    refine AtT.done ?_
    refine At.nrm ?_
    exact At.ret1 rfl (.tmp rfl) (by rw [ckR_range h0 h1 h2])
  | false =>
  refine At.ktext (.q 0 (.q 1 (.n false 2 (.q 3 .done)))) ?_
  refine AtT.kmove ?_
  refine AtT.kfn ?_
  refine AtT.kcallP rfl rfl ok77 (contains_n 78 [.pointer (some ⟨b2, 0, none⟩)] (fun i => decide ((lfL ts).getD i.toNat 0 < 0)) _ _ l hu2 ok78 (fun x hx => notF_f ts x (hin x hx) _ _ a c (cells_blk hb2) hs2)) ?_
  rintro _ rfl
  refine AtT.kassign ?_
  refine AtT.done ?_
  refine At.nrm ?_
  refine At.condF rfl h2 ?_
  refine At.nrm ?_
  refine At.ktext (.n false 0 .done) ?_
  refine AtT.kalloc z72 ?_
  intro b7
  refine AtT.done ?_
  refine At.nrm ?_
  refine At.ktext (.q 0 (.q 1 (.q 2 .done))) ?_
  refine AtT.kmove ?_
  first | refine AtT.klenS Try.underlying25 ?_ | refine AtT.klenR Try.underlying25 ?_
  refine AtT.kmove ?_
  refine AtT.done ?_
  refine At.nrm ?_
  obtain ⟨a3, c3, hc3, hs3⟩ := bc_failed hbb
  obtain ⟨a4, c4, hc4, hs4⟩ := bc_left hbb
  have hlt := ls_lt (no := clA ts) ht ts.length
  have hfle := fl_ls (clA ts) ts ts.length
  have hfl1 : (flL ts).length = (lsL ts).length := hfle.1
  refine At.lp (ι := Nat) (KS := fun k => [(5, .pointer (some p)), (7, .pointer (some ⟨b7, 0, none⟩)), (30, .slice a1 l.length c1), (31, iv l.length), (32, iv k)]) (OS := fun k => [.blk b7 (LC (ste (hdK (lfL ts) l k)) 72)]) (VS := fun k V'' => Le V2 V'' ∧ k ≤ l.length ∧ ∀ (j : Nat) (x : Int), j < k → l[j]? = some x → mtB (gtL (lfL ts) x) (hdK (lfL ts) l j) = false) (μ := fun k => l.length - k) 0 ?_ ?_ ?_ ?_
  · exact ⟨rfl, rfl, rfl, rfl, rfl, trivial⟩
  · exact Pt.auto
  · exact ⟨by first | assumption | exact Le.refl _, Nat.zero_le _, fun j y hj => absurd hj (Nat.not_lt_zero j)⟩
  rintro k V3 ks' O' ⟨hV3, hkl, hok⟩ hk hO hl3
  subst hk hO
  have hu3 := hu2.le hV3
  have hcc3 := hc3.le hV3
  have hss3 := hs3.le hV3
  have hcc4 := hc4.le hV3
  have hss4 := hs4.le hV3
  refine At.nrm ?_
  refine At.ktext (.q 0 .done) ?_
  refine AtT.klss ?_
  refine AtT.done ?_
  refine At.nrm ?_
  refine At.condP rfl (fun hp2 => ?_) (fun hp2 => ?_)
  rotate_left
  · have hd : disB (lfL ts) l = true := dis_true fun j x hx => hok j x (by have := (List.getElem?_eq_some_iff.1 hx).1; omega) hx
    refine At.nrm ?_
    refine At.ktext (.q 0 .done) ?_
    refine AtT.kassign ?_
    refine AtT.done ?_
    refine At.nrm ?_
    exact At.ret1 rfl (.tmp rfl) (by rw [ckR_ok h0 h1 h2 hd])
  obtain ⟨x, hx⟩ : ∃ x, l[k]? = some x := ⟨_, List.getElem?_eq_getElem (by omega)⟩
  have hxi := hin x (List.mem_of_getElem? hx)
  obtain ⟨t, htx⟩ : ∃ t, ts[x.toNat]? = some t := ⟨_, List.getElem?_eq_getElem (by omega)⟩
  have hgd : (lfL ts).getD x.toNat 0 = lfI (clA ts) t := by simp [List.getD, lf_at htx]
  have hy0 := ng_at h2 (List.mem_of_getElem? hx)
  rw [hgd] at hy0
  have htf : t.f = true := by
    cases c : t.f with
    | true => rfl
    | false => have := (lfI_neg (no := clA ts)).2 c; omega
  obtain ⟨m, hm1, hm2, hm3⟩ := flK_find (clA ts) htx htf ts.length (by omega) (Nat.le_refl _)
  have hxx : ((x.toNat : Nat) : Int) = x := by omega
  rw [hxx] at hm1 hm3
  have hm1' : (flL ts)[m]? = some x := hm1
  obtain ⟨s, hse⟩ : ∃ s, s = clrB (cbN t.p) (clA ts) := ⟨_, rfl⟩
  rw [← hse] at hm2
  have hm2' : (lsL ts)[m]? = some s := hm2
  have hfx : (flL ts).findIdx? (· == x) = some m := fi_hit hm1' (by simp) hm3
  have hml := (List.getElem?_eq_some_iff.1 hm2').1
  have hgt : gtL (lfL ts) x = s := by
    unfold gtL; rw [hgd]; unfold lfI; rw [if_pos htf, hse]; simp
  have hslt := hlt s (List.mem_of_getElem? hm2')
  have hhd := hdK_lt (l := l) hbd k
  have hnx := hdK_succ (L := lfL ts) hx
  rw [hgt] at hnx
  refine At.nrm ?_
  refine At.ktext (.q 0 (.q 1 (.q 2 .done))) ?_
  refine AtT.kidx Try.underlying25 tk3 ?_
  intro p34 e34 he34 hc34
  obtain rfl : x = e34 := by have : l[k]? = some e34 := (by simpa using he34); rw [hx] at this; simpa using this
  first | refine AtT.kloadO tk3 ?_ | refine AtT.kload tk3 ?_
  refine AtT.kassign ?_
  refine AtT.done ?_
  refine At.nrm ?_
  refine At.cutG (ι := Nat) (fun b10 => [(5, .pointer (some p)), (7, .pointer (some ⟨b7, 0, none⟩)), (30, .slice a1 l.length c1), (31, iv l.length), (32, iv k), (10, .pointer (some ⟨b10, 0, none⟩))]) (fun b10 => [.blk b10 (LC (ste s) 72), .blk b7 (LC (ste (hdK (lfL ts) l k)) 72)]) (fun _ V'' => V'' = V3) ?_ ?_
  · refine At.draw (.q 0 (.q 1 (.q 2 (.q 3 (.q 4 (.q 5 (.q 6 (.q 7 (.q 8 (.two 9 (.q 10 (.q 11 (.n false 12 (.n true 13 .done)))) 12 (.n false 9 (.q 10 (.q 11 (.n true 13 .done)))))))))))))) ffm (by kernel_rfl) ?_
    refine AtT.kmove ?_
    refine AtT.knil ?_
    first | refine AtT.kfieldO fo82_2 ?_ | with_reducible refine AtT.kfield2 fo82_2 ?_ | refine AtT.kfield fo82_2 ?_
    first | refine AtT.kloadO tk80 ?_ | refine AtT.kload tk80 ?_
    refine AtT.kmove ?_
    refine AtT.knil ?_
    first | refine AtT.kfieldO fo82_1 ?_ | with_reducible refine AtT.kfield2 fo82_1 ?_ | refine AtT.kfield fo82_1 ?_
    first | refine AtT.kloadO tk25 ?_ | refine AtT.kload tk25 ?_
    refine AtT.kmove ?_
    refine AtT.two ?_ ?_
    focus
      refine AtT.kcallP rfl rfl ok79 (indexI_f (flL ts) x _ _ hss3) ?_
      rintro _ rfl; rw [hfx]; have hix0 : ixI (some m) = (m : Int) := rfl; rw [hix0]
      refine AtT.kidx Try.underlying80 tk72 ?_
      intro p46 e46 he46 hc46
      obtain rfl : s = e46 := by have : (lsL ts)[m]? = some e46 := (by simpa using he46); rw [hm2'] at this; simpa using this
      first | refine AtT.kloadOA tk72 ?_ | refine AtT.kloadA tk72 ?_ | refine AtT.kloadOP tk72 ?_
      refine AtT.kalloc z72 ?_
      intro b10
      refine AtT.kstoreA tk72 ?_
      refine AtT.done ?_
    rotate_right
    focus
      refine AtT.kalloc z72 ?_
      intro b10
      refine AtT.kcallP rfl rfl ok79 (indexI_f (flL ts) x _ _ hss3) ?_
      rintro _ rfl; rw [hfx]; have hix0 : ixI (some m) = (m : Int) := rfl; rw [hix0]
      refine AtT.kidx Try.underlying80 tk72 ?_
      intro p46 e46 he46 hc46
      obtain rfl : s = e46 := by have : (lsL ts)[m]? = some e46 := (by simpa using he46); rw [hm2'] at this; simpa using this
      first | refine AtT.kloadOA tk72 ?_ | refine AtT.kloadA tk72 ?_ | refine AtT.kloadOP tk72 ?_
      refine AtT.kstoreA tk72 ?_
      refine AtT.done ?_
    all_goals (refine At.nrm ?_)
    all_goals (exact At.meetG b10 rfl ⟨rfl, rfl, rfl, rfl, rfl, rfl, trivial⟩ Pt.auto)
  rintro b10 V4 ks' O' rfl hk hO hl4
  subst hk hO
  refine At.nrm ?_
  cases hm : mtB s (hdK (lfL ts) l k) with
  | true =>
    refine At.ktext (.q 0 (.q 1 (.n false 2 .done))) ?_
    first | refine AtT.kloadOA tk72 ?_ | refine AtT.kloadA tk72 ?_ | refine AtT.kloadOP tk72 ?_
    first | refine AtT.kloadOA tk72 ?_ | refine AtT.kloadA tk72 ?_ | refine AtT.kloadOP tk72 ?_
    refine AtT.kcallP rfl rfl ok65 (meets_f s (hdK (lfL ts) l k) (by omega) (by omega) _) ?_
    rintro _ rfl; rw [hm]
    refine AtT.done ?_
    refine At.nrm ?_
    refine At.condT rfl rfl ?_
    refine At.nrm ?_
    refine At.ktext (.q 0 .done) ?_
    refine AtT.kassign ?_
    refine AtT.done ?_
    refine At.nrm ?_
    exact At.ret1 rfl (.tmp rfl) (by rw [ckR_rule h0 h1 h2 (dis_false hx (by rw [hgt]; exact hm))])
  | false =>
    refine At.ktext (.q 0 (.q 1 (.n false 2 .done))) ?_
    first | refine AtT.kloadOA tk72 ?_ | refine AtT.kloadA tk72 ?_ | refine AtT.kloadOP tk72 ?_
    first | refine AtT.kloadOA tk72 ?_ | refine AtT.kloadA tk72 ?_ | refine AtT.kloadOP tk72 ?_
    refine AtT.kcallP rfl rfl ok65 (meets_f s (hdK (lfL ts) l k) (by omega) (by omega) _) ?_
    rintro _ rfl; rw [hm]
    refine AtT.done ?_
    refine At.nrm ?_
    refine At.condF rfl rfl ?_
    refine At.nrm ?_
    refine At.ktext (.q 0 (.q 1 (.q 2 (.q 3 (.q 4 (.q 5 (.n true 6 .done))))))) ?_
    first | refine AtT.kfieldO fo72_0 ?_ | with_reducible refine AtT.kfield2 fo72_0 ?_ | refine AtT.kfield fo72_0 ?_
    first | refine AtT.kloadO tk3 ?_ | refine AtT.kload tk3 ?_
    first | refine AtT.kfieldO fo72_0 ?_ | with_reducible refine AtT.kfield2 fo72_0 ?_ | refine AtT.kfield fo72_0 ?_
    first | refine AtT.kloadO tk3 ?_ | refine AtT.kload tk3 ?_
    refine AtT.orN rfl trivial rfl rfl rfl rfl (by omega) (by omega) (by decide) (A := hdK (lfL ts) l k) (B := s) ?_
    refine AtT.kbuild (bd72_0 _) ?_
    refine AtT.kstoreA tk72 ?_
    refine AtT.done ?_
    refine At.nrm ?_
    refine At.ktext (.q 0 (.q 1 .done)) ?_
    first | refine AtT.kadd ?_ | refine AtT.kaddW ?_
    refine AtT.kmove ?_
    refine AtT.done ?_
    refine At.nrm ?_
    refine At.round (k + 1) ?_ ?_ ?_ ?_
    · show l.length - (k + 1) < l.length - k; omega
    · refine ⟨hV3, by omega, fun j y' hj hy' => ?_⟩
      by_cases hjk : j = k
      · subst hjk; rw [hx] at hy'; cases hy'; rw [hgt]; exact hm
      · exact hok j y' (by omega) hy'
    · exact ⟨rfl, rfl, rfl, rfl, ivs (by omega), trivial⟩
    rw [hnx]
    · exact Pt.auto
end Go.Proofs.Ytfcpmblmklibjaa
set_option linter.unusedVariables false
namespace Go.Proofs.Ytfcpmblmklibjaa
open Go.Lw Go.Gl Go.Bl Go.RowKit

theorem arr_at {l : List Int} {i : Nat} {x : Int} (h : l[i]? = some x) : (flat ei l)[i]? = some (iv x) := by rw [flat_ei, List.getElem?_map, h]; rfl
theorem plain3 : Try.prog.plainKey 3 = true := by kernel_rfl
theorem cells3 : Try.prog.cellsOf 3 = 1 := by kernel_rfl
theorem eqItems3 (w : World) (l m : List Int) : ∀ is : List Nat, (∀ i ∈ is, i < l.length ∧ i < m.length) → (Op.eqItems 9999 3 1 (flat ei l).toArray (flat ei m).toArray is).run Try.prog w = .ok (is.all fun i => decide (l.getD i 0 = m.getD i 0)) w
  | [], _ => by simp [Op.eqItems]
  | i :: is, h => by
    obtain ⟨h1, h2⟩ := h i (by simp)
    obtain ⟨x, hx⟩ : ∃ x, l[i]? = some x := ⟨_, List.getElem?_eq_getElem h1⟩
    obtain ⟨y, hy⟩ : ∃ y, m[i]? = some y := ⟨_, List.getElem?_eq_getElem h2⟩
    have ih := eqItems3 w l m is fun j hj => h j (by simp [hj])
    have p1 : (part 3 (flat ei l).toArray (i * 1)).run Try.prog w = .ok (iv x) w := run_part_plain w plain3 (by rw [Nat.mul_one]; simpa using arr_at hx)
    have p2 : (part 3 (flat ei m).toArray (i * 1)).run Try.prog w = .ok (iv y) w := run_part_plain w plain3 (by rw [Nat.mul_one]; simpa using arr_at hy)
    have e1 : l.getD i 0 = x := by simp [List.getD, hx]
    have e2 : m.getD i 0 = y := by simp [List.getD, hy]
    have p3 : (Op.equalIn 9999 3 (iv x) (iv y)).run Try.prog w = .ok (x == y) w := run_equalIn_int w 9998 3 .i64 .i64 x y Try.underlying3
    simp only [Op.eqItems, Sem.run_bind, p1, p2, p3, Result.andThen_ok, List.all_cons, e1, e2]
    by_cases c : x = y
    · subst c
      simp [ih]
    · simp [c]
theorem eqS101 (l m : List Int) (h1 : l.length = 15) (h2 : m.length = 15) : EqS Try.prog 101 (flat ei l) (flat ei m) (decide (l = m)) := by
  refine ⟨by first | exact Try.eqGuardType101 | kernel_rfl, fun w => ?_⟩
  obtain ⟨i3, hi3, _⟩ : ∃ i, Try.prog.info? 3 = some i ∧ True := by
    obtain ⟨i, hi, _⟩ := rowB_info rw3
    exact ⟨i, hi, trivial⟩
  have hb : ((List.range 15).all fun i => decide (l.getD i 0 = m.getD i 0)) = decide (l = m) := by
    rw [Bool.eq_iff_iff, List.all_eq_true, decide_eq_true_eq]
    constructor
    · intro h
      apply List.ext_getElem?
      intro i
      by_cases hi : i < 15
      · have := of_decide_eq_true (h i (List.mem_range.2 hi))
        obtain ⟨x, hx⟩ : ∃ x, l[i]? = some x := ⟨_, List.getElem?_eq_getElem (by omega)⟩
        obtain ⟨y, hy⟩ : ∃ y, m[i]? = some y := ⟨_, List.getElem?_eq_getElem (by omega)⟩
        simp only [List.getD, hx, hy, Option.getD_some] at this
        rw [hx, hy, this]
      · rw [List.getElem?_eq_none (by omega), List.getElem?_eq_none (by omega)]
    · rintro rfl i _; simp
  rw [show (10000 : Nat) = 9999 + 1 from rfl, run_equalIn_array w 9999 _ _ Try.underlying101 hi3, cells3, eqItems3 w l m _ (fun i hi => by rw [List.mem_range] at hi; omega), hb]
theorem slice101 (b : Nat) (w : World) : (Instr.sliceAt 101 (.pointer (some ⟨b, 0, none⟩)) none none none).run Try.prog w = .ok (.slice (some ⟨b, 0, none⟩) 15 15) w := by kernel_rfl
/-- How many sets have each cause. -/
theorem tally_f (L : List Nat) (hlt : ∀ x ∈ L, x < 32768) (hlen : L.length ≤ 32768) (V : View) (v : Value) (hs : Sl V ste 1 v L) : Fnc Try.prog 82 [v] V fun r _ => r = .agg (flat ei (tlL L)).toArray := by
  obtain ⟨al, cl, rfl, hx1, hx2, _⟩ := id hs
  clear hx1 hx2
  refine fn_of Try.func82 rfl Try.ntmps82 (Nat.le_of_ble_eq_true rfl) ?_
  intro w0 hw0
  refine At.nrm ?_
  refine At.ktext (.n false 0 .done) ?_
  refine AtT.kalloc z101 ?_
  intro b2
  refine AtT.done ?_
  refine At.nrm ?_
  refine At.ktext (.n false 0 .done) ?_
  refine AtT.kalloc z101 ?_
  intro b3
  refine AtT.done ?_
  refine At.nrm ?_
  refine At.ktext (.q 0 (.n true 1 .done)) ?_
  refine AtT.slV rfl trivial rfl (slice101 b3) (by decide) ?_
  refine AtT.clearO rfl trivial Try.underlying25 z3 rfl (by kernel_rfl) rfl rfl (by repeat (first | exact Upd.here | apply Upd.there)) ?_ (us := flat ei (tlL (L.take 0)))
  refine AtT.done ?_
  refine At.nrm ?_
  refine At.ktext (.q 0 (.q 1 (.q 2 .done))) ?_
  refine AtT.kmove ?_
  first | refine AtT.klenS Try.underlying80 ?_ | refine AtT.klenR Try.underlying80 ?_
  refine AtT.kmove ?_
  refine AtT.done ?_
  refine At.nrm ?_
  refine At.lp (ι := Nat) (KS := fun k => [(2, .pointer (some ⟨b2, 0, none⟩)), (3, .pointer (some ⟨b3, 0, none⟩)), (9, .slice al L.length cl), (10, iv L.length), (11, iv k)])
    (OS := fun k => [.blk b2 (LC (flat ei (List.replicate 15 0)) 101), .blk b3 (LC (flat ei (tlL (L.take k))) 101)])
    (VS := fun k V' => Le V V' ∧ k ≤ L.length) (μ := fun k => L.length - k) 0 ?_ ?_ ?_ ?_
  · exact ⟨rfl, rfl, rfl, rfl, rfl, trivial⟩
  · exact Pt.auto
  · exact ⟨Le.refl _, Nat.zero_le _⟩
  rintro k V' ks' O' ⟨hVV, hkl⟩ hk hO hl2
  subst hk hO
  have hsv := hs.le hVV
  refine At.nrm ?_
  refine At.ktext (.q 0 .done) ?_
  refine AtT.klss ?_
  refine AtT.done ?_
  refine At.nrm ?_
  refine At.condP rfl (fun hp => ?_) (fun hp => ?_)
  rotate_left
  · obtain rfl : k = L.length := by omega
    rw [List.take_length]
    have hfl : (flat ei (tlL L)).length = 15 := by rw [flat_len Lw.ei_len, tlL_len]
    have hall : (flat ei (tlL L)).all Value.oneCell' = true := by rw [flat_ei, List.all_map, List.all_eq_true]; intro x _; rfl
    refine At.nrm ?_
    refine At.ktext (.q 0 (.n true 1 .done)) ?_
    refine AtT.loadOA rfl trivial rfl tk101 Pick.auto hfl (by decide) ?_
    refine AtT.storeA rfl trivial rfl rfl tk101 hfl rfl hall (by repeat (first | exact Upd.here | apply Upd.there)) ?_
    refine AtT.done ?_
    refine At.nrm ?_
    exact At.ret1 rfl (.agg rfl tk101 Pick.auto hfl) rfl
  obtain ⟨x, hx⟩ : ∃ x, L[k]? = some x := ⟨_, List.getElem?_eq_getElem (by omega)⟩
  have hxb := hlt x (List.mem_of_getElem? hx)
  have hbl := cntK_le x 15
  unfold cntK at hbl
  refine At.nrm ?_
  refine At.cutG (ι := Nat) (fun b5 => [(2, .pointer (some ⟨b2, 0, none⟩)), (3, .pointer (some ⟨b3, 0, none⟩)), (9, .slice al L.length cl), (10, iv L.length), (11, iv k), (5, .pointer (some ⟨b5, 0, none⟩))]) (fun b5 => [.blk b5 (LC (ste x) 72), .blk b2 (LC (flat ei (List.replicate 15 0)) 101), .blk b3 (LC (flat ei (tlL (L.take k))) 101)]) (fun _ V'' => V'' = V') ?_ ?_
  · refine At.ktext (.q 0 (.q 1 (.n false 2 (.n true 3 .done)))) ?_
    refine AtT.kidx Try.underlying80 tk72 ?_
    intro p13 e13 he13 hc13
    obtain rfl : x = e13 := by have : L[k]? = some e13 := (by simpa using he13); rw [hx] at this; simpa using this
    first | refine AtT.kloadOA tk72 ?_ | refine AtT.kloadA tk72 ?_ | refine AtT.kloadOP tk72 ?_
    refine AtT.kalloc z72 ?_
    intro b5
    refine AtT.kstoreA tk72 ?_
    refine AtT.done ?_
    refine At.nrm ?_
    all_goals (exact At.meetG b5 rfl ⟨rfl, rfl, rfl, rfl, rfl, rfl, trivial⟩ Pt.auto)
  rintro b5 V4 ks' O' rfl hk hO hl4
  subst hk hO
  refine At.nrm ?_
  refine At.ktext (.q 0 (.n false 1 (.q 2 (.q 3 .done)))) ?_
  first | refine AtT.kloadOA tk72 ?_ | refine AtT.kloadA tk72 ?_ | refine AtT.kloadOP tk72 ?_
  refine AtT.kcall rfl rfl ok58 (list_f x (by omega) _) ?_
  rintro v16 V16 hV16 hs16; obtain ⟨a16, c16, rfl, _⟩ := id hs16
  first | refine AtT.klenS Try.underlying25 ?_ | refine AtT.klenR Try.underlying25 ?_
  refine AtT.kmove ?_
  refine AtT.done ?_
  refine At.nrm ?_
  refine At.lp (ι := Nat × List Int) (KS := fun g => [(2, .pointer (some ⟨b2, 0, none⟩)), (3, .pointer (some ⟨b3, 0, none⟩)), (9, .slice al L.length cl), (10, iv L.length), (11, iv k), (16, .slice a16 (bitL x 15).length c16), (17, iv (bitL x 15).length), (18, iv g.1)])
    (OS := fun g => [.blk b2 (LC (flat ei (List.replicate 15 0)) 101), .blk b3 (LC (flat ei g.2) 101)])
    (VS := fun g V'' => Le V16 V'' ∧ g.1 ≤ (bitL x 15).length ∧ TlI L k x g.1 g.2) (μ := fun g => (bitL x 15).length - g.1) (0, tlL (L.take k)) ?_ ?_ ?_ ?_
  · exact ⟨rfl, rfl, rfl, rfl, rfl, rfl, rfl, rfl, trivial⟩
  · exact Pt.auto
  · exact ⟨Le.refl _, Nat.zero_le _, tlI_start⟩
  rintro ⟨j, g⟩ V5 ks' O' ⟨hV5, hjl, hti⟩ hk hO hl5
  dsimp only at hjl hti hk hO
  subst hk hO
  have hs5 := hs16.le hV5
  refine At.nrm ?_
  refine At.ktext (.q 0 .done) ?_
  refine AtT.klss ?_
  refine AtT.done ?_
  refine At.nrm ?_
  refine At.condP rfl (fun hp3 => ?_) (fun hp3 => ?_)
  rotate_left
  · obtain rfl : j = (bitL x 15).length := by omega
    have hge := tlI_end hx hti
    subst hge
    refine At.nrm ?_
    refine At.ktext (.q 0 (.q 1 .done)) ?_
    first | refine AtT.kadd ?_ | refine AtT.kaddW ?_
    refine AtT.kmove ?_
    refine AtT.done ?_
    refine At.nrm ?_
    refine At.round (k + 1) ?_ ?_ ?_ ?_
    · show L.length - (k + 1) < L.length - k; omega
    · exact ⟨(hVV.trans hV16).trans hV5, by omega⟩
    · exact ⟨rfl, rfl, rfl, rfl, ivs (by omega), trivial⟩
    · exact Pt.auto
  obtain ⟨z, hz⟩ : ∃ z, (bitL x 15)[j]? = some z := ⟨_, List.getElem?_eq_getElem (by omega)⟩
  obtain ⟨i, hi15, rfl, hib⟩ := bitL_mem.1 (List.mem_of_getElem? hz)
  have hgl := hti.len
  obtain ⟨y, hy⟩ : ∃ y, g[i]? = some y := ⟨_, List.getElem?_eq_getElem (by omega)⟩
  have hyb := tlI_bd hti hy
  have hoff : 0 + (i : Int).toNat * 1 = i := by simp
  have hat : (flat ei g)[0 + (i : Int).toNat * 1]? = some (iv y) := by rw [hoff]; exact arr_at hy
  have hgf : (flat ei g).length = 15 := by rw [flat_len Lw.ei_len, hgl]
  have hset : (flat ei g).set (0 + (i : Int).toNat * 1) (iv (y + 1)) = flat ei (g.set i (y + 1)) := by
    rw [hoff, flat_ei, flat_ei, List.map_set]
  refine At.nrm ?_
  refine At.ktext (.q 0 (.q 1 (.q 2 .done))) ?_
  refine AtT.kidx Try.underlying25 tk3 ?_
  intro p20 e20 he20 hc20
  obtain rfl : (i : Int) = e20 := by have : (bitL x 15)[j]? = some e20 := (by simpa using he20); rw [hz] at this; simpa using this
  first | refine AtT.kloadO tk3 ?_ | refine AtT.kload tk3 ?_
  refine AtT.kassign ?_
  refine AtT.done ?_
  refine At.nrm ?_
  refine At.ktext (.q 0 (.q 1 (.q 2 (.q 3 (.q 4 (.n true 5 .done)))))) ?_
  refine AtT.kmove ?_
  refine AtT.kidxA Try.underlying101 tk3 ?_
  refine AtT.loadO rfl trivial rfl tk3 Pick.auto hat (by decide) ?_
  first | refine AtT.kadd ?_ | refine AtT.kaddW ?_
  refine AtT.kidxA Try.underlying101 tk3 ?_
  refine AtT.store1 rfl trivial rfl rfl tk3 rfl rfl (by repeat (first | exact Upd.here | apply Upd.there)) (setAt_of (by rw [hoff, hgf]; exact hi15) hset) ?_
  refine AtT.done ?_
  refine At.nrm ?_
  refine At.ktext (.q 0 (.q 1 .done)) ?_
  first | refine AtT.kadd ?_ | refine AtT.kaddW ?_
  refine AtT.kmove ?_
  refine AtT.done ?_
  refine At.nrm ?_
  refine At.round (j + 1, g.set i (y + 1)) ?_ ?_ ?_ ?_
  · show (bitL x 15).length - (j + 1) < (bitL x 15).length - j; omega
  · exact ⟨hV5, by dsimp only; omega, tlI_step hti hz hi15 hy⟩
  · exact ⟨rfl, rfl, rfl, rfl, rfl, rfl, rfl, ivs (by dsimp only; omega), trivial⟩
  · exact Pt.auto
end Go.Proofs.Ytfcpmblmklibjaa
set_option linter.unusedVariables false
namespace Go.Proofs.Ytfcpmblmklibjaa
open Go.Lw Go.Gl Go.Bl Go.RowKit

theorem fails_f (L : List Nat) (hlt : ∀ x ∈ L, x < 32768) (hlen : L.length ≤ 32768) (p : Pq) (hp : sndB p = true) (V : View) (v : Value) (hs : Sl V ste 1 v L) : Fnc Try.prog 83 [v, pqv p] V fun r _ => r = iv (flN L p) := by
  obtain ⟨al, cl, rfl, hx1, hx2, _⟩ := id hs
  clear hx1 hx2
  have hcb := cbN_lt hp
  refine fn_of Try.func83 rfl Try.ntmps83 (Nat.le_of_ble_eq_true rfl) ?_
  intro w0 hw0
  refine At.nrm ?_
  refine At.ktext (.n false 0 (.q 1 .done)) ?_
  refine AtT.kbox ?_
  intro b3
  refine AtT.kassign ?_
  refine AtT.done ?_
  refine At.nrm ?_
  refine At.ktext (.q 0 .done) ?_
  refine AtT.kassign ?_
  refine AtT.done ?_
  refine At.nrm ?_
  by_cases hz : tlL L = List.replicate 15 0
  · refine At.ktext (.q 0 (.n false 1 (.q 2 (.q 3 .done)))) ?_
    refine AtT.kmove ?_
    refine AtT.kcallP rfl rfl ok82 (tally_f L hlt hlen _ _ hs) ?_
    rintro _ rfl
    refine AtT.kbuild (bd101) ?_
    refine AtT.keqS (eqS101 (tlL L) (List.replicate 15 0) (tlL_len L) rfl) ?_
    refine AtT.done ?_
    refine At.nrm ?_
    refine At.condT rfl (decide_eq_true hz) ?_
    refine At.nrm ?_
    refine At.ktext (.q 0 (.q 1 .done)) ?_
    refine AtT.kmove ?_
    refine AtT.kassign ?_
    refine AtT.done ?_
    refine At.nrm ?_
    exact At.ret1 rfl (.tmp rfl) (by rw [fl_none hp hz]; rfl)
  refine At.ktext (.q 0 (.n false 1 (.q 2 (.q 3 .done)))) ?_
  refine AtT.kmove ?_
  refine AtT.kcallP rfl rfl ok82 (tally_f L hlt hlen _ _ hs) ?_
  rintro _ rfl
  refine AtT.kbuild (bd101) ?_
  refine AtT.keqS (eqS101 (tlL L) (List.replicate 15 0) (tlL_len L) rfl) ?_
  refine AtT.done ?_
  refine At.nrm ?_
  refine At.condF rfl (decide_eq_false hz) ?_
  refine At.nrm ?_
  refine At.ktext (.q 0 (.n false 1 (.q 2 (.q 3 .done)))) ?_
  first | refine AtT.kloadOA tk24 ?_ | refine AtT.kloadA tk24 ?_ | refine AtT.kloadOP tk24 ?_
  refine AtT.kcallP rfl rfl ok57 (causes_f p hp _) ?_
  rintro _ rfl
  refine AtT.kfn ?_
  refine AtT.kassign ?_
  refine AtT.done ?_
  refine At.nrm ?_
  refine At.ktext (.q 0 (.q 1 (.q 2 .done))) ?_
  refine AtT.kmove ?_
  first | refine AtT.klenS Try.underlying80 ?_ | refine AtT.klenR Try.underlying80 ?_
  refine AtT.kmove ?_
  refine AtT.done ?_
  refine At.nrm ?_
  refine At.lp (ι := Nat) (KS := fun k => [(5, iv (flN (L.take k) p)), (6, .func (.func 65) #[stv (cbN p)] #[]), (17, .slice al L.length cl), (18, iv L.length), (19, iv k)])
    (OS := fun k => [])
    (VS := fun k V' => V' = V ∧ k ≤ L.length) (μ := fun k => L.length - k) 0 ?_ ?_ ?_ ?_
  · exact ⟨rfl, rfl, rfl, rfl, rfl, trivial⟩
  · exact Pt.auto
  · exact ⟨rfl, Nat.zero_le _⟩
  rintro k V' ks' O' ⟨rfl, hkl⟩ hk hO hl2
  subst hk hO
  refine At.nrm ?_
  refine At.ktext (.q 0 .done) ?_
  refine AtT.klss ?_
  refine AtT.done ?_
  refine At.nrm ?_
  refine At.condP rfl (fun hp2 => ?_) (fun hp2 => ?_)
  rotate_left
  · obtain rfl : k = L.length := by omega
    rw [List.take_length]
    refine At.nrm ?_
    refine At.ktext (.q 0 (.q 1 .done)) ?_
    refine AtT.kmove ?_
    refine AtT.kassign ?_
    refine AtT.done ?_
    refine At.nrm ?_
    exact At.ret1 rfl (.tmp rfl) rfl
  obtain ⟨x, hx⟩ : ∃ x, L[k]? = some x := ⟨_, List.getElem?_eq_getElem (by omega)⟩
  have hxb := hlt x (List.mem_of_getElem? hx)
  have hst := flN_take (p := p) hx
  have hfl := flN_le (L.take k) p
  rw [List.length_take] at hfl
  have hmeet : Fnc Try.prog 65 ([stv (cbN p)] ++ [stv x] ++ []) V' fun r _ => r = .bool (mtB (cbN p) x) := meets_f (cbN p) x (by omega) (by omega) V'
  refine At.nrmB ?_
  refine At.cutG (ι := Unit) (fun _ => [(5, iv (flN (L.take (k + 1)) p)), (6, .func (.func 65) #[stv (cbN p)] #[]), (17, .slice al L.length cl), (18, iv L.length), (19, iv k)]) (fun _ => []) (fun _ V'' => V'' = V') ?_ ?_
  · refine At.nrm ?_
    refine At.ktext (.q 0 (.q 1 (.n false 2 (.n true 3 .done)))) ?_
    refine AtT.kidx Try.underlying80 tk72 ?_
    intro p21 e21 he21 hc21
    obtain rfl : x = e21 := by have : L[k]? = some e21 := (by simpa using he21); rw [hx] at this; simpa using this
    first | refine AtT.kloadOA tk72 ?_ | refine AtT.kloadA tk72 ?_ | refine AtT.kloadOP tk72 ?_
    refine AtT.kalloc z72 ?_
    intro b8
    refine AtT.kstoreA tk72 ?_
    refine AtT.done ?_
    refine At.nrm ?_
    refine At.ktext (.q 0 (.q 1 (.n false 2 .done))) ?_
    refine AtT.kmove ?_
    first | refine AtT.kloadOA tk72 ?_ | refine AtT.kloadA tk72 ?_ | refine AtT.kloadOP tk72 ?_
    refine AtT.kcallV rfl rfl rfl ok65 (hmeet) ?_
    rintro _ rfl
    refine AtT.done ?_
    refine At.nrm ?_
    cases hm : mtB (cbN p) x with
    | true =>
      rw [hm, if_pos rfl] at hst
      refine At.condT rfl rfl ?_
      refine At.nrm ?_
      refine At.ktext (.q 0 (.q 1 (.q 2 .done))) ?_
      refine AtT.kmove ?_
      first | refine AtT.kadd ?_ | refine AtT.kaddW ?_
      refine AtT.kassign ?_
      refine AtT.done ?_
      refine At.nrm ?_
      refine At.meetG () rfl ⟨?_, rfl, rfl, rfl, rfl, trivial⟩ Pt.auto
      exact ivs (by omega)
    | false =>
      rw [hm, if_neg (by decide)] at hst
      refine At.condF rfl rfl ?_
      refine At.nrm ?_
      refine At.meetG () rfl ⟨?_, rfl, rfl, rfl, rfl, trivial⟩ Pt.auto
      exact ivs (by omega)
  rintro _ V3 ks' O' rfl hk hO hl3
  subst hk hO
  refine At.nrm ?_
  refine At.ktext (.q 0 (.q 1 .done)) ?_
  first | refine AtT.kadd ?_ | refine AtT.kaddW ?_
  refine AtT.kmove ?_
  refine AtT.done ?_
  refine At.nrm ?_
  refine At.round (k + 1) ?_ ?_ ?_ ?_
  · show L.length - (k + 1) < L.length - k; omega
  · exact ⟨rfl, by omega⟩
  · exact ⟨rfl, rfl, rfl, rfl, ivs (by omega), trivial⟩
  · exact Pt.auto
theorem failsF_tr (ts : List Tq) (h : trE ts ≠ 0) (p : Pq) (V : View) (v : Value) (hs : Sl V tqe 4 v ts) : Fnc Try.prog 46 [v, pqv p] V fun r _ => r = .tuple #[iv 0, iv (trE ts)] := by
  refine fn_of Try.func46 rfl Try.ntmps46 (Nat.le_of_ble_eq_true rfl) ?_
  intro w0 hw0
  refine At.nrm ?_
  refine At.ktext (.n false 0 (.q 1 (.q 2 .done))) ?_
  refine AtT.kbox ?_
  intro b3
  refine AtT.kassign ?_
  refine AtT.kassign ?_
  refine AtT.done ?_
  refine At.nrm ?_
  refine At.ktext (.q 0 (.n false 1 (.q 2 .done))) ?_
  refine AtT.kmove ?_
  refine AtT.kcallP rfl rfl ok21 (trials_f ts _ _ hs) ?_
  rintro _ rfl
  refine AtT.kassign ?_
  refine AtT.done ?_
  refine At.nrm ?_
  refine At.ktext (.q 0 (.q 1 .done)) ?_
  refine AtT.kmove ?_
  refine AtT.kneI ?_
  refine AtT.done ?_
  refine At.nrm ?_
  refine At.condT rfl (decide_eq_true h) ?_
  refine At.nrm ?_
  refine At.ktext (.q 0 (.q 1 (.q 2 .done))) ?_
  refine AtT.kmove ?_
  refine AtT.kassign ?_
  refine AtT.kassign ?_
  refine AtT.done ?_
  refine At.nrm ?_
  exact At.ret2 rfl (.tmp rfl) (.tmp rfl) rfl
theorem failsF_bad (ts : List Tq) (h : trE ts = 0) (p : Pq) (hp : sndB p = false) (V : View) (v : Value) (hs : Sl V tqe 4 v ts) : Fnc Try.prog 46 [v, pqv p] V fun r _ => r = .tuple #[iv 0, iv 3] := by
  refine fn_of Try.func46 rfl Try.ntmps46 (Nat.le_of_ble_eq_true rfl) ?_
  intro w0 hw0
  refine At.nrm ?_
  refine At.ktext (.n false 0 (.q 1 (.q 2 .done))) ?_
  refine AtT.kbox ?_
  intro b3
  refine AtT.kassign ?_
  refine AtT.kassign ?_
  refine AtT.done ?_
  refine At.nrm ?_
  refine At.ktext (.q 0 (.n false 1 (.q 2 .done))) ?_
  refine AtT.kmove ?_
  refine AtT.kcallP rfl rfl ok21 (trials_f ts _ _ hs) ?_
  rintro _ rfl; rw [h]
  refine AtT.kassign ?_
  refine AtT.done ?_
  refine At.nrm ?_
  refine At.ktext (.q 0 (.q 1 .done)) ?_
  refine AtT.kmove ?_
  refine AtT.kneI ?_
  refine AtT.done ?_
  refine At.nrm ?_
  refine At.condF rfl (decide_eq_false (by simp)) ?_
  refine At.nrm ?_
  refine At.ktext (.q 0 (.n false 1 (.q 2 .done))) ?_
  first | refine AtT.kloadOA tk24 ?_ | refine AtT.kloadA tk24 ?_ | refine AtT.kloadOP tk24 ?_
  refine AtT.kcallP rfl rfl ok56 (sound_f p _) ?_
  rintro _ rfl; rw [hp]
  refine AtT.knot ?_
  refine AtT.done ?_
  refine At.nrm ?_
  refine At.condT rfl rfl ?_
  refine At.nrm ?_
  refine At.ktext (.q 0 (.q 1 .done)) ?_
  refine AtT.kassign ?_
  refine AtT.kassign ?_
  refine AtT.done ?_
  refine At.nrm ?_
  exact At.ret2 rfl (.tmp rfl) (.tmp rfl) rfl
theorem failsF_no (ts : List Tq) (h : trE ts = 0) (h2 : alE ts ≠ 0) (p : Pq) (hp : sndB p = true) (V : View) (v : Value) (hs : Sl V tqe 4 v ts) : Fnc Try.prog 46 [v, pqv p] V fun r _ => r = .tuple #[iv 0, iv (alE ts)] := by
  refine fn_of Try.func46 rfl Try.ntmps46 (Nat.le_of_ble_eq_true rfl) ?_
  intro w0 hw0
  refine At.nrm ?_
  refine At.ktext (.n false 0 (.q 1 (.q 2 .done))) ?_
  refine AtT.kbox ?_
  intro b3
  refine AtT.kassign ?_
  refine AtT.kassign ?_
  refine AtT.done ?_
  refine At.nrm ?_
  refine At.ktext (.q 0 (.n false 1 (.q 2 .done))) ?_
  refine AtT.kmove ?_
  refine AtT.kcallP rfl rfl ok21 (trials_f ts _ _ hs) ?_
  rintro _ rfl; rw [h]
  refine AtT.kassign ?_
  refine AtT.done ?_
  refine At.nrm ?_
  refine At.ktext (.q 0 (.q 1 .done)) ?_
  refine AtT.kmove ?_
  refine AtT.kneI ?_
  refine AtT.done ?_
  refine At.nrm ?_
  refine At.condF rfl (decide_eq_false (by simp)) ?_
  refine At.nrm ?_
  refine At.ktext (.q 0 (.n false 1 (.q 2 .done))) ?_
  first | refine AtT.kloadOA tk24 ?_ | refine AtT.kloadA tk24 ?_ | refine AtT.kloadOP tk24 ?_
  refine AtT.kcallP rfl rfl ok56 (sound_f p _) ?_
  rintro _ rfl; rw [hp]
  refine AtT.knot ?_
  refine AtT.done ?_
  refine At.nrm ?_
  refine At.condF rfl rfl ?_
  refine At.nrm ?_
  refine At.ktext (.q 0 (.n false 1 (.q 2 (.q 3 (.q 4 (.q 5 (.q 6 (.q 7 (.q 8 .done))))))))) ?_
  refine AtT.kmove ?_
  refine AtT.kcallP rfl rfl ok70 (explained_bad ts h2 _ _ hs) ?_
  rintro _ rfl
  refine AtT.kmove ?_
  refine AtT.kextract ?_
  refine AtT.kextract ?_
  refine AtT.kextract ?_
  refine AtT.kassign ?_
  refine AtT.kassign ?_
  refine AtT.kassign ?_
  refine AtT.done ?_
  refine At.nrm ?_
  refine At.ktext (.q 0 (.q 1 .done)) ?_
  refine AtT.kmove ?_
  refine AtT.kneI ?_
  refine AtT.done ?_
  refine At.nrm ?_
  refine At.condT rfl (decide_eq_true h2) ?_
  refine At.nrm ?_
  refine At.ktext (.q 0 (.q 1 (.q 2 .done))) ?_
  refine AtT.kmove ?_
  refine AtT.kassign ?_
  refine AtT.kassign ?_
  refine AtT.done ?_
  refine At.nrm ?_
  exact At.ret2 rfl (.tmp rfl) (.tmp rfl) rfl
theorem failsF_ok (ts : List Tq) (h2 : alE ts = 0) (p : Pq) (hp : sndB p = true) (V : View) (v : Value) (hs : Sl V tqe 4 v ts) : Fnc Try.prog 46 [v, pqv p] V fun r _ => ∃ L, AlS ts L ∧ r = .tuple #[iv (flN L p), iv 0] := by
  have h := (alE_zero h2).1
  refine fn_of Try.func46 rfl Try.ntmps46 (Nat.le_of_ble_eq_true rfl) ?_
  intro w0 hw0
  refine At.nrm ?_
  refine At.ktext (.n false 0 (.q 1 (.q 2 .done))) ?_
  refine AtT.kbox ?_
  intro b3
  refine AtT.kassign ?_
  refine AtT.kassign ?_
  refine AtT.done ?_
  refine At.nrm ?_
  refine At.ktext (.q 0 (.n false 1 (.q 2 .done))) ?_
  refine AtT.kmove ?_
  refine AtT.kcallP rfl rfl ok21 (trials_f ts _ _ hs) ?_
  rintro _ rfl; rw [h]
  refine AtT.kassign ?_
  refine AtT.done ?_
  refine At.nrm ?_
  refine At.ktext (.q 0 (.q 1 .done)) ?_
  refine AtT.kmove ?_
  refine AtT.kneI ?_
  refine AtT.done ?_
  refine At.nrm ?_
  refine At.condF rfl (decide_eq_false (by simp)) ?_
  refine At.nrm ?_
  refine At.ktext (.q 0 (.n false 1 (.q 2 .done))) ?_
  first | refine AtT.kloadOA tk24 ?_ | refine AtT.kloadA tk24 ?_ | refine AtT.kloadOP tk24 ?_
  refine AtT.kcallP rfl rfl ok56 (sound_f p _) ?_
  rintro _ rfl; rw [hp]
  refine AtT.knot ?_
  refine AtT.done ?_
  refine At.nrm ?_
  refine At.condF rfl rfl ?_
  refine At.nrm ?_
  refine At.ktext (.q 0 (.n false 1 (.q 2 (.q 3 (.q 4 (.q 5 (.q 6 (.q 7 (.q 8 .done))))))))) ?_
  refine AtT.kmove ?_
  refine AtT.kcall rfl rfl ok70 (explainedA ts h2 _ _ hs) ?_
  rintro _ V20 hV20 ⟨q, u, L, rfl, hbc, hsl, hal⟩
  refine AtT.kmove ?_
  refine AtT.kextract ?_
  refine AtT.kextract ?_
  refine AtT.kextract ?_
  refine AtT.kassign ?_
  refine AtT.kassign ?_
  refine AtT.kassign ?_
  refine AtT.done ?_
  refine At.nrm ?_
  refine At.ktext (.q 0 (.q 1 .done)) ?_
  refine AtT.kmove ?_
  refine AtT.kneI ?_
  refine AtT.done ?_
  refine At.nrm ?_
  refine At.condF rfl (decide_eq_false (by simp)) ?_
  refine At.nrm ?_
  refine At.ktext (.q 0 (.q 1 (.n false 2 (.q 3 (.q 4 .done))))) ?_
  refine AtT.kmove ?_
  first | refine AtT.kloadOA tk24 ?_ | refine AtT.kloadA tk24 ?_ | refine AtT.kloadOP tk24 ?_
  refine AtT.kcallP rfl rfl ok83 (fails_f L (als_lt hal) (als_len hal) p hp _ _ hsl) ?_
  rintro _ rfl
  refine AtT.kassign ?_
  refine AtT.kassign ?_
  refine AtT.done ?_
  refine At.nrm ?_
  exact At.ret2 rfl (.tmp rfl) (.tmp rfl) ⟨L, hal, rfl⟩
/-- When a cause is to blame. -/
def bmN (L : List Nat) (c : Nat) : Int := if tN L c = 0 then 0 else if tN L c = L.length then 2 else 1
theorem index101 (l : List Int) (hl : l.length = 15) (c : Nat) (x : Int) (h : l[c]? = some x) (w : World) : (Instr.index 101 (.agg (flat ei l).toArray) (iv c)).run Try.prog w = .ok (iv x) w := by
  have hc : c < 15 := by have := (List.getElem?_eq_some_iff.1 h).1; omega
  have h0 : (0 : Int) ≤ (c : Int) ∧ (c : Int) < ((15 : Nat) : Int) := by omega
  have p1 : (part 3 (flat ei l).toArray (c * 1)).run Try.prog w = .ok (iv x) w := run_part_plain w plain3 (by rw [Nat.mul_one]; simpa using arr_at h)
  simp only [Instr.index, run_underlying Try.underlying101, asIntOf, Sem.run_bind, Sem.run_pure, Result.andThen_ok, if_pos h0, Go.Lw.run_sizeOf tk3, Int.toNat_natCast]
  exact p1
theorem blame_tr (ts : List Tq) (h : trE ts ≠ 0) (c : Int) (V : View) (v : Value) (hs : Sl V tqe 4 v ts) : Fnc Try.prog 45 [v, iv c] V fun r _ => r = .tuple #[iv 0, iv (trE ts)] := by
  refine fn_of Try.func45 rfl Try.ntmps45 (Nat.le_of_ble_eq_true rfl) ?_
  intro w0 hw0
  refine At.nrm ?_
  refine At.ktext (.q 0 (.q 1 .done)) ?_
  refine AtT.kassign ?_
  refine AtT.kassign ?_
  refine AtT.done ?_
  refine At.nrm ?_
  refine At.ktext (.q 0 (.n false 1 (.q 2 .done))) ?_
  refine AtT.kmove ?_
  refine AtT.kcallP rfl rfl ok21 (trials_f ts _ _ hs) ?_
  rintro _ rfl
  refine AtT.kassign ?_
  refine AtT.done ?_
  refine At.nrm ?_
  refine At.ktext (.q 0 (.q 1 (.q 2 .done))) ?_
  refine AtT.kmove ?_
  refine AtT.kneI ?_
  refine AtT.kassign ?_
  refine AtT.done ?_
  refine At.nrm ?_
  refine At.condT rfl (decide_eq_true h) ?_
  refine At.nrm ?_
  refine At.ktext (.q 0 (.q 1 (.q 2 .done))) ?_
  refine AtT.kmove ?_
  refine AtT.kassign ?_
  refine AtT.kassign ?_
  refine AtT.done ?_
  refine At.nrm ?_
  exact At.ret2 rfl (.tmp rfl) (.tmp rfl) rfl
theorem wi_one (c : Int) : wi 0 14 [c] = decide (0 ≤ c ∧ c ≤ 14) := by
  simp only [wi, List.any_cons, List.any_nil, outB]
  by_cases h1 : c < 0 <;> by_cases h2 : 14 < c <;> simp [h1, h2] <;> omega
theorem blame_bad (ts : List Tq) (h : trE ts = 0) (c : Int) (hc : ¬ (0 ≤ c ∧ c ≤ 14)) (V : View) (v : Value) (hs : Sl V tqe 4 v ts) : Fnc Try.prog 45 [v, iv c] V fun r _ => r = .tuple #[iv 0, iv 2] := by
  refine fn_of Try.func45 rfl Try.ntmps45 (Nat.le_of_ble_eq_true rfl) ?_
  intro w0 hw0
  refine At.nrm ?_
  refine At.ktext (.q 0 (.q 1 .done)) ?_
  refine AtT.kassign ?_
  refine AtT.kassign ?_
  refine AtT.done ?_
  refine At.nrm ?_
  refine At.ktext (.q 0 (.n false 1 (.q 2 .done))) ?_
  refine AtT.kmove ?_
  refine AtT.kcallP rfl rfl ok21 (trials_f ts _ _ hs) ?_
  rintro _ rfl; rw [h]
  refine AtT.kassign ?_
  refine AtT.done ?_
  refine At.nrm ?_
  refine At.ktext (.q 0 (.q 1 (.q 2 .done))) ?_
  refine AtT.kmove ?_
  refine AtT.kneI ?_
  refine AtT.kassign ?_
  refine AtT.done ?_
  refine At.nrm ?_
  refine At.condF rfl (decide_eq_false (by simp)) ?_
  refine At.nrm ?_
  refine At.ktext (.q 0 (.n false 1 (.n false 2 (.q 3 (.q 4 .done))))) ?_
  refine AtT.kmove ?_
  refine AtT.kbsliceG (bs25_1_0 _) ?_
  intro q17 V17 hV17 hq17
  have g17 : Le V V17 := by first | exact hV17 | exact Le.trans (by assumption) hV17
  refine AtT.kcallP rfl rfl ok81 (within_f 0 14 [c] _ _ (Sl.lit hq17 rfl (by simp))) ?_
  rintro _ rfl; rw [wi_one, decide_eq_false hc]
  refine AtT.knot ?_
  refine AtT.kassign ?_
  refine AtT.done ?_
  refine At.nrm ?_
  refine At.condT rfl rfl ?_
  refine At.nrm ?_
  refine At.ktext (.q 0 (.q 1 .done)) ?_
  refine AtT.kassign ?_
  refine AtT.kassign ?_
  refine AtT.done ?_
  refine At.nrm ?_
  exact At.ret2 rfl (.tmp rfl) (.tmp rfl) rfl
theorem blame_no (ts : List Tq) (h : trE ts = 0) (h2 : alE ts ≠ 0) (c : Int) (hc : 0 ≤ c ∧ c ≤ 14) (V : View) (v : Value) (hs : Sl V tqe 4 v ts) : Fnc Try.prog 45 [v, iv c] V fun r _ => r = .tuple #[iv 0, iv (alE ts)] := by
  refine fn_of Try.func45 rfl Try.ntmps45 (Nat.le_of_ble_eq_true rfl) ?_
  intro w0 hw0
  refine At.nrm ?_
  refine At.ktext (.q 0 (.q 1 .done)) ?_
  refine AtT.kassign ?_
  refine AtT.kassign ?_
  refine AtT.done ?_
  refine At.nrm ?_
  refine At.ktext (.q 0 (.n false 1 (.q 2 .done))) ?_
  refine AtT.kmove ?_
  refine AtT.kcallP rfl rfl ok21 (trials_f ts _ _ hs) ?_
  rintro _ rfl; rw [h]
  refine AtT.kassign ?_
  refine AtT.done ?_
  refine At.nrm ?_
  refine At.ktext (.q 0 (.q 1 (.q 2 .done))) ?_
  refine AtT.kmove ?_
  refine AtT.kneI ?_
  refine AtT.kassign ?_
  refine AtT.done ?_
  refine At.nrm ?_
  refine At.condF rfl (decide_eq_false (by simp)) ?_
  refine At.nrm ?_
  refine At.ktext (.q 0 (.n false 1 (.n false 2 (.q 3 (.q 4 .done))))) ?_
  refine AtT.kmove ?_
  refine AtT.kbsliceG (bs25_1_0 _) ?_
  intro q17 V17 hV17 hq17
  have g17 : Le V V17 := by first | exact hV17 | exact Le.trans (by assumption) hV17
  refine AtT.kcallP rfl rfl ok81 (within_f 0 14 [c] _ _ (Sl.lit hq17 rfl (by simp))) ?_
  rintro _ rfl; rw [wi_one, decide_eq_true hc]
  refine AtT.knot ?_
  refine AtT.kassign ?_
  refine AtT.done ?_
  refine At.nrm ?_
  refine At.condF rfl rfl ?_
  refine At.nrm ?_
  refine At.ktext (.q 0 (.n false 1 (.q 2 (.q 3 (.q 4 (.q 5 (.q 6 (.q 7 (.q 8 .done))))))))) ?_
  refine AtT.kmove ?_
  refine AtT.kcallP rfl rfl ok70 (explained_bad ts h2 _ _ (hs.le hV17)) ?_
  rintro _ rfl
  refine AtT.kmove ?_
  refine AtT.kextract ?_
  refine AtT.kextract ?_
  refine AtT.kextract ?_
  refine AtT.kassign ?_
  refine AtT.kassign ?_
  refine AtT.kassign ?_
  refine AtT.done ?_
  refine At.nrm ?_
  refine At.ktext (.q 0 (.q 1 .done)) ?_
  refine AtT.kmove ?_
  refine AtT.kneI ?_
  refine AtT.done ?_
  refine At.nrm ?_
  refine At.condT rfl (decide_eq_true h2) ?_
  refine At.nrm ?_
  refine At.ktext (.q 0 (.q 1 (.q 2 .done))) ?_
  refine AtT.kmove ?_
  refine AtT.kassign ?_
  refine AtT.kassign ?_
  refine AtT.done ?_
  refine At.nrm ?_
  exact At.ret2 rfl (.tmp rfl) (.tmp rfl) rfl
theorem blame_ok (ts : List Tq) (h2 : alE ts = 0) (c : Nat) (hc : c < 15) (V : View) (v : Value) (hs : Sl V tqe 4 v ts) : Fnc Try.prog 45 [v, iv c] V fun r _ => ∃ L, AlS ts L ∧ r = .tuple #[iv (bmN L c), iv 0] := by
  have h := (alE_zero h2).1
  refine fn_of Try.func45 rfl Try.ntmps45 (Nat.le_of_ble_eq_true rfl) ?_
  intro w0 hw0
  refine At.nrm ?_
  refine At.ktext (.q 0 (.q 1 .done)) ?_
  refine AtT.kassign ?_
  refine AtT.kassign ?_
  refine AtT.done ?_
  refine At.nrm ?_
  refine At.ktext (.q 0 (.n false 1 (.q 2 .done))) ?_
  refine AtT.kmove ?_
  refine AtT.kcallP rfl rfl ok21 (trials_f ts _ _ hs) ?_
  rintro _ rfl; rw [h]
  refine AtT.kassign ?_
  refine AtT.done ?_
  refine At.nrm ?_
  refine At.ktext (.q 0 (.q 1 (.q 2 .done))) ?_
  refine AtT.kmove ?_
  refine AtT.kneI ?_
  refine AtT.kassign ?_
  refine AtT.done ?_
  refine At.nrm ?_
  refine At.condF rfl (decide_eq_false (by simp)) ?_
  refine At.nrm ?_
  refine At.ktext (.q 0 (.n false 1 (.n false 2 (.q 3 (.q 4 .done))))) ?_
  refine AtT.kmove ?_
  refine AtT.kbsliceG (bs25_1_0 _) ?_
  intro q17 V17 hV17 hq17
  have g17 : Le V V17 := by first | exact hV17 | exact Le.trans (by assumption) hV17
  refine AtT.kcallP rfl rfl ok81 (within_f 0 14 [(c : Int)] _ _ (Sl.lit hq17 rfl (by simp))) ?_
  rintro _ rfl; rw [wi_one, decide_eq_true (by omega)]
  refine AtT.knot ?_
  refine AtT.kassign ?_
  refine AtT.done ?_
  refine At.nrm ?_
  refine At.condF rfl rfl ?_
  refine At.nrm ?_
  refine At.ktext (.q 0 (.n false 1 (.q 2 (.q 3 (.q 4 (.q 5 (.q 6 (.q 7 (.q 8 .done))))))))) ?_
  refine AtT.kmove ?_
  refine AtT.kcall rfl rfl ok70 (explainedA ts h2 _ _ (hs.le hV17)) ?_
  rintro _ V20 hV20 ⟨q, u, L, rfl, hbc, hsl, hal⟩
  refine AtT.kmove ?_
  refine AtT.kextract ?_
  refine AtT.kextract ?_
  refine AtT.kextract ?_
  refine AtT.kassign ?_
  refine AtT.kassign ?_
  refine AtT.kassign ?_
  refine AtT.done ?_
  refine At.nrm ?_
  obtain ⟨a24, c24, rfl, k1, k2, _⟩ := id hsl
  clear k1 k2
  have htn := tN_le L c
  refine At.ktext (.q 0 (.q 1 .done)) ?_
  refine AtT.kmove ?_
  refine AtT.kneI ?_
  refine AtT.done ?_
  refine At.nrm ?_
  refine At.condF rfl (decide_eq_false (by simp)) ?_
  refine At.nrm ?_
  refine At.ktext (.q 0 (.n false 1 (.q 2 (.q 3 .done)))) ?_
  refine AtT.kmove ?_
  refine AtT.kcallP rfl rfl ok82 (tally_f L (als_lt hal) (als_len hal) _ _ hsl) ?_
  rintro _ rfl
  refine AtT.kmove ?_
  refine AtT.ixV rfl trivial rfl rfl (index101 (tlL L) (tlL_len L) c _ (tlL_at hc)) (by decide) ?_
  refine AtT.done ?_
  refine At.nrm ?_
  refine At.ktext (.q 0 (.q 1 .done)) ?_
  refine AtT.keqI ?_
  refine AtT.kassign ?_
  refine AtT.done ?_
  refine At.nrm ?_
  refine At.condP rfl (fun h3 => ?_) (fun h3 => ?_)
  · refine At.nrm ?_
    refine At.ktext (.q 0 (.q 1 .done)) ?_
    refine AtT.kassign ?_
    refine AtT.kassign ?_
    refine AtT.done ?_
    refine At.nrm ?_
    exact At.ret2 rfl (.tmp rfl) (.tmp rfl) ⟨L, hal, by unfold bmN; rw [if_pos (by omega)]⟩
  refine At.nrm ?_
  refine At.ktext (.q 0 (.q 1 (.q 2 (.q 3 .done)))) ?_
  refine AtT.kmove ?_
  first | refine AtT.klenS Try.underlying80 ?_ | refine AtT.klenR Try.underlying80 ?_
  refine AtT.keqI ?_
  refine AtT.kassign ?_
  refine AtT.done ?_
  refine At.nrm ?_
  refine At.condP rfl (fun h4 => ?_) (fun h4 => ?_)
  · refine At.nrm ?_
    refine At.ktext (.q 0 (.q 1 .done)) ?_
    refine AtT.kassign ?_
    refine AtT.kassign ?_
    refine AtT.done ?_
    refine At.nrm ?_
    exact At.ret2 rfl (.tmp rfl) (.tmp rfl) ⟨L, hal, by unfold bmN; rw [if_neg (by omega), if_pos (by omega)]⟩
  refine At.nrm ?_
  refine At.ktext (.q 0 (.q 1 .done)) ?_
  refine AtT.kassign ?_
  refine AtT.kassign ?_
  refine AtT.done ?_
  refine At.nrm ?_
  exact At.ret2 rfl (.tmp rfl) (.tmp rfl) ⟨L, hal, by unfold bmN; rw [if_neg (by omega), if_neg (by omega)]⟩
end Go.Proofs.Ytfcpmblmklibjaa
set_option linter.unusedVariables false
namespace Go.Proofs.Ytfcpmblmklibjaa
open Go.Lw Go.Gl Go.Bl Go.RowKit

theorem tells_f (L : List Nat) (hlt : ∀ x ∈ L, x < 32768) (hlen : L.length ≤ 32768) (p : Pq) (hp : sndB p = true) (V : View) (q : Addr) (u : Value) (hq : Cells V q [u]) (hs : Sl V ste 1 u L) : Fnc Try.prog 84 ([] ++ [pqv p] ++ [.pointer (some q)]) V fun r _ => r = iv (tel L p) := by
  have hfl := flN_le L p
  obtain ⟨a, c, rfl, k1, k2, _⟩ := id hs
  clear k1 k2
  refine fn_of Try.func84 rfl Try.ntmps84 (Nat.le_of_ble_eq_true rfl) ?_
  intro w0 hw0
  refine At.nrm ?_
  refine At.ktext (.n false 0 (.q 1 .done)) ?_
  refine AtT.kbox ?_
  intro b2
  refine AtT.kassign ?_
  refine AtT.done ?_
  refine At.nrm ?_
  refine At.ktext (.q 0 (.q 1 (.n false 2 (.q 3 .done)))) ?_
  first | refine AtT.kloadO tk80 ?_ | refine AtT.kload tk80 ?_
  first | refine AtT.kloadOA tk24 ?_ | refine AtT.kloadA tk24 ?_ | refine AtT.kloadOP tk24 ?_
  refine AtT.kcallP rfl rfl ok83 (fails_f L hlt hlen p hp _ _ hs) ?_
  rintro _ rfl
  refine AtT.kassign ?_
  refine AtT.done ?_
  refine At.nrm ?_
  refine At.ktext (.q 0 (.q 1 (.q 2 (.q 3 (.q 4 (.q 5 (.q 6 .done))))))) ?_
  refine AtT.kmove ?_
  first | refine AtT.kloadO tk80 ?_ | refine AtT.kload tk80 ?_
  first | refine AtT.klenS Try.underlying80 ?_ | refine AtT.klenR Try.underlying80 ?_
  refine AtT.kmove ?_
  first | refine AtT.ksubt ?_ | refine AtT.ksubW ?_
  refine AtT.kmin2 ?_
  refine AtT.kassign ?_
  refine AtT.done ?_
  refine At.nrm ?_
  exact At.ret1 rfl (.tmp rfl) rfl
theorem more_f (L : List Nat) (hlt : ∀ x ∈ L, x < 32768) (hlen : L.length ≤ 32768) (p p' : Pq) (hp : sndB p = true) (hp' : sndB p' = true) (V : View) (q q2 : Addr) (u : Value) (hq2 : Cells V q2 [.func (.func 84) #[] #[.pointer (some q)]]) (hq : Cells V q [u]) (hs : Sl V ste 1 u L) : Fnc Try.prog 88 ([] ++ [pqv p, pqv p'] ++ [.pointer (some q2)]) V fun r _ => r = .bool (decide (tel L p' < tel L p)) := by
  have t1 := fun V' hV => tells_f L hlt hlen p hp V' q u (hq.le (V := V) hV) (hs.le hV)
  have t2 := fun V' hV => tells_f L hlt hlen p' hp' V' q u (hq.le (V := V) hV) (hs.le hV)
  refine fn_of Try.func88 rfl Try.ntmps88 (Nat.le_of_ble_eq_true rfl) ?_
  intro w0 hw0
  refine At.nrm ?_
  refine At.ktext (.n false 0 (.n false 1 (.q 2 .done))) ?_
  refine AtT.kbox ?_
  intro b3
  refine AtT.kbox ?_
  intro b4
  refine AtT.kassign ?_
  refine AtT.done ?_
  refine At.nrm ?_
  refine At.draw (.q 0 (.q 1 (.q 3 (.q 4 (.n false 2 (.n false 5 (.q 6 (.q 7 .done)))))))) ffm (by kernel_rfl) ?_
  first | refine AtT.kloadO tk104 ?_ | refine AtT.kload tk104 ?_
  first | refine AtT.kloadOA tk24 ?_ | refine AtT.kloadA tk24 ?_ | refine AtT.kloadOP tk24 ?_
  first | refine AtT.kloadO tk104 ?_ | refine AtT.kload tk104 ?_
  first | refine AtT.kloadOA tk24 ?_ | refine AtT.kloadA tk24 ?_ | refine AtT.kloadOP tk24 ?_
  refine AtT.kcallV rfl rfl rfl ok84 (t1 _ (Le.refl _)) ?_
  rintro _ rfl
  refine AtT.kcallV rfl rfl rfl ok84 (t2 _ (Le.refl _)) ?_
  rintro _ rfl
  refine AtT.kgtr ?_
  refine AtT.kassign ?_
  refine AtT.done ?_
  refine At.nrm ?_
  all_goals (exact At.ret1 rfl (.tmp rfl) rfl)
theorem best_b (g : FuncId) (cap : List Value) (lt : Pq → Pq → Bool) (V : View) (vl : Value) (x0 : Pq) (l : List Pq) (hs : Sl V pqe 3 vl (x0 :: l)) (hok : CallOk Try.prog g)
    (hc : ∀ x y, x ∈ x0 :: l → y ∈ x0 :: l → Fnc Try.prog g ([] ++ [pqv x, pqv y] ++ cap) V (fun v _ => v = .bool (lt x y))) :
    Fnc Try.prog 85 [vl, .func (.func g) #[] cap.toArray] V fun v _ => v = pqv (bst lt x0 l) := by
  have hlen := hs.lenLe
  simp only [List.length_cons] at hlen
  refine fn_of Try.func85 rfl Try.ntmps85 (Nat.le_of_ble_eq_true rfl) ?_
  intro w0 hw0
  refine At.nrm ?_
  refine At.ktext (.n false 0 .done) ?_
  refine AtT.kalloc z24 ?_
  intro b4
  refine AtT.done ?_
  refine At.nrm ?_
  refine At.ktext (.q 0 (.q 1 (.q 2 (.n false 3 (.n true 4 .done))))) ?_
  refine AtT.kmove ?_
  have hpos : (0 : Int) < ((x0 :: l).length : Int) := by simp only [List.length_cons]; omega
  refine AtT.kidx Try.underlying106 tk24 ?_
  intro p9 e9 he9 hc9
  obtain rfl : x0 = e9 := by simpa using he9
  first | refine AtT.kloadOA tk24 ?_ | refine AtT.kloadA tk24 ?_ | refine AtT.kloadOP tk24 ?_
  refine AtT.kalloc z24 ?_
  intro b5
  refine AtT.kstoreA tk24 ?_
  refine AtT.done ?_
  refine At.nrm ?_
  refine At.ktext (.q 0 (.q 1 (.q 2 (.q 3 .done)))) ?_
  refine AtT.kmove ?_
  have hpos1 : (1 : Int) ≤ ((x0 :: l).length : Int) := by simp only [List.length_cons]; omega
  refine AtT.ktail Try.underlying106 tk24 ?_
  intro a12 c12 hs12
  first | refine AtT.klenS Try.underlying106 ?_ | refine AtT.klenR Try.underlying106 ?_
  refine AtT.kmove ?_
  refine AtT.done ?_
  refine At.nrm ?_
  refine At.lp (ι := Nat) (KS := fun k => [(1, .func (.func g) #[] cap.toArray), (4, .pointer (some ⟨b4, 0, none⟩)), (5, .pointer (some ⟨b5, 0, none⟩)), (12, .slice a12 l.length c12), (13, iv l.length), (14, iv k)])
    (OS := fun k => [.blk b5 (LC (pqe (bst lt x0 (l.take k))) 24), .blk b4 (LC [iv 0, iv 0, iv 0] 24)])
    (VS := fun k V' => V' = V ∧ k ≤ l.length) (μ := fun k => l.length - k) 0 ?_ ?_ ?_ ?_
  · exact ⟨rfl, rfl, rfl, rfl, rfl, rfl, trivial⟩
  · exact Pt.auto
  · exact ⟨rfl, Nat.zero_le _⟩
  rintro k V' ks' O' ⟨rfl, hkl⟩ hk hO hl
  subst hk hO
  have hs' : Sl V' pqe 3 (.slice a12 l.length c12) l := hs12
  refine At.nrm ?_
  refine At.ktext (.q 0 .done) ?_
  refine AtT.klss ?_
  refine AtT.done ?_
  refine At.nrm ?_
  refine At.condP rfl (fun hp => ?_) (fun hp => ?_)
  rotate_left
  · obtain rfl : k = l.length := by omega
    rw [List.take_length]
    refine At.nrm ?_
    refine At.ktext (.q 0 (.n true 1 .done)) ?_
    first | refine AtT.kloadOA tk24 ?_ | refine AtT.kloadA tk24 ?_ | refine AtT.kloadOP tk24 ?_
    refine AtT.kstoreA tk24 ?_
    refine AtT.done ?_
    refine At.nrm ?_
    exact At.ret1 rfl (.agg rfl tk24 Pick.auto rfl) rfl
  obtain ⟨x, hx⟩ : ∃ x, l[k]? = some x := ⟨_, List.getElem?_eq_getElem (by omega)⟩
  have hmem : bst lt x0 (l.take k) ∈ x0 :: l := bst_memT lt l x0 k
  have hnx := bst_take lt (out := x0) hx
  refine At.nrmB ?_
  refine At.cutG (ι := Unit) (fun _ => [(1, .func (.func g) #[] cap.toArray), (4, .pointer (some ⟨b4, 0, none⟩)), (5, .pointer (some ⟨b5, 0, none⟩)), (12, .slice a12 l.length c12), (13, iv l.length), (14, iv k)]) (fun _ => [.blk b5 (LC (pqe (bst lt x0 (l.take (k + 1)))) 24), .blk b4 (LC [iv 0, iv 0, iv 0] 24)]) (fun _ V'' => V'' = V') ?_ ?_
  · refine At.nrm ?_
    refine At.ktext (.q 0 (.q 1 (.n false 2 (.n true 3 .done)))) ?_
    refine AtT.kidx Try.underlying106 tk24 ?_
    intro p16 e16 he16 hc16
    obtain rfl : x = e16 := by have : l[k]? = some e16 := (by simpa using he16); rw [hx] at this; simpa using this
    first | refine AtT.kloadOA tk24 ?_ | refine AtT.kloadA tk24 ?_ | refine AtT.kloadOP tk24 ?_
    refine AtT.kalloc z24 ?_
    intro b7
    refine AtT.kstoreA tk24 ?_
    refine AtT.done ?_
    refine At.nrm ?_
    refine At.ktext (.q 0 (.q 1 (.q 2 (.n false 3 .done)))) ?_
    refine AtT.kmove ?_
    first | refine AtT.kloadOA tk24 ?_ | refine AtT.kloadA tk24 ?_ | refine AtT.kloadOP tk24 ?_
    first | refine AtT.kloadOA tk24 ?_ | refine AtT.kloadA tk24 ?_ | refine AtT.kloadOP tk24 ?_
    refine AtT.kcallV rfl rfl rfl hok (hc x (bst lt x0 (l.take k)) (List.mem_cons_of_mem _ (List.mem_of_getElem? hx)) hmem) ?_
    rintro _ rfl
    refine AtT.done ?_
    refine At.nrm ?_
    refine At.cond rfl (fun hb => ?_) (fun hb => ?_)
    · rw [if_pos hb] at hnx
      refine At.nrm ?_
      refine At.ktext (.q 0 (.n true 1 .done)) ?_
      first | refine AtT.kloadOA tk24 ?_ | refine AtT.kloadA tk24 ?_ | refine AtT.kloadOP tk24 ?_
      refine AtT.kstoreA tk24 ?_
      refine AtT.done ?_
      refine At.nrm ?_
      refine At.meetG () rfl ⟨rfl, rfl, rfl, rfl, rfl, rfl, trivial⟩ ?_
      rw [hnx]
      · exact Pt.auto
    · rw [if_neg (by rw [hb]; simp)] at hnx
      refine At.nrm ?_
      refine At.meetG () rfl ⟨rfl, rfl, rfl, rfl, rfl, rfl, trivial⟩ ?_
      rw [hnx]
      · exact Pt.auto
  rintro _ V3 ks' O' rfl hk hO hl3
  subst hk hO
  refine At.nrm ?_
  refine At.ktext (.q 0 (.q 1 .done)) ?_
  first | refine AtT.kadd ?_ | refine AtT.kaddW ?_
  refine AtT.kmove ?_
  refine AtT.done ?_
  refine At.nrm ?_
  refine At.round (k + 1) ?_ ?_ ?_ ?_
  · show l.length - (k + 1) < l.length - k; omega
  · exact ⟨rfl, by omega⟩
  · exact ⟨rfl, rfl, rfl, rfl, rfl, ivs (by omega), trivial⟩
  · exact Pt.auto
abbrev ysP : List (List Value) := panL.map fun p => [pqv p]
theorem ysP_at {k : Nat} (h : k < 125) : ysP[k]? = some [pqv (pnK k)] := by simp only [ysP, List.getElem?_map, panL_at h]; rfl
theorem ysP_len : ysP.length = 125 := by rw [ysP, List.length_map, panL_len]
/-- The function that runs over all panels. -/
theorem iterP_f (V : View) : It Try.prog 98 [] V ysP := by
  refine it_of Try.func98 rfl Try.ntmps98 (Nat.le_of_ble_eq_true rfl) rfl ?_
  intro l J E w0 H hJ
  refine At.nrm ?_
  refine At.ktext (.q 0 .done) ?_
  refine AtT.kassign ?_
  refine AtT.done ?_
  refine At.nrm ?_
  refine At.ktext (.q 0 (.q 1 (.q 2 (.q 3 (.q 4 (.q 5 .done)))))) ?_
  refine AtT.kmove ?_
  refine AtT.kmove ?_
  first | refine AtT.kmul ?_ | refine AtT.kmulW ?_
  refine AtT.kmove ?_
  first | refine AtT.kmul ?_ | refine AtT.kmulW ?_
  refine AtT.kmove ?_
  refine AtT.done ?_
  refine At.nrm ?_
  refine At.lpY H (ι := Nat) (fun k => k ≤ 125) (fun k => [(0, .func (.yield l) #[] #[]), (2, iv 5), (8, iv 125), (9, iv k)]) (fun k => k) (fun k => 125 - k) 0 (Nat.zero_le _) ⟨rfl, rfl, rfl, rfl, trivial⟩ hJ ?_
  rintro k w ks' hkl hJ rfl
  refine At.nrm ?_
  refine At.ktext (.q 0 .done) ?_
  refine AtT.klss ?_
  refine AtT.done ?_
  refine At.nrm ?_
  refine At.condP rfl (fun hp => ?_) (fun hp => ?_)
  · have hk : k < 125 := by omega
    have q1 : (k : Int).tdiv 5 = ((k / 5 : Nat) : Int) := rfl
    have q2 : ((k / 5 : Nat) : Int).tdiv 5 = ((k / 25 : Nat) : Int) := by rw [show k / 25 = k / 5 / 5 by omega]; rfl
    have q3 : ((k / 5 : Nat) : Int).tmod 5 = ((k / 5 % 5 : Nat) : Int) := rfl
    have q4 : (k : Int).tmod 5 = ((k % 5 : Nat) : Int) := rfl
    have hy := ysP_at hk
    refine At.nrm ?_
    refine At.ktext (.q 0 (.q 1 .done)) ?_
    refine AtT.kmove ?_
    refine AtT.kassign ?_
    refine AtT.done ?_
    refine At.nrm ?_
    refine At.draw (.q 0 (.q 1 (.q 2 (.q 3 (.q 4 (.q 5 (.q 6 (.q 7 (.q 8 (.q 9 (.q 10 (.q 11 (.q 12 (.q 13 (.q 14 (.n true 15 (.q 16 .done))))))))))))))))) ffm (by kernel_rfl) ?_
    refine AtT.kmove ?_
    refine AtT.kmove ?_
    refine AtT.kmove ?_
    refine AtT.kquo ?_
    rw [q1]
    refine AtT.kmove ?_
    refine AtT.kquo ?_
    rw [q2]
    refine AtT.kmove ?_
    refine AtT.kmove ?_
    refine AtT.kquo ?_
    rw [q1]
    refine AtT.kmove ?_
    refine AtT.krem ?_
    rw [q3]
    refine AtT.kmove ?_
    refine AtT.kmove ?_
    refine AtT.krem ?_
    rw [q4]
    refine AtT.kbuild (bd24_0_1_2 _ _ _) ?_
    refine AtT.yield rfl trivial rfl rfl H (hy) (hJ) (by decide) ?_ ?_
    all_goals (intro w27 hJ27)
    all_goals (refine AtT.knot ?_)
    all_goals refine AtT.done ?_
    all_goals (refine At.nrm ?_)
    · refine At.condF rfl rfl ?_
      refine At.nrm ?_
      refine At.ktext (.q 0 (.q 1 .done)) ?_
      first | refine AtT.kadd ?_ | refine AtT.kaddW ?_
      refine AtT.kmove ?_
      refine AtT.done ?_
      refine At.nrm ?_
      refine At.roundY H (k + 1) ?_ (by omega) ?_ hJ27
      · show 125 - (k + 1) < 125 - k; omega
      · exact ⟨rfl, rfl, rfl, ivs (by omega), trivial⟩
    · refine At.condT rfl rfl ?_
      refine At.nrm ?_
      exact At.itEnd H (.inr rfl) rfl (.inr hJ27)
  · obtain rfl : k = 125 := by omega
    refine At.nrm ?_
    exact At.itEnd H (.inl rfl) rfl (.inl (by rw [ysP_len]; exact hJ))
end Go.Proofs.Ytfcpmblmklibjaa
set_option linter.unusedVariables false
namespace Go.Proofs.Ytfcpmblmklibjaa
open Go.Lw Go.Gl Go.Bl Go.RowKit

theorem pqe_all (p : Pq) : (pqe p).all Value.oneCell' = true := rfl
theorem appendSeq_f (V : View) : Fnc Try.prog 97 [.slice none 0 0, .func (.func 98) #[] #[]] V fun r V' => Sl V' pqe 3 r panL := by
  refine fn_ofM Try.func97 rfl Try.ntmps97 (Nat.le_of_ble_eq_true rfl) ?_
  intro w0 hw0
  refine At.nrm ?_
  refine At.ktext (.n false 0 (.q 1 .done)) ?_
  refine AtT.kbox ?_
  intro b2
  refine AtT.kassign ?_
  refine AtT.done ?_
  refine At.nrm ?_
  refine At.ktext (.q 0 .done) ?_
  refine AtT.kmove ?_
  refine AtT.done ?_
  refine At.nrm ?_
  refine At.newRow 24 3 ?_
  refine At.rangeFunc (Vi := V) (ys := ysP) (caps := []) (ι := Nat × Option Addr × Nat) (fun g => g.1)
    (fun g => [.blk b2 (LC [.slice g.2.1 g.1 g.2.2] 106), .row (.slice g.2.1 g.1 g.2.2) 24 3 g.1 (flat pqe (panL.take g.1))])
    (fun g V' => Le V V') (fun _ _ _ => False) rfl ok98 (0, none, 0) rfl ?_ (Le.refl _) (iterP_f V) (fun _ _ h => h) (by decide) (fun y hy => by obtain ⟨p, _, rfl⟩ := List.mem_map.1 hy; rfl) rfl ?_ ?_ (fun _ _ _ _ h => h.elim)
  · exact Pt.auto
  · rintro ⟨k, ao, co⟩ y l D r V' ks' O' hy hVV hl rfl rfl
    dsimp only at hy ⊢
    have hk : k < 125 := by
      have := (List.getElem?_eq_some_iff.1 hy).1
      rwa [ysP_len] at this
    obtain rfl : y = [pqv (pnK k)] := by rw [ysP_at hk] at hy; exact (Option.some.inj hy).symm
    have htk := take_snoc' (panL_at hk)
    have htl : (panL.take k).length = k := by rw [List.length_take, panL_len]; omega
    show At _ _ ((7, pqv (pnK k)) :: _) _ _ _
    refine At.nrm ?_
    refine At.ktext (.n false 0 (.n true 1 .done)) ?_
    refine AtT.kalloc z24 ?_
    intro b5
    refine AtT.kstoreA tk24 ?_
    refine AtT.done ?_
    refine At.nrm ?_
    refine At.begin Pick.auto ?_
    refine At.nrm ?_
    refine At.ktext (.q 0 (.q 1 (.n false 2 (.n true 3 (.n true 4 .done))))) ?_
    first | refine AtT.kloadO tk106 ?_ | refine AtT.kload tk106 ?_
    first | refine AtT.kloadOA tk24 ?_ | refine AtT.kloadA tk24 ?_ | refine AtT.kloadOP tk24 ?_
    refine AtT.kbsliceG (bs106_1_0 _ _ _) ?_
    intro q10 V10 hV10 hq10
    have g10 : Le V V10 := by first | exact hV10 | exact Le.trans (by assumption) hV10
    first | refine AtT.kappend Try.underlying106 rw24 ?_
    intro a11 c11
    first | refine AtT.kstore1 tk106 ?_ | refine AtT.kstoreA tk106 ?_
    refine AtT.done ?_
    refine At.nrm ?_
    refine At.roundN (k + 1, a11, c11) rfl (hVV.trans (by first | assumption | exact Le.refl _)) Pick.auto ?_
    dsimp only
    rw [htk, flat_snoc]
    · exact Pt.auto
  rintro ⟨k, ao, co⟩ D V3 O' hk hVV hl rfl
  dsimp only at hk ⊢
  rw [ysP_len] at hk
  subst hk
  rw [show panL.take 125 = panL from List.take_of_length_le (by rw [panL_len]; exact Nat.le_refl _)]
  refine At.giveSl (l := panL) pqe_len rfl panL_len.symm Pick.auto (fun V4 hV4 hs4 => ?_)
  refine At.sub (ks' := [(2, .pointer (some ⟨b2, 0, none⟩))]) ⟨rfl, trivial⟩ ?_
  refine At.nrm ?_
  refine At.ktext (.q 0 (.q 1 .done)) ?_
  first | refine AtT.kloadO tk106 ?_ | refine AtT.kload tk106 ?_
  refine AtT.kassign ?_
  refine AtT.done ?_
  refine At.nrm ?_
  refine At.unmark (.inl rfl) rfl Pick.auto ?_
  exact At.ret1 rfl (.tmp rfl) hs4
theorem collect_f (V : View) : Fnc Try.prog 86 [.func (.func 98) #[] #[]] V fun r V' => Sl V' pqe 3 r panL := by
  refine fn_of Try.func86 rfl Try.ntmps86 (Nat.le_of_ble_eq_true rfl) ?_
  intro w0 hw0
  refine At.nrm ?_
  refine At.ktext (.q 0 .done) ?_
  refine AtT.kassign ?_
  refine AtT.done ?_
  refine At.nrm ?_
  refine At.ktext (.q 0 (.n false 1 (.q 2 .done))) ?_
  refine AtT.kmove ?_
  refine AtT.kcall rfl rfl ok97 (appendSeq_f _) ?_
  rintro v4 V4 hV4 hs4
  refine AtT.kassign ?_
  refine AtT.done ?_
  refine At.nrm ?_
  exact At.ret1 rfl (.tmp rfl) hs4
theorem panels_f (V : View) : Fnc Try.prog 87 [] V fun r _ => r = .func (.func 98) #[] #[] := by
  refine fn_of Try.func87 rfl Try.ntmps87 (Nat.le_of_ble_eq_true rfl) ?_
  intro w0 hw0
  refine At.nrm ?_
  refine At.ktext (.q 0 .done) ?_
  refine AtT.kassign ?_
  refine AtT.done ?_
  refine At.nrm ?_
  refine At.ktext (.q 0 .done) ?_
  refine AtT.kassign ?_
  refine AtT.done ?_
  refine At.nrm ?_
  exact At.ret1 rfl (.tmp rfl) rfl
theorem next_bad (ts : List Tq) (h : alE ts ≠ 0) (V : View) (v : Value) (hs : Sl V tqe 4 v ts) : Fnc Try.prog 47 [v] V fun r _ => r = .tuple #[pqv ⟨0, 0, 0⟩, iv 0, iv (alE ts)] := by
  refine fn_of Try.func47 rfl Try.ntmps47 (Nat.le_of_ble_eq_true rfl) ?_
  intro w0 hw0
  refine At.nrm ?_
  refine At.ktext (.n false 0 (.q 1 (.q 2 .done))) ?_
  refine AtT.kalloc z24 ?_
  intro b2
  refine AtT.kassign ?_
  refine AtT.kassign ?_
  refine AtT.done ?_
  refine At.nrm ?_
  refine At.ktext (.q 0 (.n false 1 (.q 2 (.q 3 (.q 4 (.q 5 (.n false 6 (.q 7 (.n true 8 (.q 9 .done)))))))))) ?_
  refine AtT.kmove ?_
  refine AtT.kcallP rfl rfl ok70 (explained_bad ts h _ _ hs) ?_
  rintro _ rfl
  refine AtT.kmove ?_
  refine AtT.kextract ?_
  refine AtT.kextract ?_
  refine AtT.kextract ?_
  refine AtT.kalloc z80 ?_
  intro b6
  refine AtT.kassign ?_
  first | refine AtT.kstore1 tk80 ?_ | refine AtT.kstoreA tk80 ?_
  refine AtT.kassign ?_
  refine AtT.done ?_
  refine At.nrm ?_
  refine At.ktext (.q 0 (.q 1 .done)) ?_
  refine AtT.kmove ?_
  refine AtT.kneI ?_
  refine AtT.done ?_
  refine At.nrm ?_
  refine At.condT rfl (decide_eq_true h) ?_
  refine At.nrm ?_
  refine At.ktext (.q 0 (.q 1 (.n true 2 (.q 3 (.q 4 .done))))) ?_
  refine AtT.kbuild (bd24) ?_
  refine AtT.kmove ?_
  refine AtT.kstoreA tk24 ?_
  refine AtT.kassign ?_
  refine AtT.kassign ?_
  refine AtT.done ?_
  refine At.nrm ?_
  exact At.ret3 rfl (.agg rfl tk24 Pick.auto rfl) (.tmp rfl) (.tmp rfl) rfl
/-- The panel that tells most, how much it tells, and the error. -/
def nxR (L : List Nat) : Pq × Int × Int := if tel L (mostP L) = 0 then (⟨0, 0, 0⟩, 0, 5) else (mostP L, tel L (mostP L), 0)
theorem next_ok (ts : List Tq) (h : alE ts = 0) (V : View) (v : Value) (hs : Sl V tqe 4 v ts) : Fnc Try.prog 47 [v] V fun r _ => ∃ L, AlS ts L ∧ r = .tuple #[pqv (nxR L).1, iv (nxR L).2.1, iv (nxR L).2.2] := by
  refine fn_of Try.func47 rfl Try.ntmps47 (Nat.le_of_ble_eq_true rfl) ?_
  intro w0 hw0
  refine At.nrm ?_
  refine At.ktext (.n false 0 (.q 1 (.q 2 .done))) ?_
  refine AtT.kalloc z24 ?_
  intro b2
  refine AtT.kassign ?_
  refine AtT.kassign ?_
  refine AtT.done ?_
  refine At.nrm ?_
  refine At.ktext (.q 0 (.n false 1 (.q 2 (.q 3 (.q 4 (.q 5 (.n false 6 (.q 7 (.n true 8 (.q 9 .done)))))))))) ?_
  refine AtT.kmove ?_
  refine AtT.kcall rfl rfl ok70 (explainedA ts h _ _ hs) ?_
  rintro _ V12 hV12 ⟨p, u, L, rfl, hbc, hsl, hal⟩; obtain ⟨au, cu, rfl, _⟩ := id hsl
  refine AtT.kmove ?_
  refine AtT.kextract ?_
  refine AtT.kextract ?_
  refine AtT.kextract ?_
  refine AtT.kalloc z80 ?_
  intro b6
  refine AtT.kassign ?_
  first | refine AtT.kstore1 tk80 ?_ | refine AtT.kstoreA tk80 ?_
  refine AtT.kassign ?_
  refine AtT.done ?_
  refine At.nrm ?_
  have hlt := als_lt hal
  have hlen := als_len hal
  have hms := panL_snd _ (mostP_mem L)
  refine At.giveB (b := b6) Pick.auto (fun V1 hV1 hb6 => ?_)
  have hsl1 := hsl.le hV1
  refine At.ktext (.q 0 (.q 1 .done)) ?_
  refine AtT.kmove ?_
  refine AtT.kneI ?_
  refine AtT.done ?_
  refine At.nrm ?_
  refine At.condF rfl (decide_eq_false (by simp)) ?_
  refine At.nrm ?_
  refine At.ktext (.q 0 (.n false 1 (.n true 2 .done))) ?_
  refine AtT.kfn ?_
  refine AtT.kalloc z104 ?_
  intro b8
  first | refine AtT.kstore1 tk104 ?_ | refine AtT.kstoreA tk104 ?_
  refine AtT.done ?_
  refine At.nrm ?_
  refine At.giveB (b := b8) Pick.auto (fun V2 hV2 hb8 => ?_)
  have hc6 := (cells_blk hb6).le hV2
  have hc8 := cells_blk hb8
  have hsl2 := hsl1.le hV2
  have tl : ∀ (V' : View) (hV : Le V2 V') (p : Pq), sndB p = true → Fnc Try.prog 84 ([] ++ [pqv p] ++ [.pointer (some ⟨b6, 0, none⟩)]) V' fun r _ => r = iv (tel L p) := fun V' hV p hp => tells_f L hlt hlen p hp V' _ _ (hc6.le hV) (hsl2.le hV)
  refine At.ktext (.n false 0 (.n false 1 (.q 2 (.n false 3 (.n false 4 (.n true 5 .done)))))) ?_
  refine AtT.kcallP rfl rfl ok87 (panels_f _) ?_
  rintro _ rfl
  refine AtT.kcall rfl rfl ok86 (collect_f _) ?_
  rintro v22 V22 hV22 hs22
  refine AtT.kfn ?_
  refine AtT.kcallP rfl rfl ok85 (best_b 88 [.pointer (some ⟨b8, 0, none⟩)] (fun p q => decide (tel L q < tel L p)) _ _ (pnK 0) panL.tail (by rw [← panL_cons]; exact hs22) ok88 (fun x y hx hy => by rw [← panL_cons] at hx hy; exact more_f L hlt hlen x y (panL_snd x hx) (panL_snd y hy) _ _ _ _ (hc8.le hV22) (hc6.le hV22) (hsl2.le hV22))) ?_
  rintro _ rfl
  refine AtT.kalloc z24 ?_
  intro b9
  refine AtT.kstoreA tk24 ?_
  refine AtT.done ?_
  refine At.nrm ?_
  have t22 := tl _ hV22 (mostP L) hms
  have hc8' := hc8.le hV22
  show At _ _ _ (.blk b9 (LC (pqe (mostP L)) 24) :: _) _ _
  by_cases hz : tel L (mostP L) = 0
  · refine At.ktext (.q 0 (.q 1 (.n false 2 (.q 3 .done)))) ?_
    first | refine AtT.kloadO tk104 ?_ | refine AtT.kload tk104 ?_
    first | refine AtT.kloadOA tk24 ?_ | refine AtT.kloadA tk24 ?_ | refine AtT.kloadOP tk24 ?_
    refine AtT.kcallV rfl rfl rfl ok84 (t22) ?_
    rintro _ rfl
    refine AtT.keqI ?_
    refine AtT.done ?_
    refine At.nrm ?_
    refine At.condT rfl (decide_eq_true hz) ?_
    refine At.nrm ?_
    refine At.ktext (.q 0 (.n true 1 (.q 2 (.q 3 .done)))) ?_
    refine AtT.kbuild (bd24) ?_
    refine AtT.kstoreA tk24 ?_
    refine AtT.kassign ?_
    refine AtT.kassign ?_
    refine AtT.done ?_
    refine At.nrm ?_
    exact At.ret3 rfl (.agg rfl tk24 Pick.auto rfl) (.tmp rfl) (.tmp rfl) ⟨L, hal, by unfold nxR; rw [if_pos hz]⟩
  · refine At.ktext (.q 0 (.q 1 (.n false 2 (.q 3 .done)))) ?_
    first | refine AtT.kloadO tk104 ?_ | refine AtT.kload tk104 ?_
    first | refine AtT.kloadOA tk24 ?_ | refine AtT.kloadA tk24 ?_ | refine AtT.kloadOP tk24 ?_
    refine AtT.kcallV rfl rfl rfl ok84 (t22) ?_
    rintro _ rfl
    refine AtT.keqI ?_
    refine AtT.done ?_
    refine At.nrm ?_
    refine At.condF rfl (decide_eq_false hz) ?_
    refine At.nrm ?_
    refine At.draw (.q 0 (.q 1 (.q 2 (.n false 3 (.n true 4 (.q 5 (.q 6 .done))))))) ffm (by kernel_rfl) ?_
    first | refine AtT.kloadOA tk24 ?_ | refine AtT.kloadA tk24 ?_ | refine AtT.kloadOP tk24 ?_
    first | refine AtT.kloadO tk104 ?_ | refine AtT.kload tk104 ?_
    first | refine AtT.kloadOA tk24 ?_ | refine AtT.kloadA tk24 ?_ | refine AtT.kloadOP tk24 ?_
    refine AtT.kcallV rfl rfl rfl ok84 (t22) ?_
    rintro _ rfl
    refine AtT.kstoreA tk24 ?_
    refine AtT.kassign ?_
    refine AtT.kassign ?_
    refine AtT.done ?_
    refine At.nrm ?_
    all_goals (exact At.ret3 rfl (.agg rfl tk24 Pick.auto rfl) (.tmp rfl) (.tmp rfl) ⟨L, hal, by unfold nxR; rw [if_neg hz]⟩)
end Go.Proofs.Ytfcpmblmklibjaa
set_option linter.unusedVariables false
namespace Go.Proofs.Ytfcpmblmklibjaa
open Go.Lw Go.Gl Go.Bl Go.RowKit

theorem given_f (ts : List Tq) (he : trE ts = 0) (by' : List U8) (bits : Int) (hb0 : 0 ≤ bits ∧ bits ≤ 65535) (V : View) (v vb : Value) (hs : Sl V tqe 4 v ts) (hy : Sl V e8 1 vb by') (hy1 : by'.length ≤ 1000) : Fnc Try.prog 40 [v, vb, .int .u16 bits] V fun r V' =>
    ∃ A, A < 32768 ∧ mtB A (clA ts) = false ∧ (∀ s ∈ lsL ts, s ≠ 0 → mtB A s = true) ∧ SlI V' r (bitL A 15) := by
  obtain ⟨h16, ht⟩ := trE_ok he
  have hll : (lfL ts).length = ts.length := by unfold lfL; rw [List.length_map]
  have hbd := lf_bd ht
  have hcl : clA ts < 32768 := clN_lt ht _
  obtain ⟨ab, cb, rfl, k3, k4, _⟩ := id hy
  clear k3 k4
  have hclr : clR ts = bitL (clA ts) 15 := by unfold clR; rw [if_pos he]
  have hbt : btL (bitL (clA ts) 15) = clA ts := btL_bitL (n := 15) hcl
  have hin : ∀ x ∈ bitL (clA ts) 15, 0 ≤ x ∧ x < 15 := fun x hx => by
    obtain ⟨i, h1, rfl, _⟩ := bitL_mem.1 hx; omega
  obtain ⟨bn, rfl⟩ : ∃ n : Nat, bits = (n : Int) := ⟨bits.toNat, by omega⟩
  have hand : bn &&& 32767 < 32768 := Nat.lt_of_le_of_lt Nat.and_le_right (by decide)
  refine fn_of Try.func40 rfl Try.ntmps40 (Nat.le_of_ble_eq_true rfl) ?_
  intro w0 hw0
  refine At.nrm ?_
  refine At.ktext (.q 0 .done) ?_
  refine AtT.kassign ?_
  refine AtT.done ?_
  refine At.nrm ?_
  refine At.ktext (.q 0 (.n false 1 (.q 2 .done))) ?_
  refine AtT.kmove ?_
  refine AtT.kcall rfl rfl ok69 (left_f ts ht (by omega) _ _ hs) ?_
  rintro v15 V15 hV15 hs15; obtain ⟨a7, c7, rfl, _⟩ := id hs15
  refine AtT.kassign ?_
  refine AtT.done ?_
  refine At.nrm ?_
  refine At.ktext (.q 0 (.n false 1 (.q 2 (.q 3 (.q 4 (.q 5 (.q 6 .done))))))) ?_
  refine AtT.kmove ?_
  refine AtT.kcall rfl rfl ok20 (rclear_f ts _ _ (hs.le hV15)) ?_
  rintro _ V18 hV18 ⟨u, rfl, hs18⟩
  refine AtT.kmove ?_
  refine AtT.kextract ?_
  refine AtT.kextract ?_
  refine AtT.kassign ?_
  refine AtT.kassign ?_
  refine AtT.done ?_
  refine At.nrm ?_
  rw [hclr] at hs18
  refine At.ktext (.q 0 (.q 1 (.q 2 (.q 3 (.n false 4 (.q 5 (.q 6 .done))))))) ?_
  refine AtT.kmove ?_
  refine AtT.kconv un45 Try.underlying3 ?_
  rw [wrap_fit (Fit.of (by omega) (by omega))]
  refine AtT.andN rfl trivial rfl rfl rfl rfl (by omega) (by decide) (by decide) (A := bn) (B := 32767) ?_
  refine AtT.kmove ?_
  refine AtT.kcallP rfl rfl ok42 (bitsOf_f (bitL (clA ts) 15) hin _ _ hs18) ?_
  rintro _ rfl; rw [hbt]
  refine AtT.clrN rfl trivial rfl rfl rfl rfl (by omega) (by omega) (by decide) (A := bn &&& 32767) (B := clA ts) ?_
  refine AtT.kassign ?_
  refine AtT.done ?_
  refine At.nrm ?_
  have hs7 := hs15.le hV18
  have hy7 := (hy.le hV15).le hV18
  refine At.ktext (.q 0 .done) ?_
  refine AtT.kassign ?_
  refine AtT.done ?_
  refine At.nrm ?_
  refine At.lp (ι := Nat × Nat) (KS := fun g => [(1, .slice ab by'.length cb), (7, .slice a7 (lfL ts).length c7), (10, iv g.2), (11, iv g.1)]) (OS := fun _ => [])
    (VS := fun g V' => Le V18 V' ∧ g.1 ≤ (lfL ts).length ∧ GvI (clA ts) (lfL ts) g.1 g.2) (μ := fun g => (lfL ts).length - g.1) (0, clrB (bn &&& 32767) (clA ts)) ?_ ?_ ?_ ?_
  · exact ⟨rfl, rfl, rfl, rfl, trivial⟩
  · exact Pt.auto
  · exact ⟨Le.refl _, Nat.zero_le _, gv_start hcl⟩
  rintro ⟨k, out⟩ V' ks' O' ⟨hVV, hkl, hgv⟩ hk hO hl2
  dsimp only at hkl hgv hk hO
  subst hk hO
  have hol := hgv.lt
  have hs7' := hs7.le hVV
  have hy7' := hy7.le hVV
  refine At.nrm ?_
  refine At.ktext (.q 0 (.q 1 (.q 2 (.q 3 .done)))) ?_
  refine AtT.kmove ?_
  refine AtT.kmove ?_
  first | refine AtT.klenS Try.underlying25 ?_ | refine AtT.klenR Try.underlying25 ?_
  refine AtT.klss ?_
  refine AtT.done ?_
  refine At.nrm ?_
  refine At.condP rfl (fun hp => ?_) (fun hp => ?_)
  rotate_left
  · obtain rfl : k = (lfL ts).length := by omega
    refine At.nrm ?_
    refine At.ktext (.q 0 (.n false 1 (.q 2 .done))) ?_
    refine AtT.kmove ?_
    refine AtT.kcall rfl rfl ok39 (bits_f out 15 (by omega) (by decide) _) ?_
    rintro v74 V74 hV74 hs74
    refine AtT.kassign ?_
    refine AtT.done ?_
    refine At.nrm ?_
    refine At.ret1 rfl (.tmp rfl) ⟨out, hol, hgv.no_, fun s hs' h0 => ?_, hs74⟩
    obtain ⟨j, hj⟩ := lf_ls.2 hs'
    exact hgv.hit j s (List.getElem?_eq_some_iff.1 hj).1 hj h0
  obtain ⟨x, hx⟩ : ∃ x, (lfL ts)[k]? = some x := ⟨_, List.getElem?_eq_getElem (by omega)⟩
  have hxb := hbd x (List.mem_of_getElem? hx)
  refine At.nrm ?_
  by_cases c0 : x ≤ 0
  · refine At.ktext (.q 0 (.q 1 (.q 2 (.q 3 (.q 4 (.q 5 (.q 6 (.q 7 (.q 8 (.q 9 (.q 10 (.q 11 (.q 12 (.q 13 .done)))))))))))))) ?_
    refine AtT.kmove ?_
    refine AtT.kmove ?_
    refine AtT.kidx Try.underlying25 tk3 ?_
    intro p35 e35 he35 hc35
    obtain rfl : x = e35 := by have : (lfL ts)[k]? = some e35 := (by simpa using he35); rw [hx] at this; simpa using this
    first | refine AtT.kloadO tk3 ?_ | refine AtT.kload tk3 ?_
    refine AtT.kleq ?_
    refine AtT.setT (d := 37) rfl (c0) ?_
    refine AtT.kmove ?_
    all_goals (first | refine AtT.kL 38 ?_ | refine AtT.pcase (d := 38) rfl (fun hg38 => ?_) (fun hg38 => ?_) | refine AtT.bcase (d := 38) rfl (fun hg38 => ?_) (fun hg38 => ?_))
    all_goals (first | refine AtT.kpass ?_ | refine AtT.kpassU ?_ | ((refine AtT.kmove ?_)))
    all_goals (first | refine AtT.kpass ?_ | refine AtT.kpassU ?_ | ((refine AtT.kmove ?_)))
    all_goals (first | refine AtT.kpass ?_ | refine AtT.kpassU ?_ | ((refine AtT.kidx Try.underlying25 tk3 ?_) ; (intro p41 e41 he41 hc41)))
    all_goals (first | refine AtT.kpass ?_ | refine AtT.kpassU ?_ | ((first | refine AtT.kloadO tk3 ?_ | refine AtT.kload tk3 ?_)))
    all_goals (first | refine AtT.kpass ?_ | refine AtT.kpassU ?_ | ((refine AtT.kmove ?_)))
    all_goals (first | refine AtT.kpass ?_ | refine AtT.kpassU ?_ | ((fail)))
    all_goals (first | refine AtT.kpass ?_ | refine AtT.kpassU ?_ | ((refine AtT.kneI ?_)))
    all_goals (refine AtT.kpick ?_)
    all_goals refine AtT.done ?_
    all_goals (refine At.nrm ?_)
    refine At.condT rfl rfl ?_
    refine At.nrm ?_
    refine At.ktext (.q 0 (.q 1 (.q 2 .done))) ?_
    refine AtT.kmove ?_
    first | refine AtT.kadd ?_ | refine AtT.kaddW ?_
    refine AtT.kassign ?_
    refine AtT.done ?_
    refine At.nrm ?_
    refine At.round (k + 1, out) ?_ ?_ ?_ ?_
    · show (lfL ts).length - (k + 1) < (lfL ts).length - k; omega
    · exact ⟨hVV, by dsimp only; omega, gv_skip hgv hx (.inl c0)⟩
    · exact ⟨rfl, rfl, rfl, ivs (by dsimp only; omega), trivial⟩
    · exact Pt.auto
  obtain ⟨s, rfl⟩ : ∃ s : Nat, x = (s : Int) := ⟨x.toNat, by omega⟩
  by_cases c1 : s &&& out = 0
  rotate_left
  · refine At.ktext (.q 0 (.q 1 (.q 2 (.q 3 (.q 4 (.q 5 (.q 6 (.q 7 (.q 8 (.q 9 (.q 10 (.q 11 (.q 12 (.q 13 .done)))))))))))))) ?_
    refine AtT.kmove ?_
    refine AtT.kmove ?_
    refine AtT.kidx Try.underlying25 tk3 ?_
    intro p35 e35 he35 hc35
    obtain rfl : (s : Int) = e35 := by have : (lfL ts)[k]? = some e35 := (by simpa using he35); rw [hx] at this; simpa using this
    first | refine AtT.kloadO tk3 ?_ | refine AtT.kload tk3 ?_
    refine AtT.kleq ?_
    refine AtT.setF (d := 37) rfl (c0) ?_
    refine AtT.kmove ?_
    all_goals (first | refine AtT.kL 38 ?_ | refine AtT.pcase (d := 38) rfl (fun hg38 => ?_) (fun hg38 => ?_) | refine AtT.bcase (d := 38) rfl (fun hg38 => ?_) (fun hg38 => ?_))
    all_goals (first | refine AtT.kpass ?_ | refine AtT.kpassU ?_ | ((refine AtT.kmove ?_)))
    all_goals (first | refine AtT.kpass ?_ | refine AtT.kpassU ?_ | ((refine AtT.kmove ?_)))
    all_goals (first | refine AtT.kpass ?_ | refine AtT.kpassU ?_ | ((refine AtT.kidx Try.underlying25 tk3 ?_) ; (intro p41 e41 he41 hc41)))
    all_goals (obtain rfl : (s : Int) = e41 := by have : (lfL ts)[k]? = some e41 := (by simpa using he41); rw [hx] at this; simpa using this)
    all_goals (first | refine AtT.kpass ?_ | refine AtT.kpassU ?_ | ((first | refine AtT.kloadO tk3 ?_ | refine AtT.kload tk3 ?_)))
    all_goals (first | refine AtT.kpass ?_ | refine AtT.kpassU ?_ | ((refine AtT.kmove ?_)))
    all_goals (first | refine AtT.kpass ?_ | refine AtT.kpassU ?_ | ((refine AtT.andN rfl ⟨_, _, rfl, rfl, rfl⟩ rfl rfl rfl rfl (by omega) (by omega) (by decide) (A := s) (B := out) ?_)))
    all_goals (first | refine AtT.kpass ?_ | refine AtT.kpassU ?_ | ((refine AtT.kneI ?_)))
    all_goals (refine AtT.setT (d := 45) rfl ((by omega)) ?_)
    all_goals (refine AtT.kpick ?_)
    all_goals refine AtT.done ?_
    all_goals (refine At.nrm ?_)
    refine At.condT rfl rfl ?_
    refine At.nrm ?_
    refine At.ktext (.q 0 (.q 1 (.q 2 .done))) ?_
    refine AtT.kmove ?_
    first | refine AtT.kadd ?_ | refine AtT.kaddW ?_
    refine AtT.kassign ?_
    refine AtT.done ?_
    refine At.nrm ?_
    refine At.round (k + 1, out) ?_ ?_ ?_ ?_
    · show (lfL ts).length - (k + 1) < (lfL ts).length - k; omega
    · exact ⟨hVV, by dsimp only; omega, gv_skip hgv hx (.inr ⟨s, rfl, c1⟩)⟩
    · exact ⟨rfl, rfl, rfl, ivs (by dsimp only; omega), trivial⟩
    · exact Pt.auto
  have hsb := cntK_le s 15
  unfold cntK at hsb
  have hpos : 0 < (bitL s 15).length := by
    have h0 : s ≠ 0 := by omega
    obtain ⟨i, hi⟩ : ∃ i, s.testBit i = true := Nat.exists_testBit_of_ne_zero h0
    exact List.length_pos_iff.2 (List.ne_nil_of_mem (bitL_mem.2 ⟨i, lt15_bit (by omega) hi, rfl, hi⟩))
  refine At.ktext (.q 0 (.q 1 (.q 2 (.q 3 (.q 4 (.q 5 (.q 6 (.q 7 (.q 8 (.q 9 (.q 10 (.q 11 (.q 12 (.q 13 .done)))))))))))))) ?_
  refine AtT.kmove ?_
  refine AtT.kmove ?_
  refine AtT.kidx Try.underlying25 tk3 ?_
  intro p35 e35 he35 hc35
  obtain rfl : (s : Int) = e35 := by have : (lfL ts)[k]? = some e35 := (by simpa using he35); rw [hx] at this; simpa using this
  first | refine AtT.kloadO tk3 ?_ | refine AtT.kload tk3 ?_
  refine AtT.kleq ?_
  refine AtT.setF (d := 37) rfl (c0) ?_
  refine AtT.kmove ?_
  all_goals (first | refine AtT.kL 38 ?_ | refine AtT.pcase (d := 38) rfl (fun hg38 => ?_) (fun hg38 => ?_) | refine AtT.bcase (d := 38) rfl (fun hg38 => ?_) (fun hg38 => ?_))
  all_goals (first | refine AtT.kpass ?_ | refine AtT.kpassU ?_ | ((refine AtT.kmove ?_)))
  all_goals (first | refine AtT.kpass ?_ | refine AtT.kpassU ?_ | ((refine AtT.kmove ?_)))
  all_goals (first | refine AtT.kpass ?_ | refine AtT.kpassU ?_ | ((refine AtT.kidx Try.underlying25 tk3 ?_) ; (intro p41 e41 he41 hc41)))
  all_goals (obtain rfl : (s : Int) = e41 := by have : (lfL ts)[k]? = some e41 := (by simpa using he41); rw [hx] at this; simpa using this)
  all_goals (first | refine AtT.kpass ?_ | refine AtT.kpassU ?_ | ((first | refine AtT.kloadO tk3 ?_ | refine AtT.kload tk3 ?_)))
  all_goals (first | refine AtT.kpass ?_ | refine AtT.kpassU ?_ | ((refine AtT.kmove ?_)))
  all_goals (first | refine AtT.kpass ?_ | refine AtT.kpassU ?_ | ((refine AtT.andN rfl ⟨_, _, rfl, rfl, rfl⟩ rfl rfl rfl rfl (by omega) (by omega) (by decide) (A := s) (B := out) ?_)))
  all_goals (first | refine AtT.kpass ?_ | refine AtT.kpassU ?_ | ((refine AtT.kneI ?_)))
  all_goals (refine AtT.setF (d := 45) rfl ((by omega)) ?_)
  all_goals (refine AtT.kpick ?_)
  all_goals refine AtT.done ?_
  all_goals (refine At.nrm ?_)
  refine At.condF rfl rfl ?_
  refine At.nrm ?_
  refine At.ktext (.q 0 (.q 1 (.q 2 (.q 3 (.n false 4 (.q 5 (.q 6 .done))))))) ?_
  refine AtT.kmove ?_
  refine AtT.kmove ?_
  refine AtT.kidx Try.underlying25 tk3 ?_
  intro p49 e49 he49 hc49
  obtain rfl : (s : Int) = e49 := by have : (lfL ts)[k]? = some e49 := (by simpa using he49); rw [hx] at this; simpa using this
  first | refine AtT.kloadO tk3 ?_ | refine AtT.kload tk3 ?_
  refine AtT.kcall rfl rfl ok39 (bits_f s 15 (by omega) (by decide) _) ?_
  rintro v51 V51 hV51 hs51; obtain ⟨a12, c12, rfl, _⟩ := id hs51
  refine AtT.kassign ?_
  refine AtT.kassign ?_
  refine AtT.done ?_
  refine At.nrm ?_
  have hy5 := hy7'.le hV51
  refine At.ktext (.q 0 (.q 1 (.q 2 .done))) ?_
  refine AtT.kmove ?_
  first | refine AtT.klenS Try.underlying44 ?_ | refine AtT.klenR Try.underlying44 ?_
  refine AtT.kgtr ?_
  refine AtT.done ?_
  refine At.nrm ?_
  refine At.cutG (ι := Int) (fun f => [(1, .slice ab by'.length cb), (7, .slice a7 (lfL ts).length c7), (10, iv out), (11, iv k), (12, .slice a12 (bitL s 15).length c12), (13, iv f)]) (fun _ => [])
    (fun f V'' => V'' = V51 ∧ 0 ≤ f ∧ f ≤ 255) ?_ ?_
  · refine At.condP rfl (fun hc => ?_) (fun hc => ?_)
    · have t0 := Int.tmod_nonneg (by'.length : Int) (show 0 ≤ (k : Int) by omega)
      have t1 := Int.tmod_lt_of_pos (k : Int) (b := (by'.length : Int)) (by omega)
      refine At.nrm ?_
      refine At.ktext (.q 0 (.q 1 (.q 2 (.q 3 (.q 4 (.q 5 (.q 6 (.q 7 (.q 8 .done))))))))) ?_
      refine AtT.kmove ?_
      refine AtT.kmove ?_
      refine AtT.kmove ?_
      first | refine AtT.klenS Try.underlying44 ?_ | refine AtT.klenR Try.underlying44 ?_
      refine AtT.krem ?_
      refine AtT.kidx Try.underlying44 tk5 ?_
      intro p60 e60 he60 hc60
      first | refine AtT.kloadO tk5 ?_ | refine AtT.kload tk5 ?_
      refine AtT.kconv un5 Try.underlying3 ?_
      have hu := e60.h
      rw [wrap_fit (Fit.of (by omega) (by omega))]
      refine AtT.kassign ?_
      refine AtT.done ?_
      refine At.nrm ?_
      exact At.meetG e60.n ⟨rfl, e60.h.1, e60.h.2⟩ ⟨rfl, rfl, rfl, rfl, rfl, rfl, trivial⟩ Pt.auto
    · refine At.nrm ?_
      exact At.meetG 0 ⟨rfl, Int.le_refl _, by decide⟩ ⟨rfl, rfl, rfl, rfl, rfl, rfl, trivial⟩ Pt.auto
  rintro f V3 ks' O' ⟨rfl, hf0, hf1⟩ hk2 hO hl3
  subst hk2 hO
  have t2 := Int.tmod_nonneg ((bitL s 15).length : Int) hf0
  have t3 := Int.tmod_lt_of_pos f (b := ((bitL s 15).length : Int)) (by omega)
  obtain ⟨z, hz⟩ : ∃ z, (bitL s 15)[(f.tmod (bitL s 15).length).toNat]? = some z := ⟨_, List.getElem?_eq_getElem (by omega)⟩
  obtain ⟨i, hi15, rfl, hib⟩ := bitL_mem.1 (List.mem_of_getElem? hz)
  have hpw : 2 ^ i < 32768 := Nat.pow_lt_pow_right (n := 15) (by decide) hi15
  have hnx := gv_add hgv hx hi15 hib (ls_no ht s (lf_ls.1 ⟨k, hx⟩))
  refine At.nrm ?_
  refine At.ktext (.q 0 (.q 1 (.q 2 (.q 3 (.q 4 (.q 5 (.q 6 (.q 7 (.q 8 (.q 9 (.q 10 .done))))))))))) ?_
  refine AtT.kmove ?_
  refine AtT.kmove ?_
  refine AtT.kmove ?_
  refine AtT.kmove ?_
  first | refine AtT.klenS Try.underlying25 ?_ | refine AtT.klenR Try.underlying25 ?_
  refine AtT.krem ?_
  refine AtT.kidx Try.underlying25 tk3 ?_
  intro p69 e69 he69 hc69
  obtain rfl : (i : Int) = e69 := by have := he69; rw [hz] at this; simpa using this
  first | refine AtT.kloadO tk3 ?_ | refine AtT.kload tk3 ?_
  refine AtT.shlN rfl trivial rfl rfl rfl (by omega) (by decide) (N := i) ?_
  refine AtT.orN rfl trivial rfl rfl rfl rfl (by omega) (by omega) (by decide) (A := out) (B := 2 ^ i) ?_
  refine AtT.kassign ?_
  refine AtT.done ?_
  refine At.nrm ?_
  refine At.ktext (.q 0 (.q 1 (.q 2 .done))) ?_
  refine AtT.kmove ?_
  first | refine AtT.kadd ?_ | refine AtT.kaddW ?_
  refine AtT.kassign ?_
  refine AtT.done ?_
  refine At.nrm ?_
  refine At.round (k + 1, out ||| 2 ^ i) ?_ ?_ ?_ ?_
  · show (lfL ts).length - (k + 1) < (lfL ts).length - k; omega
  · exact ⟨hVV.trans hV51, by dsimp only; omega, hnx⟩
  · exact ⟨rfl, rfl, rfl, ivs (by dsimp only; omega), trivial⟩
  · exact Pt.auto
end Go.Proofs.Ytfcpmblmklibjaa
namespace Go.Bl
open Go.Gl Go.Lw
/-- A property holds of all numbers below a power of two. -/
def allB (p : Nat → Bool) : Nat → Nat → Bool
  | 0, b => p b
  | n + 1, b => allB p n (2 * b) && allB p n (2 * b + 1)
theorem allB_at {p : Nat → Bool} : ∀ {n b : Nat}, allB p n b = true → ∀ x, b * 2 ^ n ≤ x → x < (b + 1) * 2 ^ n → p x = true
  | 0, b, h, x, h1, h2 => by
    obtain rfl : x = b := by omega
    exact h
  | n + 1, b, h, x, h1, h2 => by
    simp only [allB, Bool.and_eq_true] at h
    have e : 2 ^ (n + 1) = 2 ^ n + 2 ^ n := by rw [Nat.pow_succ]; omega
    by_cases c : x < (2 * b + 1) * 2 ^ n
    · refine allB_at h.1 x ?_ c
      rw [e, Nat.mul_add] at h1; rw [Nat.mul_comm 2 b, Nat.mul_assoc, Nat.two_mul, Nat.mul_add]; omega
    · refine allB_at h.2 x (by omega) ?_
      rw [e] at h2
      have : (2 * b + 1 + 1) * 2 ^ n = (b + 1) * (2 ^ n + 2 ^ n) := by rw [show 2 * b + 1 + 1 = (b + 1) * 2 by omega, Nat.mul_assoc, Nat.two_mul]
      omega
def exN (no : Nat) (ls : List Nat) (x : Nat) : Bool := !mtB x no && ls.all fun s => mtB x s
theorem exN_iff {no : Nat} {ls : List Nat} {x : Nat} (h : x < 32768) : exN no ls x = true ↔ Ex no ls x := by
  unfold exN Ex
  rw [Bool.and_eq_true, List.all_eq_true]
  constructor
  · rintro ⟨a, b⟩; exact ⟨h, by simpa using a, b⟩
  · rintro ⟨_, a, b⟩; exact ⟨by simp [a], b⟩
def smN (no : Nat) (ls L : List Nat) (m : Nat) (x : Nat) : Bool := (exN no ls x && decide (cnt x ≤ m)) == L.contains x && (!exN no ls x || decide (m ≤ cnt x))
theorem smN_mem {no : Nat} {ls L : List Nat} {m : Nat} (h : allB (smN no ls L m) 15 0 = true) (hL : ∀ x ∈ L, x < 32768 ∧ cnt x = m) (hne : L ≠ []) (x : Nat) : x ∈ L ↔ Ex no ls x ∧ ∀ y, Ex no ls y → cnt x ≤ cnt y := by
  have at_ : ∀ y, y < 32768 → smN no ls L m y = true := fun y hy => allB_at h y (by omega) (by omega)
  have e1 : ∀ y, y < 32768 → (Ex no ls y → m ≤ cnt y) ∧ ((Ex no ls y ∧ cnt y ≤ m) ↔ y ∈ L) := fun y hy => by
    have := at_ y hy
    unfold smN at this
    rw [Bool.and_eq_true, beq_iff_eq, Bool.or_eq_true] at this
    obtain ⟨a, b⟩ := this
    rw [← exN_iff hy]
    constructor
    · intro he
      rcases b with b | b
      · rw [he] at b; cases b
      · exact of_decide_eq_true b
    · rw [← List.contains_iff_mem, ← a, Bool.and_eq_true, decide_eq_true_eq]
  constructor
  · intro hx
    obtain ⟨h1, h2⟩ := hL x hx
    exact ⟨((e1 x h1).2.2 hx).1, fun y hy => by have := (e1 y hy.1).1 hy; omega⟩
  · rintro ⟨hx, hm⟩
    obtain ⟨y, hy⟩ := List.exists_mem_of_ne_nil L hne
    obtain ⟨h1, h2⟩ := hL y hy
    have := hm y ((e1 y h1).2.2 hy).1
    exact (e1 x hx.1).2.1 ⟨hx, by omega⟩
def tW : List Tq := [⟨⟨0, 1, 2⟩, true⟩, ⟨⟨0, 0, 0⟩, false⟩, ⟨⟨1, 1, 0⟩, true⟩, ⟨⟨1, 2, 2⟩, true⟩, ⟨⟨2, 2, 0⟩, false⟩]
def uW : List Tq := tW ++ [⟨⟨0, 0, 2⟩, false⟩]
def vW : List Tq := uW ++ [⟨⟨1, 1, 1⟩, false⟩]
theorem wT0 : trE tW = 0 := by decide +kernel
theorem wTa : alE tW = 0 := by decide +kernel
theorem wUa : alE uW = 0 := by decide +kernel
theorem wVa : alE vW = 26 := by decide +kernel
theorem wC1 : clR tW = [0, 2, 5, 7, 10] := by decide +kernel
theorem wK1 : ccR tW [1, 6] = 0 := by decide +kernel
theorem wK2 : ccR tW [6] = 26 := by decide +kernel
theorem wK3 : ccR tW [0, 1, 6] = 16 := by decide +kernel
theorem wK4 : ccR tW [6, 1] = 2 := by decide +kernel
theorem wU1 : unR tW = (0, 5) := by decide +kernel
theorem wU2 : unR vW = (0, 0) := by decide +kernel
theorem wA1 : aG (prP tW) [] [] 0 = [0] := by decide +kernel
theorem wA2 : ckR tW [0, 2] = 16 := by decide +kernel
theorem wA3 : ckR tW [0, 1] = 3 := by decide +kernel
theorem wA4 : ckR tW [2, 0] = 2 := by decide +kernel
theorem wLno : clA tW = 1189 := by decide +kernel
theorem wLls : lsL tW = [4160, 66, 4098] := by decide +kernel
theorem wMno : clA uW = 5285 := by decide +kernel
theorem wMls : lsL uW = [64, 66, 2] := by decide +kernel
theorem wSm1 : allB (smN 1189 [4160, 66, 4098] [66, 4098, 4160] 2) 15 0 = true := by decide +kernel
theorem wSm2 : allB (smN 5285 [64, 66, 2] [66] 2) 15 0 = true := by decide +kernel
theorem wF1 : flN [66, 4098, 4160] ⟨0, 0, 2⟩ = 2 := by decide +kernel
theorem wN1 : tel [66, 4098, 4160] (mostP [66, 4098, 4160]) = 1 ∧ mostP [66, 4098, 4160] = ⟨0, 0, 2⟩ := by decide +kernel
theorem wN2 : tel [66] (mostP [66]) = 0 := by decide +kernel
theorem wMem1 (x : Nat) : x ∈ [66, 4098, 4160] ↔ Ex (clA tW) (lsL tW) x ∧ ∀ y, Ex (clA tW) (lsL tW) y → cnt x ≤ cnt y := by
  rw [wLno, wLls]; exact smN_mem wSm1 (by decide +kernel) (by simp) x
theorem wMem2 (x : Nat) : x ∈ [66] ↔ Ex (clA uW) (lsL uW) x ∧ ∀ y, Ex (clA uW) (lsL uW) y → cnt x ≤ cnt y := by
  rw [wMno, wMls]; exact smN_mem wSm2 (by decide +kernel) (by simp) x
theorem lex_of {A B : Nat} (hA : A < 32768) (hB : B < 32768) (hc : cnt A = cnt B) (h : befB (bitL A 15) (bitL B 15) = true) : LexB A B := (bef_lex hA hB hc).1 h
theorem wOrd1 : [66, 4098, 4160].Pairwise LexB := by
  refine List.Pairwise.cons ?_ (List.Pairwise.cons ?_ (List.Pairwise.cons ?_ List.Pairwise.nil))
  · intro y hy
    simp only [List.mem_cons, List.not_mem_nil, or_false] at hy
    rcases hy with rfl | rfl
    · exact lex_of (by decide) (by decide) (by decide +kernel) (by decide +kernel)
    · exact lex_of (by decide) (by decide) (by decide +kernel) (by decide +kernel)
  · intro y hy
    simp only [List.mem_cons, List.not_mem_nil, or_false] at hy
    subst hy
    exact lex_of (by decide) (by decide) (by decide +kernel) (by decide +kernel)
  · intro y hy; cases hy
theorem wOrd2 : [66].Pairwise LexB := List.pairwise_singleton _ _
theorem wBl1 : ([66, 4098, 4160].map fun s => bitL s 15) = [[1, 6], [1, 12], [6, 12]] := by decide +kernel
theorem wBl2 : ([66].map fun s => bitL s 15) = [[1, 6]] := by decide +kernel
theorem wCnt : cnt 66 = 2 := by decide +kernel
theorem wT1 : tN [66, 4098, 4160] 1 = 2 := by decide +kernel
theorem wT2 : tN [66] 1 = 1 := by decide +kernel
end Go.Bl
set_option linter.unusedVariables false
namespace Go.Proofs.Ytfcpmblmklibjaa
open Go.Lw Go.Gl Go.Bl Go.RowKit

theorem tqe_all (t : Tq) : (tqe t).all Value.oneCell' = true := rfl
theorem five_own (V : View) : Fnc Try.prog 51 [] V fun r V' => ∃ ao co, r = .slice ao 5 co ∧ Lent V V' ao co 53 4 5 (flat tqe tW) := by
  refine fn_of Try.func51 rfl Try.ntmps51 (Nat.le_of_ble_eq_true rfl) ?_
  intro w0 hw0
  refine At.nrm ?_
  refine At.ktext (.q 0 .done) ?_
  refine AtT.kassign ?_
  refine AtT.done ?_
  refine At.nrm ?_
  refine At.ktext (.n false 0 (.n false 1 (.n false 2 (.n false 3 (.n false 4 (.n false 5 (.q 6 .done))))))) ?_
  refine AtT.kcallP rfl rfl ok49 (trial_f 0 1 2 true _) ?_
  rintro _ rfl
  refine AtT.kcallP rfl rfl ok49 (trial_f 0 0 0 false _) ?_
  rintro _ rfl
  refine AtT.kcallP rfl rfl ok49 (trial_f 1 1 0 true _) ?_
  rintro _ rfl
  refine AtT.kcallP rfl rfl ok49 (trial_f 1 2 2 true _) ?_
  rintro _ rfl
  refine AtT.kcallP rfl rfl ok49 (trial_f 2 2 0 false _) ?_
  rintro _ rfl
  refine AtT.kbslice (bs22_5_0_1_2_3_4 _ _ _ _ _ _ _ _ _ _ _ _ _ _ _ _ _ _ _ _) ?_
  intro b6
  refine AtT.kassign ?_
  refine AtT.done ?_
  refine At.nrm ?_
  refine At.blkRow (b := b6) (m := 5) (cap := 5) (s := 4) (xs := flat tqe tW) (rest := []) Pick.auto rfl rfl (Nat.le_refl _) (by decide) ?_
  refine At.lend Pick.auto (fun V2 hV2 hL => ?_)
  exact At.ret1 rfl (.tmp rfl) ⟨_, _, rfl, hL⟩
theorem six_own (V : View) : Fnc Try.prog 52 [] V fun r V' => ∃ ao co, r = .slice ao 6 co ∧ Lent V V' ao co 53 4 6 (flat tqe uW) := by
  refine fn_of Try.func52 rfl Try.ntmps52 (Nat.le_of_ble_eq_true rfl) ?_
  intro w0 hw0
  refine At.nrm ?_
  refine At.ktext (.q 0 .done) ?_
  refine AtT.kassign ?_
  refine AtT.done ?_
  refine At.nrm ?_
  refine At.ktext (.n false 0 (.n false 1 (.n false 2 (.n true 3 (.q 4 .done))))) ?_
  refine AtT.callR rfl trivial rfl ok51 (by decide) (five_own _) (fun a1 c1 => ?_)
  refine AtT.kcallP rfl rfl ok49 (trial_f 0 0 2 false _) ?_
  rintro _ rfl
  refine AtT.kbsliceG (bs22_1_0 _ _ _ _) ?_
  intro q3 V3 hV3 hq3
  have g3 : Le V V3 := by first | exact hV3 | exact Le.trans (by assumption) hV3
  first | refine AtT.kappend Try.underlying22 rw53 ?_
  intro a4 c4
  refine AtT.kassign ?_
  refine AtT.done ?_
  refine At.nrm ?_
  refine At.lend (xs := flat tqe uW) Pick.auto (fun V2 hV2 hL => ?_)
  exact At.ret1 rfl (.tmp rfl) ⟨_, _, rfl, hL.entry (by first | assumption | exact Le.refl _)⟩
theorem seven_own (V : View) : Fnc Try.prog 53 [] V fun r V' => ∃ ao co, r = .slice ao 7 co ∧ Lent V V' ao co 53 4 7 (flat tqe vW) := by
  refine fn_of Try.func53 rfl Try.ntmps53 (Nat.le_of_ble_eq_true rfl) ?_
  intro w0 hw0
  refine At.nrm ?_
  refine At.ktext (.q 0 .done) ?_
  refine AtT.kassign ?_
  refine AtT.done ?_
  refine At.nrm ?_
  refine At.ktext (.n false 0 (.n false 1 (.n false 2 (.n true 3 (.q 4 .done))))) ?_
  refine AtT.callR rfl trivial rfl ok52 (by decide) (six_own _) (fun a1 c1 => ?_)
  refine AtT.kcallP rfl rfl ok49 (trial_f 1 1 1 false _) ?_
  rintro _ rfl
  refine AtT.kbsliceG (bs22_1_0 _ _ _ _) ?_
  intro q3 V3 hV3 hq3
  have g3 : Le V V3 := by first | exact hV3 | exact Le.trans (by assumption) hV3
  first | refine AtT.kappend Try.underlying22 rw53 ?_
  intro a4 c4
  refine AtT.kassign ?_
  refine AtT.done ?_
  refine At.nrm ?_
  refine At.lend (xs := flat tqe vW) Pick.auto (fun V2 hV2 hL => ?_)
  exact At.ret1 rfl (.tmp rfl) ⟨_, _, rfl, hL.entry (by first | assumption | exact Le.refl _)⟩
theorem five_f (V : View) : Fnc Try.prog 51 [] V fun r V' => ∃ a c, r = .slice a tW.length c ∧ Sl V' tqe 4 (.slice a tW.length c) tW := (five_own V).mono fun r V' _ ⟨a, c, h1, h2⟩ => ⟨a, c, h1, Lent.sl (l := tW) tqe_len h2⟩
theorem six_f (V : View) : Fnc Try.prog 52 [] V fun r V' => ∃ a c, r = .slice a uW.length c ∧ Sl V' tqe 4 (.slice a uW.length c) uW := (six_own V).mono fun r V' _ ⟨a, c, h1, h2⟩ => ⟨a, c, h1, Lent.sl (l := uW) tqe_len h2⟩
theorem seven_f (V : View) : Fnc Try.prog 53 [] V fun r V' => ∃ a c, r = .slice a vW.length c ∧ Sl V' tqe 4 (.slice a vW.length c) vW := (seven_own V).mono fun r V' _ ⟨a, c, h1, h2⟩ => ⟨a, c, h1, Lent.sl (l := vW) tqe_len h2⟩
theorem SL.lit {V : View} {q : Addr} (qs : List (Option Addr × Nat × Nat)) (ll : List (List Int)) (m : Nat) (h : Cells V q (flat sle qs)) (hm : m = qs.length) (hl : qs.length = ll.length) (h1 : qs.length ≤ 1000000) (hq : ∀ (i : Nat) (q : Option Addr × Nat × Nat) (l : List Int), qs[i]? = some q → ll[i]? = some l → SlI V (.slice q.1 q.2.1 q.2.2) l) : SL V (.slice (some q) m m) ll :=
  ⟨qs, by subst hm; exact Sl.of_cells sle_len h (Nat.le_refl _) (by unfold maxLen; omega), hl, hq⟩
theorem alsT : AlS tW [66, 4098, 4160] := ⟨by decide, wOrd1, wMem1⟩
theorem alsU : AlS uW [66] := ⟨by decide, wOrd2, wMem2⟩
end Go.Proofs.Ytfcpmblmklibjaa
