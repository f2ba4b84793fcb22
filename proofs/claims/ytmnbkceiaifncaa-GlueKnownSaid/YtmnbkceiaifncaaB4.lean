/- Texts that the last one of this claim imports. -/
import Derived.Lib.SliceRun
import Derived.Test.YtmnbkceiaifncaaB3
set_option linter.unusedVariables false
set_option linter.unusedSimpArgs false
set_option linter.unusedSectionVars false
set_option linter.unusedVariables false
namespace Go.Proofs.Ytmnbkceiaifncaa
open Go.Lw Go.Gl Go.RowKit

theorem row_f (d : Dy) (ps : List Pn) (sure : Bool) (V : View) (v : Value) (hs : Sl V pne 3 v ps) : Fnc Try.prog 27 [dyv d, v, .bool sure] V fun r V' => ∃ u, r = .tuple #[u, iv (rowE d ps sure)] ∧ SlI V' u (rwL d ps sure) := by
  obtain ⟨a, c, rfl, k1, k2, _⟩ := id hs
  have hlenp := hs.lenLe
  clear k1 k2
  refine fn_of Try.func27 rfl Try.ntmps27 (Nat.le_of_ble_eq_true rfl) ?_
  intro w0 hw0
  refine At.nrm ?_
  refine At.ktext (.n false 0 (.q 1 (.q 2 .done))) ?_
  refine AtT.kbox ?_
  intro b3
  refine AtT.kassign ?_
  refine AtT.kassign ?_
  refine AtT.done ?_
  refine At.nrm ?_
  by_cases he : rowE d ps sure = 0
  rotate_left
  · refine At.ktext (.q 0 (.q 1 (.q 2 (.n false 3 (.q 4 (.q 5 (.q 6 (.q 7 (.q 8 .done))))))))) ?_
    first | refine AtT.kloadOA tk25 ?_ | refine AtT.kloadA tk25 ?_ | refine AtT.kloadOP tk25 ?_
    refine AtT.kmove ?_
    refine AtT.kmove ?_
    refine AtT.kcallP rfl rfl ok71 (laid_no hs he) ?_
    rintro _ rfl
    refine AtT.kmove ?_
    refine AtT.kextract ?_
    refine AtT.kextract ?_
    refine AtT.kassign ?_
    refine AtT.kassign ?_
    refine AtT.done ?_
    refine At.nrm ?_
    refine At.ktext (.q 0 (.q 1 .done)) ?_
    refine AtT.kmove ?_
    refine AtT.kneI ?_
    refine AtT.done ?_
    refine At.nrm ?_
    refine At.condT rfl (decide_eq_true he) ?_
    refine At.nrm ?_
    refine At.ktext (.q 0 (.q 1 (.q 2 .done))) ?_
    refine AtT.kmove ?_
    refine AtT.kassign ?_
    refine AtT.kassign ?_
    refine AtT.done ?_
    refine At.nrm ?_
    exact At.ret2 rfl (.tmp rfl) (.tmp rfl) ⟨_, rfl, by rw [rwL, if_neg he]; exact Sl.nil _ _ _⟩
  obtain ⟨hb0, hf⟩ := rowE_ok he
  have hk := bothE_ok hb0
  have hB := bn_ok hk sure
  have hn10 := hk.n10
  have hbl := bn_len d ps sure
  refine At.ktext (.q 0 (.q 1 (.q 2 (.n false 3 (.q 4 (.q 5 (.q 6 (.q 7 (.q 8 .done))))))))) ?_
  first | refine AtT.kloadOA tk25 ?_ | refine AtT.kloadA tk25 ?_ | refine AtT.kloadOP tk25 ?_
  refine AtT.kmove ?_
  refine AtT.kmove ?_
  refine AtT.kcall rfl rfl ok71 (laid_yes hs he) ?_
  rintro _ V1 hV1 ⟨p, rfl, hpb⟩
  refine AtT.kmove ?_
  refine AtT.kextract ?_
  refine AtT.kextract ?_
  refine AtT.kassign ?_
  refine AtT.kassign ?_
  refine AtT.done ?_
  refine At.nrm ?_
  refine At.ktext (.q 0 (.q 1 .done)) ?_
  refine AtT.kmove ?_
  refine AtT.kneI ?_
  refine AtT.done ?_
  refine At.nrm ?_
  refine At.condF rfl rfl ?_
  refine At.nrm ?_
  refine At.ktext (.q 0 (.n false 1 (.q 2 .done))) ?_
  refine AtT.kmove ?_
  refine AtT.kcall rfl rfl ok72 (marks_f _ hB _ p hpb) ?_
  rintro m26 V2 hV2 hs26
  refine AtT.kassign ?_
  refine AtT.done ?_
  refine At.nrm ?_
  obtain ⟨am, cm, rfl, q1, q2, _⟩ := id hs26
  clear q1 q2
  refine At.ktext (.q 0 .done) ?_
  refine AtT.kassign ?_
  refine AtT.done ?_
  refine At.nrm ?_
  refine At.ktext (.q 0 (.q 1 (.q 2 .done))) ?_
  refine AtT.kmove ?_
  first | refine AtT.klenS Try.underlying26 ?_ | refine AtT.klenR Try.underlying26 ?_
  refine AtT.kmove ?_
  refine AtT.done ?_
  refine At.nrm ?_
  refine At.newRow 3 1 ?_
  refine At.lp (ι := Nat × Option Addr × Nat) (KS := fun g => [(10, .slice am (mkL (bn d ps sure) (bn d ps sure).each.length).length cm), (11, .slice g.2.1 g.1 g.2.2), (28, iv ps.length), (29, iv g.1)])
    (OS := fun g => [.row (.slice g.2.1 g.1 g.2.2) 3 1 g.1 (flat ei (rowO (bn d ps sure) g.1))]) (VS := fun g V' => Le V2 V' ∧ g.1 ≤ ps.length) (μ := fun g => ps.length - g.1) (0, none, 0) ?_ ?_ ?_ ?_
  · exact ⟨rfl, rfl, rfl, rfl, trivial⟩
  · exact Pt.auto
  · exact ⟨Le.refl _, Nat.zero_le _⟩
  · rintro ⟨k, ao, co⟩ V' ks' O' ⟨hVV, hkl⟩ hk2 hO hl2
    dsimp only at hkl hk2 hO
    subst hk2 hO
    have hsm := hs26.le hVV
    have hml := mkL_len (bn d ps sure) (bn d ps sure).each.length
    refine At.nrm ?_
    refine At.ktext (.q 0 .done) ?_
    refine AtT.klss ?_
    refine AtT.done ?_
    refine At.nrm ?_
    refine At.condP rfl (fun hp => ?_) (fun hp => ?_)
    · refine At.nrm ?_
      refine At.ktext (.q 0 (.q 1 .done)) ?_
      refine AtT.kmove ?_
      refine AtT.kassign ?_
      refine AtT.done ?_
      refine At.nrm ?_
      refine At.ktext (.q 0 (.q 1 (.n false 2 (.q 3 (.q 4 (.q 5 (.q 6 (.q 7 .done)))))))) ?_
      refine AtT.kmove ?_
      refine AtT.kmove ?_
      refine AtT.kcallP rfl rfl ok73 (search_f _ (k : Int) (by omega) (lst_lt (mk_lst (bn d ps sure))) _ _ hsm) ?_
      rintro _ ⟨j, rfl, hj1, hj2, hj3⟩
      refine AtT.kmove ?_
      refine AtT.kextract ?_
      refine AtT.kextract ?_
      refine AtT.kassign ?_
      refine AtT.kassign ?_
      refine AtT.done ?_
      refine At.nrm ?_
      have hpos := mk_pos hf (t := k) (by omega) hj1 hj2 hj3
      refine At.ktext (.q 0 (.q 1 .done)) ?_
      refine AtT.kmove ?_
      refine AtT.knot ?_
      refine AtT.done ?_
      refine At.nrm ?_
      refine At.cutG (ι := Unit) (fun _ => [(10, .slice am (mkL (bn d ps sure) (bn d ps sure).each.length).length cm), (11, .slice ao k co), (13, iv ((rowF (bn d ps sure) (k + 1)).2 : Int)), (28, iv ps.length), (29, iv k)]) (fun _ => [.row (.slice ao k co) 3 1 k (flat ei (rowO (bn d ps sure) k))]) (fun _ V'' => V' = V'') ?_ ?_
      · refine At.cond rfl (fun hc => ?_) (fun hc => ?_)
        · have hc' : ¬ (j < (mkL (bn d ps sure) (bn d ps sure).each.length).length ∧ (mkL (bn d ps sure) (bn d ps sure).each.length).getD j 0 = (k : Int)) := by
            rw [Bool.not_eq_true', decide_eq_false_iff_not] at hc; exact hc
          rw [if_neg hc'] at hpos
          refine At.nrm ?_
          refine At.ktext (.q 0 (.q 1 (.q 2 .done))) ?_
          refine AtT.kmove ?_
          first | refine AtT.ksubt ?_ | refine AtT.ksubW ?_
          refine AtT.kassign ?_
          refine AtT.done ?_
          refine At.nrm ?_
          exact At.meetG () rfl ⟨rfl, rfl, ivs hpos, rfl, rfl, trivial⟩ Pt.auto
        · have hc' : j < (mkL (bn d ps sure) (bn d ps sure).each.length).length ∧ (mkL (bn d ps sure) (bn d ps sure).each.length).getD j 0 = (k : Int) := by
            rw [Bool.not_eq_false', decide_eq_true_eq] at hc; exact hc
          rw [if_pos hc'] at hpos
          refine At.nrm ?_
          exact At.meetG () rfl ⟨rfl, rfl, ivs hpos, rfl, rfl, trivial⟩ Pt.auto
      rintro _ V3 ks' O' rfl hk2 hO hl3
      subst hk2 hO
      refine At.nrm ?_
      refine At.ktext (.q 0 (.q 1 (.n false 2 (.n true 3 (.q 4 .done))))) ?_
      refine AtT.kmove ?_
      refine AtT.kmove ?_
      refine AtT.kbsliceG (bs27_1_0 _) ?_
      intro q44 V44 hV44 hq44
      have g44 : Le V V44 := by first | exact hV44 | exact Le.trans (by assumption) hV44
      first | refine AtT.kappend Try.underlying27 rw3 ?_
      intro a45 c45
      refine AtT.kassign ?_
      refine AtT.done ?_
      refine At.nrm ?_
      refine At.ktext (.q 0 (.q 1 .done)) ?_
      first | refine AtT.kadd ?_ | refine AtT.kaddW ?_
      refine AtT.kmove ?_
      refine AtT.done ?_
      refine At.nrm ?_
      refine At.round (k + 1, a45, c45) ?_ ?_ ?_ ?_
      · show ps.length - (k + 1) < ps.length - k; omega
      · exact ⟨hVV.trans (by assumption), by dsimp only; omega⟩
      · exact ⟨rfl, rfl, rfl, ivs (by dsimp only; omega), trivial⟩
      dsimp only
      rw [rowO_succ, flat_snoc]
      · exact Pt.auto
    · obtain rfl : k = ps.length := by omega
      refine At.nrm ?_
      refine At.ktext (.q 0 (.q 1 (.q 2 .done))) ?_
      refine AtT.kmove ?_
      refine AtT.kassign ?_
      refine AtT.kassign ?_
      refine AtT.done ?_
      refine At.nrm ?_
      refine At.giveSl (l := rowO (bn d ps sure) ps.length) Lw.ei_len rfl (rowO_len _ _).symm Pick.auto (fun V4 hV4 hs4 => ?_)
      exact At.ret2 rfl (.tmp rfl) (.tmp rfl) ⟨_, by rw [he], by rw [rwL, if_pos he, rowL, hbl]; exact hs4⟩
theorem ft_in {d : Dy} {ps : List Pn} {sure : Bool} {a b : Int} (hk : Ok d ps) (h0 : 0 ≤ a) (h1 : b < (ps.length : Int)) : InB (bn d ps sure) (fromTo a b) ∧ (fromTo a b).length ≤ 100 := by
  have := hk.n10
  refine ⟨fun i hi => ?_, by rw [fromTo_len]; omega⟩
  have := fromTo_in i hi
  rw [bn_len]; omega
theorem rowOf_f (d : Dy) (ps : List Pn) (sure : Bool) (hk : Ok d ps) (V : View) (v : Value) (hs : Sl V pne 3 v ps) : Fnc Try.prog 75 [dyv d, v, .bool sure] V fun r V' => SlI V' r (rowL (bn d ps sure)) := by
  obtain ⟨a, c, rfl, k1, k2, _⟩ := id hs
  have hlenp := hs.lenLe
  clear k1 k2
  have hB := bn_ok hk sure
  have hn10 := hk.n10
  have hbl := bn_len d ps sure
  have hrl : ∀ k, (rowF (bn d ps sure) k).2 ≤ k := by
    intro k
    induction k with
    | zero => exact Nat.le_refl 0
    | succ k ih => have := rowF_mono (bn d ps sure) k; omega
  refine fn_of Try.func75 rfl Try.ntmps75 (Nat.le_of_ble_eq_true rfl) ?_
  intro w0 hw0
  refine At.nrm ?_
  refine At.ktext (.n false 0 (.q 1 .done)) ?_
  refine AtT.kbox ?_
  intro b3
  refine AtT.kassign ?_
  refine AtT.done ?_
  refine At.nrm ?_
  refine At.ktext (.q 0 .done) ?_
  refine AtT.kassign ?_
  refine AtT.done ?_
  refine At.nrm ?_
  refine At.ktext (.q 0 (.q 1 .done)) ?_
  refine AtT.kassign ?_
  refine AtT.kassign ?_
  refine AtT.done ?_
  refine At.nrm ?_
  refine At.ktext (.q 0 .done) ?_
  refine AtT.kassign ?_
  refine AtT.done ?_
  refine At.nrm ?_
  refine At.newRow 3 1 ?_
  refine At.lp (ι := Nat × Option Addr × Nat) (KS := fun g => [(1, .slice a ps.length c), (2, .bool sure), (3, .pointer (some ⟨b3, 0, none⟩)), (7, .slice g.2.1 g.1 g.2.2), (8, iv ((rowF (bn d ps sure) g.1).1 : Int)), (9, iv ((rowF (bn d ps sure) g.1).2 : Int)), (10, iv g.1)])
    (OS := fun g => [.blk b3 (LC (dye d) 25), .row (.slice g.2.1 g.1 g.2.2) 3 1 g.1 (flat ei (rowO (bn d ps sure) g.1))]) (VS := fun g V' => Le V V' ∧ g.1 ≤ ps.length) (μ := fun g => ps.length - g.1) (0, none, 0) ?_ ?_ ?_ ?_
  · exact ⟨rfl, rfl, rfl, rfl, rfl, rfl, rfl, trivial⟩
  · exact Pt.auto
  · exact ⟨Le.refl _, Nat.zero_le _⟩
  · rintro ⟨k, ao, co⟩ V' ks' O' ⟨hVV, hkl⟩ hk2 hO hl2
    dsimp only at hkl hk2 hO
    subst hk2 hO
    have hs' := hs.le hVV
    have hfl := rowF_le (bn d ps sure) k
    have hr2 := hrl k
    refine At.nrm ?_
    refine At.ktext (.q 0 (.q 1 (.q 2 (.q 3 .done)))) ?_
    refine AtT.kmove ?_
    refine AtT.kmove ?_
    first | refine AtT.klenS Try.underlying26 ?_ | refine AtT.klenR Try.underlying26 ?_
    refine AtT.klss ?_
    refine AtT.done ?_
    refine At.nrm ?_
    refine At.condP rfl (fun hp => ?_) (fun hp => ?_)
    · obtain ⟨hin, hln⟩ := ft_in (sure := sure) (a := ((rowF (bn d ps sure) k).1 : Int)) (b := (k : Int)) hk (by omega) (by omega)
      refine At.nrm ?_
      refine At.draw (.q 0 (.q 1 (.q 2 (.q 3 (.q 4 (.n false 5 (.n false 6 (.q 7 .done)))))))) ffm (by kernel_rfl) ?_
      first | refine AtT.kloadOA tk25 ?_ | refine AtT.kloadA tk25 ?_ | refine AtT.kloadOP tk25 ?_
      refine AtT.kmove ?_
      refine AtT.kmove ?_
      refine AtT.kmove ?_
      refine AtT.kmove ?_
      refine AtT.kcall rfl rfl ok77 (rspan_f _ _ (by omega) (by omega) _) ?_
      rintro v22 V22 hV22 hs22
      refine AtT.kcallP rfl rfl ok62 (batErr_f d ps hk sure _ hin hln _ _ _ (hs'.le hV22) hs22) ?_
      rintro _ rfl
      refine AtT.kneI ?_
      refine AtT.done ?_
      refine At.nrm ?_
      refine At.cutG (ι := Unit) (fun _ => [(1, .slice a ps.length c), (2, .bool sure), (3, .pointer (some ⟨b3, 0, none⟩)), (7, .slice ao k co), (8, iv ((rowF (bn d ps sure) (k + 1)).1 : Int)), (9, iv ((rowF (bn d ps sure) (k + 1)).2 : Int)), (10, iv k)]) (fun _ => [.blk b3 (LC (dye d) 25), .row (.slice ao k co) 3 1 k (flat ei (rowO (bn d ps sure) k))]) (fun _ V'' => V22 = V'') ?_ ?_
      · refine At.condP rfl (fun hc => ?_) (fun hc => ?_)
        · have e : rowF (bn d ps sure) (k + 1) = (k, (rowF (bn d ps sure) k).2 + 1) := by rw [rowF, if_pos hc]
          refine At.nrm ?_
          refine At.ktext (.q 0 (.q 1 (.q 2 (.q 3 (.q 4 .done))))) ?_
          refine AtT.kmove ?_
          refine AtT.kmove ?_
          first | refine AtT.kadd ?_ | refine AtT.kaddW ?_
          refine AtT.kassign ?_
          refine AtT.kassign ?_
          refine AtT.done ?_
          refine At.nrm ?_
          exact At.meetG () rfl ⟨rfl, rfl, rfl, rfl, ivs (by rw [e]), ivs (by rw [e]; push_cast; rfl), rfl, trivial⟩ Pt.auto
        · have e : rowF (bn d ps sure) (k + 1) = rowF (bn d ps sure) k := by rw [rowF, if_neg hc]
          refine At.nrm ?_
          exact At.meetG () rfl ⟨rfl, rfl, rfl, rfl, ivs (by rw [e]), ivs (by rw [e]), rfl, trivial⟩ Pt.auto
      rintro _ V3 ks' O' rfl hk2 hO hl3
      subst hk2 hO
      refine At.nrm ?_
      refine At.ktext (.q 0 (.q 1 (.n false 2 (.n true 3 (.q 4 .done))))) ?_
      refine AtT.kmove ?_
      refine AtT.kmove ?_
      refine AtT.kbsliceG (bs27_1_0 _) ?_
      intro q30 V30 hV30 hq30
      have g30 : Le V V30 := by first | exact hV30 | exact Le.trans (by assumption) hV30
      first | refine AtT.kappend Try.underlying27 rw3 ?_
      intro a31 c31
      refine AtT.kassign ?_
      refine AtT.done ?_
      refine At.nrm ?_
      refine At.ktext (.q 0 (.q 1 (.q 2 .done))) ?_
      refine AtT.kmove ?_
      first | refine AtT.kadd ?_ | refine AtT.kaddW ?_
      refine AtT.kassign ?_
      refine AtT.done ?_
      refine At.nrm ?_
      refine At.round (k + 1, a31, c31) ?_ ?_ ?_ ?_
      · show ps.length - (k + 1) < ps.length - k; omega
      · exact ⟨(hVV.trans hV22).trans (by assumption), by dsimp only; omega⟩
      · exact ⟨rfl, rfl, rfl, rfl, rfl, rfl, ivs (by dsimp only; omega), trivial⟩
      dsimp only
      rw [rowO_succ, flat_snoc]
      · exact Pt.auto
    · obtain rfl : k = ps.length := by omega
      refine At.nrm ?_
      refine At.ktext (.q 0 (.q 1 .done)) ?_
      refine AtT.kmove ?_
      refine AtT.kassign ?_
      refine AtT.done ?_
      refine At.nrm ?_
      refine At.giveSl (l := rowO (bn d ps sure) ps.length) Lw.ei_len rfl (rowO_len _ _).symm Pick.auto (fun V4 hV4 hs4 => ?_)
      exact At.ret1 rfl (.tmp rfl) (by rw [rowL, hbl]; exact hs4)
theorem rrow_f (d : Dy) (ps : List Pn) (sure : Bool) (V : View) (v : Value) (hs : Sl V pne 3 v ps) : Fnc Try.prog 28 [dyv d, v, .bool sure] V fun r V' => ∃ u, r = .tuple #[u, iv (rowE d ps sure)] ∧ SlI V' u (rwL d ps sure) := by
  refine fn_of Try.func28 rfl Try.ntmps28 (Nat.le_of_ble_eq_true rfl) ?_
  intro w0 hw0
  refine At.nrm ?_
  refine At.ktext (.n false 0 (.q 1 (.q 2 .done))) ?_
  refine AtT.kbox ?_
  intro b3
  refine AtT.kassign ?_
  refine AtT.kassign ?_
  refine AtT.done ?_
  refine At.nrm ?_
  refine At.ktext (.q 0 (.q 1 (.q 2 (.n false 3 (.q 4 .done))))) ?_
  first | refine AtT.kloadOA tk25 ?_ | refine AtT.kloadA tk25 ?_ | refine AtT.kloadOP tk25 ?_
  refine AtT.kmove ?_
  refine AtT.kmove ?_
  refine AtT.kcallP rfl rfl ok74 (rowErr_f d ps sure _ _ hs) ?_
  rintro _ rfl
  refine AtT.kneI ?_
  refine AtT.done ?_
  refine At.nrm ?_
  refine At.condP rfl (fun he => ?_) (fun he => ?_)
  · refine At.nrm ?_
    refine At.ktext (.q 0 (.q 1 (.q 2 (.n false 3 (.q 4 (.q 5 .done)))))) ?_
    first | refine AtT.kloadOA tk25 ?_ | refine AtT.kloadA tk25 ?_ | refine AtT.kloadOP tk25 ?_
    refine AtT.kmove ?_
    refine AtT.kmove ?_
    refine AtT.kcallP rfl rfl ok74 (rowErr_f d ps sure _ _ hs) ?_
    rintro _ rfl
    refine AtT.kassign ?_
    refine AtT.kassign ?_
    refine AtT.done ?_
    refine At.nrm ?_
    exact At.ret2 rfl (.tmp rfl) (.tmp rfl) ⟨_, rfl, by rw [rwL, if_neg he]; exact Sl.nil _ _ _⟩
  have he' : rowE d ps sure = 0 := Decidable.not_not.1 he
  have hk := bothE_ok (rowE_ok he').1
  refine At.nrm ?_
  refine At.ktext (.q 0 (.q 1 (.q 2 (.n false 3 (.q 4 (.q 5 .done)))))) ?_
  first | refine AtT.kloadOA tk25 ?_ | refine AtT.kloadA tk25 ?_ | refine AtT.kloadOP tk25 ?_
  refine AtT.kmove ?_
  refine AtT.kmove ?_
  refine AtT.kcall rfl rfl ok75 (rowOf_f d ps sure hk _ _ hs) ?_
  rintro v20 V20 hV20 hs20
  refine AtT.kassign ?_
  refine AtT.kassign ?_
  refine AtT.done ?_
  refine At.nrm ?_
  exact At.ret2 rfl (.tmp rfl) (.tmp rfl) ⟨_, by rw [he'], by rw [rwL, if_pos he']; exact hs20⟩
end Go.Proofs.Ytmnbkceiaifncaa
namespace Go.Gl
/-- A list comes before another one. -/
def befB : List Int → List Int → Bool
  | [], [] => false
  | [], _ :: _ => true
  | _ :: _, [] => false
  | x :: a, y :: b => if x = y then befB a b else decide (x < y)
def earB : List Int → List Int → Bool
  | x :: a, y :: b => if x = y then earB a b else decide (x < y)
  | _, _ => false
theorem drop_cons {l : List Int} {k : Nat} {x : Int} (h : l[k]? = some x) : l.drop k = x :: l.drop (k + 1) := by
  obtain ⟨hk, rfl⟩ := List.getElem?_eq_some_iff.1 h
  exact List.drop_eq_getElem_cons hk
theorem befB_end (a b : List Int) (h : a = [] ∨ b = []) : befB a b = decide (a.length < b.length) := by
  rcases h with rfl | rfl
  · cases b <;> simp [befB]
  · cases a <;> simp [befB]
theorem earB_end (a b : List Int) (h : a = [] ∨ b = []) : earB a b = false := by
  rcases h with rfl | rfl
  · simp [earB]
  · cases a <;> simp [earB]
/-- No two of a list share a batch. -/
def apAt (B : Bn) (l : List Int) (i k : Nat) : Bool := decide (fitE B (sumL B [l.getD k 0, l.getD i 0]) ≠ 0)
def apRow (B : Bn) (l : List Int) (i : Nat) : Bool := (List.range i).all (apAt B l i)
def apB (B : Bn) (l : List Int) : Bool := (List.range l.length).all (apRow B l)
theorem apRow_true {B : Bn} {l : List Int} {i : Nat} (h : ∀ k, k < i → apAt B l i k = true) : apRow B l i = true := by
  unfold apRow; rw [List.all_eq_true]; intro j hj; exact h j (List.mem_range.1 hj)
theorem apRow_at {B : Bn} {l : List Int} {i k : Nat} (h : apRow B l i = true) (hk : k < i) : apAt B l i k = true := by
  unfold apRow at h; rw [List.all_eq_true] at h; exact h k (List.mem_range.2 hk)
theorem apRow_false {B : Bn} {l : List Int} {i k : Nat} (hk : k < i) (h : apAt B l i k = false) : apRow B l i = false := by
  cases hb : apRow B l i with
  | false => rfl
  | true => rw [apRow_at hb hk] at h; cases h
theorem apB_true {B : Bn} {l : List Int} (h : ∀ k, k < l.length → apRow B l k = true) : apB B l = true := by
  unfold apB; rw [List.all_eq_true]; intro j hj; exact h j (List.mem_range.1 hj)
theorem apB_at {B : Bn} {l : List Int} {k : Nat} (h : apB B l = true) (hk : k < l.length) : apRow B l k = true := by
  unfold apB at h; rw [List.all_eq_true] at h; exact h k (List.mem_range.2 hk)
theorem apB_false {B : Bn} {l : List Int} {k : Nat} (hk : k < l.length) (h : apRow B l k = false) : apB B l = false := by
  cases hb : apB B l with
  | false => rfl
  | true => rw [apB_at hb hk] at h; cases h
theorem apRow_any {B : Bn} {l : List Int} {i : Nat} (hi : i < l.length) : (l.take i).any (fun k => decide (fitE B (sumL B [k, l.getD i 0]) = 0)) = !apRow B l i := by
  rw [Bool.eq_iff_iff, Bool.not_eq_true', List.any_eq_true]
  constructor
  · rintro ⟨x, hx, hp⟩
    obtain ⟨k, hk, rfl⟩ := List.getElem_of_mem hx
    rw [List.length_take] at hk
    refine apRow_false (k := k) (by omega) ?_
    unfold apAt
    rw [List.getElem_take] at hp
    have e : l.getD k 0 = l[k]'(by omega) := by simp [List.getD, List.getElem?_eq_getElem (show k < l.length by omega)]
    rw [e]; simpa using hp
  · intro h
    have : ¬ ∀ k, k < i → apAt B l i k = true := fun hh => by rw [apRow_true hh] at h; cases h
    obtain ⟨k, hk⟩ := Classical.not_forall.1 this
    obtain ⟨hki, hka⟩ := Classical.not_imp.1 hk
    refine ⟨l.getD k 0, ?_, ?_⟩
    · have : (l.take i).getD k 0 = l.getD k 0 := by simp only [List.getD, List.getElem?_take, if_pos hki]
      rw [← this]; exact getD_mem (by rw [List.length_take]; omega)
    · unfold apAt at hka; simpa using hka
/-- What CheckApart answers. -/
def apR (d : Dy) (ps : List Pn) (sure : Bool) (l : List Int) : Int :=
  if bothE d ps ≠ 0 then bothE d ps else if lstB l ps.length = false then 2 else if apB (bn d ps sure) l = false then 16 else 0
theorem apR_both {d : Dy} {ps : List Pn} {sure : Bool} {l : List Int} (h : bothE d ps ≠ 0) : apR d ps sure l = bothE d ps := by rw [apR, if_pos h]
theorem apR_arg {d : Dy} {ps : List Pn} {sure : Bool} {l : List Int} (h : bothE d ps = 0) (h1 : lstB l ps.length = false) : apR d ps sure l = 2 := by rw [apR, if_neg (by simp [h]), if_pos h1]
theorem apR_rule {d : Dy} {ps : List Pn} {sure : Bool} {l : List Int} (h : bothE d ps = 0) (h1 : lstB l ps.length = true) (h2 : apB (bn d ps sure) l = false) : apR d ps sure l = 16 := by
  rw [apR, if_neg (by simp [h]), if_neg (by simp [h1]), if_pos h2]
theorem apR_ok {d : Dy} {ps : List Pn} {sure : Bool} {l : List Int} (h : bothE d ps = 0) (h1 : lstB l ps.length = true) (h2 : apB (bn d ps sure) l = true) : apR d ps sure l = 0 := by
  rw [apR, if_neg (by simp [h]), if_neg (by simp [h1]), if_neg (by simp [h2])]
/-- Some panel of a list shares a batch with a panel. -/
def shrB (B : Bn) (l : List Int) (i : Int) : Bool := l.any fun k => decide (fitE B (sumL B [k, i]) = 0)
/-- The first one of the longest lists of panels that are apart, that begin with some, and go on with the last ones. -/
def apG (B : Bn) : Nat → List Int → List Int → List Int
  | 0, _, out => out
  | t + 1, begun, out =>
    if shrB B begun ((B.each.length : Int) - ((t + 1 : Nat) : Int)) = true then apG B t begun out
    else if out.length < (apG B t (begun ++ [(B.each.length : Int) - ((t + 1 : Nat) : Int)]) (begun ++ [(B.each.length : Int) - ((t + 1 : Nat) : Int)])).length
      then apG B t begun (apG B t (begun ++ [(B.each.length : Int) - ((t + 1 : Nat) : Int)]) (begun ++ [(B.each.length : Int) - ((t + 1 : Nat) : Int)]))
      else apG B t begun out
/-- The first one of the longest lists of those that bits say. -/
def apK (B : Bn) : Nat → List Int
  | 0 => []
  | k + 1 => if apB B (bitL k B.each.length) = true ∧ ((apK B k).length < (bitL k B.each.length).length ∨ (bitL k B.each.length).length = (apK B k).length ∧ befB (bitL k B.each.length) (apK B k) = true) then bitL k B.each.length else apK B k
end Go.Gl
set_option linter.unusedVariables false
namespace Go.Proofs.Ytmnbkceiaifncaa
open Go.Lw Go.Gl Go.RowKit

theorem checkMarks_f (d : Dy) (ps : List Pn) (sure : Bool) (l : List Int) (V : View) (v vl : Value) (hs : Sl V pne 3 v ps) (hl : SlI V vl l) : Fnc Try.prog 29 [dyv d, v, .bool sure, vl] V fun r _ => r = .tuple #[iv (mkR d ps sure l).1, iv (mkR d ps sure l).2] := by
  obtain ⟨al, cl, rfl, k3, k4, _⟩ := id hl
  have hlen := hl.lenLe
  clear k3 k4
  refine fn_of Try.func29 rfl Try.ntmps29 (Nat.le_of_ble_eq_true rfl) ?_
  intro w0 hw0
  refine At.nrm ?_
  refine At.ktext (.n false 0 (.q 1 (.q 2 .done))) ?_
  refine AtT.kbox ?_
  intro b4
  refine AtT.kassign ?_
  refine AtT.kassign ?_
  refine AtT.done ?_
  refine At.nrm ?_
  by_cases he : bothE d ps = 0
  rotate_left
  · refine At.ktext (.q 0 (.q 1 (.q 2 (.q 3 (.n false 4 (.q 5 (.q 6 (.q 7 (.q 8 (.q 9 .done)))))))))) ?_
    first | refine AtT.kloadOA tk25 ?_ | refine AtT.kloadA tk25 ?_ | refine AtT.kloadOP tk25 ?_
    refine AtT.kmove ?_
    refine AtT.kmove ?_
    refine AtT.kmove ?_
    refine AtT.kcallP rfl rfl ok57 (listed_bad hs hl he) ?_
    rintro _ rfl
    refine AtT.kmove ?_
    refine AtT.kextract ?_
    refine AtT.kextract ?_
    refine AtT.kassign ?_
    refine AtT.kassign ?_
    refine AtT.done ?_
    refine At.nrm ?_
    refine At.ktext (.q 0 (.q 1 .done)) ?_
    refine AtT.kmove ?_
    refine AtT.kneI ?_
    refine AtT.done ?_
    refine At.nrm ?_
    refine At.condT rfl (decide_eq_true he) ?_
    refine At.nrm ?_
    refine At.ktext (.q 0 (.q 1 (.q 2 .done))) ?_
    refine AtT.kmove ?_
    refine AtT.kassign ?_
    refine AtT.kassign ?_
    refine AtT.done ?_
    refine At.nrm ?_
    exact At.ret2 rfl (.tmp rfl) (.tmp rfl) (by rw [mkR_both he])
  cases hb : lstB l ps.length with
  | false =>
    refine At.ktext (.q 0 (.q 1 (.q 2 (.q 3 (.n false 4 (.q 5 (.q 6 (.q 7 (.q 8 (.q 9 .done)))))))))) ?_
    first | refine AtT.kloadOA tk25 ?_ | refine AtT.kloadA tk25 ?_ | refine AtT.kloadOP tk25 ?_
    refine AtT.kmove ?_
    refine AtT.kmove ?_
    refine AtT.kmove ?_
    refine AtT.kcallP rfl rfl ok57 (listed_arg hs hl he hb) ?_
    rintro _ rfl
    refine AtT.kmove ?_
    refine AtT.kextract ?_
    refine AtT.kextract ?_
    refine AtT.kassign ?_
    refine AtT.kassign ?_
    refine AtT.done ?_
    refine At.nrm ?_
    refine At.ktext (.q 0 (.q 1 .done)) ?_
    refine AtT.kmove ?_
    refine AtT.kneI ?_
    refine AtT.done ?_
    refine At.nrm ?_
    refine At.condT rfl rfl ?_
    refine At.nrm ?_
    refine At.ktext (.q 0 (.q 1 (.q 2 .done))) ?_
    refine AtT.kmove ?_
    refine AtT.kassign ?_
    refine AtT.kassign ?_
    refine AtT.done ?_
    refine At.nrm ?_
    exact At.ret2 rfl (.tmp rfl) (.tmp rfl) (by rw [mkR_arg he hb])
  | true =>
    have hk := bothE_ok he
    have hB := bn_ok hk sure
    have hn10 := hk.n10
    have hbl := bn_len d ps sure
    have hin := lstB_in hb
    refine At.ktext (.q 0 (.q 1 (.q 2 (.q 3 (.n false 4 (.q 5 (.q 6 (.q 7 (.q 8 (.q 9 .done)))))))))) ?_
    first | refine AtT.kloadOA tk25 ?_ | refine AtT.kloadA tk25 ?_ | refine AtT.kloadOP tk25 ?_
    refine AtT.kmove ?_
    refine AtT.kmove ?_
    refine AtT.kmove ?_
    refine AtT.kcall rfl rfl ok57 (listed_ok hs hl he hb) ?_
    rintro _ V1 hV1 ⟨p, rfl, hpb⟩
    refine AtT.kmove ?_
    refine AtT.kextract ?_
    refine AtT.kextract ?_
    refine AtT.kassign ?_
    refine AtT.kassign ?_
    refine AtT.done ?_
    refine At.nrm ?_
    have hl1 := hl.le hV1
    refine At.ktext (.q 0 (.q 1 .done)) ?_
    refine AtT.kmove ?_
    refine AtT.kneI ?_
    refine AtT.done ?_
    refine At.nrm ?_
    refine At.condF rfl rfl ?_
    refine At.nrm ?_
    refine At.ktext (.q 0 .done) ?_
    refine AtT.kassign ?_
    refine AtT.done ?_
    refine At.nrm ?_
    refine At.ktext (.q 0 (.q 1 (.q 2 .done))) ?_
    refine AtT.kmove ?_
    first | refine AtT.klenS Try.underlying27 ?_ | refine AtT.klenR Try.underlying27 ?_
    refine AtT.kmove ?_
    refine AtT.done ?_
    refine At.nrm ?_
    refine At.lp (ι := Nat) (KS := fun k => [(3, .slice al l.length cl), (10, .pointer (some p)), (12, iv (lastN l k)), (26, .slice al l.length cl), (27, iv l.length), (28, iv k)]) (OS := fun _ => [])
      (VS := fun k V' => V' = V1 ∧ k ≤ l.length ∧ ∀ j, j < k → mkAt (bn d ps sure) l j = true) (μ := fun k => l.length - k) 0 ?_ ?_ ?_ ?_
    · exact ⟨rfl, rfl, rfl, rfl, rfl, rfl, trivial⟩
    · exact Pt.auto
    · exact ⟨rfl, Nat.zero_le _, fun j hj => absurd hj (Nat.not_lt_zero j)⟩
    · rintro k V' ks' O' ⟨rfl, hkl, hok⟩ hk2 hO hl2
      subst hk2 hO
      refine At.nrm ?_
      refine At.ktext (.q 0 .done) ?_
      refine AtT.klss ?_
      refine AtT.done ?_
      refine At.nrm ?_
      refine At.condP rfl (fun hp => ?_) (fun hp => ?_)
      · obtain ⟨x, hx⟩ : ∃ x, l[k]? = some x := ⟨_, List.getElem?_eq_getElem (by omega)⟩
        have hgx : l.getD k 0 = x := by simp [List.getD, hx]
        have hxb := hin x (List.mem_of_getElem? hx)
        refine At.nrm ?_
        refine At.ktext (.q 0 (.q 1 (.q 2 .done))) ?_
        refine AtT.kidx Try.underlying27 tk3 ?_
        intro p30 e30 he30 hc30
        obtain rfl : e30 = x := by have : l[k]? = some e30 := (by simpa using he30); rw [hx] at this; simpa using this.symm
        first | refine AtT.kloadO tk3 ?_ | refine AtT.kload tk3 ?_
        refine AtT.kassign ?_
        refine AtT.done ?_
        refine At.nrm ?_
        have hlast : lastN l k = l.getD (k - 1) 0 ∨ k = 0 := by
          match k with
          | 0 => exact .inr rfl
          | k + 1 => exact .inl rfl
        refine At.cutG (ι := Unit) (fun _ => [(3, .slice al l.length cl), (10, .pointer (some p)), (14, iv e30), (26, .slice al l.length cl), (27, iv l.length), (28, iv k), (42, .bool (!mkAt (bn d ps sure) l k))]) (fun _ => []) (fun _ V'' => V'' = V') ?_ ?_
        · by_cases c : k = 0
          · subst c
            refine At.ktext (.q 0 (.q 1 (.q 2 (.q 3 (.q 4 (.q 5 (.q 6 (.n false 7 (.n false 8 (.q 9 (.q 10 .done))))))))))) ?_
            refine AtT.kmove ?_
            refine AtT.kgeq ?_
            refine AtT.setF (d := 33) rfl ((by simp [lastN])) ?_
            refine AtT.kmove ?_
            all_goals (first | refine AtT.kL 34 ?_ | refine AtT.pcase (d := 34) rfl (fun hg34 => ?_) (fun hg34 => ?_) | refine AtT.bcase (d := 34) rfl (fun hg34 => ?_) (fun hg34 => ?_))
            all_goals (first | refine AtT.kpass ?_ | refine AtT.kpassU ?_ | ((refine AtT.kmove ?_)))
            all_goals (first | refine AtT.kpass ?_ | refine AtT.kpassU ?_ | ((refine AtT.kmove ?_)))
            all_goals (first | refine AtT.kpass ?_ | refine AtT.kpassU ?_ | ((refine AtT.kmove ?_)))
            all_goals (first | refine AtT.kpass ?_ | refine AtT.kpassU ?_ | ((refine AtT.kmove ?_)))
            all_goals (first | refine AtT.kpassN ?_ | refine AtT.kpassNU ?_ | ((fail)))
            all_goals (first | refine AtT.kpassN ?_ | refine AtT.kpassNU ?_ | ((fail)))
            all_goals (first | refine AtT.kpass ?_ | refine AtT.kpassU ?_ | ((refine AtT.keqI ?_)))
            all_goals (refine AtT.kpick ?_)
            all_goals refine AtT.done ?_
            all_goals (refine At.nrm ?_)
            exact At.meetG () rfl ⟨rfl, rfl, rfl, rfl, rfl, rfl, bsome (by simp [mkAt]), trivial⟩ Pt.auto
          · have hl0 := hlast.resolve_right c
            have hyb := hin _ (getD_mem (l := l) (i := k - 1) (by omega))
            rw [← hl0] at hyb
            refine At.ktext (.q 0 (.q 1 (.q 2 (.q 3 (.q 4 (.q 5 (.q 6 (.n false 7 (.n false 8 (.q 9 (.q 10 .done))))))))))) ?_
            refine AtT.kmove ?_
            refine AtT.kgeq ?_
            refine AtT.setT (d := 33) rfl ((by omega)) ?_
            refine AtT.kmove ?_
            all_goals (first | refine AtT.kL 34 ?_ | refine AtT.pcase (d := 34) rfl (fun hg34 => ?_) (fun hg34 => ?_) | refine AtT.bcase (d := 34) rfl (fun hg34 => ?_) (fun hg34 => ?_))
            all_goals (first | refine AtT.kpass ?_ | refine AtT.kpassU ?_ | ((refine AtT.kmove ?_)))
            all_goals (first | refine AtT.kpass ?_ | refine AtT.kpassU ?_ | ((refine AtT.kmove ?_)))
            all_goals (first | refine AtT.kpass ?_ | refine AtT.kpassU ?_ | ((refine AtT.kmove ?_)))
            all_goals (first | refine AtT.kpass ?_ | refine AtT.kpassU ?_ | ((refine AtT.kmove ?_)))
            all_goals (first | refine AtT.kpassN ?_ | refine AtT.kpassNU ?_ | ((refine AtT.kcallP rfl rfl ok76 (span_f _ hB (lastN l k) e30 hyb.1 (by omega) _ p hpb) ?_) ; (rintro _ rfl)))
            all_goals (first | refine AtT.kpassN ?_ | refine AtT.kpassNU ?_ | ((refine AtT.kcallP rfl rfl ok59 (fits_f _ hB _ _ p hpb) ?_) ; (rintro _ rfl)))
            all_goals (first | refine AtT.kpass ?_ | refine AtT.kpassU ?_ | ((refine AtT.keqI ?_)))
            all_goals (refine AtT.kpick ?_)
            all_goals refine AtT.done ?_
            all_goals (refine At.nrm ?_)
            refine At.meetG () rfl ⟨rfl, rfl, rfl, rfl, rfl, rfl, bsome ?_, trivial⟩ Pt.auto
            rw [hl0, ← hgx]
            unfold mkAt
            rw [Bool.eq_iff_iff, Bool.not_eq_true', decide_eq_true_eq, decide_eq_false_iff_not]
            omega
        rintro _ V'' ks' O' rfl hk2 hO hl3
        subst hk2 hO
        refine At.nrm ?_
        refine At.cond rfl (fun hc => ?_) (fun hc => ?_)
        · have hc' : mkAt (bn d ps sure) l k = false := by simpa using hc
          refine At.nrm ?_
          refine At.ktext (.q 0 (.q 1 .done)) ?_
          refine AtT.kassign ?_
          refine AtT.kassign ?_
          refine AtT.done ?_
          refine At.nrm ?_
          exact At.ret2 rfl (.tmp rfl) (.tmp rfl) (by rw [mkR_sum he hb (mksB_false (k := k) (by omega) hc')])
        · have hc' : mkAt (bn d ps sure) l k = true := by simpa using hc
          refine At.nrm ?_
          refine At.ktext (.q 0 (.q 1 .done)) ?_
          refine AtT.kmove ?_
          refine AtT.kassign ?_
          refine AtT.done ?_
          refine At.nrm ?_
          refine At.ktext (.q 0 (.q 1 .done)) ?_
          first | refine AtT.kadd ?_ | refine AtT.kaddW ?_
          refine AtT.kmove ?_
          refine AtT.done ?_
          refine At.nrm ?_
          refine At.round (k + 1) ?_ ?_ ?_ ?_
          · show l.length - (k + 1) < l.length - k; omega
          · refine ⟨rfl, by omega, fun j hj => ?_⟩
            by_cases hjk : j = k
            · subst hjk; exact hc'
            · exact hok j (by omega)
          · exact ⟨rfl, rfl, ivs (by simp only [lastN]; omega), rfl, rfl, ivs (by omega), trivial⟩
          · exact Pt.auto
      · obtain rfl : k = l.length := by omega
        refine At.nrm ?_
        refine At.ktext (.q 0 (.q 1 (.q 2 (.q 3 .done)))) ?_
        refine AtT.kmove ?_
        first | refine AtT.klenS Try.underlying27 ?_ | refine AtT.klenR Try.underlying27 ?_
        refine AtT.kassign ?_
        refine AtT.kassign ?_
        refine AtT.done ?_
        refine At.nrm ?_
        exact At.ret2 rfl (.tmp rfl) (.tmp rfl) (by rw [mkR_ok he hb (mksB_true hok)])
theorem rcheckMarks_f (d : Dy) (ps : List Pn) (sure : Bool) (l : List Int) (V : View) (v vl : Value) (hs : Sl V pne 3 v ps) (hl : SlI V vl l) : Fnc Try.prog 30 [dyv d, v, .bool sure, vl] V fun r _ => r = .tuple #[iv (mkR d ps sure l).1, iv (mkR d ps sure l).2] := by
  obtain ⟨a, c, rfl, k1, k2, _⟩ := id hs
  obtain ⟨al, cl, rfl, k3, k4, _⟩ := id hl
  have hlen := hl.lenLe
  clear k1 k2 k3 k4
  refine fn_of Try.func30 rfl Try.ntmps30 (Nat.le_of_ble_eq_true rfl) ?_
  intro w0 hw0
  refine At.nrm ?_
  refine At.ktext (.n false 0 (.q 1 (.q 2 .done))) ?_
  refine AtT.kbox ?_
  intro b4
  refine AtT.kassign ?_
  refine AtT.kassign ?_
  refine AtT.done ?_
  refine At.nrm ?_
  refine At.ktext (.q 0 (.q 1 (.n false 2 (.q 3 .done)))) ?_
  first | refine AtT.kloadOA tk25 ?_ | refine AtT.kloadA tk25 ?_ | refine AtT.kloadOP tk25 ?_
  refine AtT.kmove ?_
  refine AtT.kcallP rfl rfl ok60 (both_f d ps _ _ hs) ?_
  rintro _ rfl
  refine AtT.kneI ?_
  refine AtT.done ?_
  refine At.nrm ?_
  refine At.condP rfl (fun he => ?_) (fun he => ?_)
  · refine At.nrm ?_
    refine At.ktext (.q 0 (.q 1 (.n false 2 (.q 3 (.q 4 .done))))) ?_
    first | refine AtT.kloadOA tk25 ?_ | refine AtT.kloadA tk25 ?_ | refine AtT.kloadOP tk25 ?_
    refine AtT.kmove ?_
    refine AtT.kcallP rfl rfl ok60 (both_f d ps _ _ hs) ?_
    rintro _ rfl
    refine AtT.kassign ?_
    refine AtT.kassign ?_
    refine AtT.done ?_
    refine At.nrm ?_
    exact At.ret2 rfl (.tmp rfl) (.tmp rfl) (by rw [mkR_both he])
  have he' : bothE d ps = 0 := Decidable.not_not.1 he
  have hk := bothE_ok he'
  have hB := bn_ok hk sure
  have hn10 := hk.n10
  refine At.nrm ?_
  refine At.ktext (.q 0 (.q 1 (.q 2 (.n false 3 (.q 4 .done))))) ?_
  refine AtT.kmove ?_
  refine AtT.kmove ?_
  first | refine AtT.klenS Try.underlying26 ?_ | refine AtT.klenR Try.underlying26 ?_
  refine AtT.kcallP rfl rfl ok61 (isList_f l ps.length _ _ hl) ?_
  rintro _ rfl
  refine AtT.knot ?_
  refine AtT.done ?_
  refine At.nrm ?_
  refine At.cond rfl (fun hb => ?_) (fun hb => ?_)
  · have hb' : lstB l ps.length = false := by simpa using hb
    refine At.nrm ?_
    refine At.ktext (.q 0 (.q 1 .done)) ?_
    refine AtT.kassign ?_
    refine AtT.kassign ?_
    refine AtT.done ?_
    refine At.nrm ?_
    exact At.ret2 rfl (.tmp rfl) (.tmp rfl) (by rw [mkR_arg he' hb'])
  have hb' : lstB l ps.length = true := by simpa using hb
  have hin := lstB_in hb'
  refine At.nrm ?_
  refine At.ktext (.q 0 .done) ?_
  refine AtT.kassign ?_
  refine AtT.done ?_
  refine At.nrm ?_
  refine At.lp (ι := Nat) (KS := fun k => [(1, .slice a ps.length c), (2, .bool sure), (3, .slice al l.length cl), (4, .pointer (some ⟨b4, 0, none⟩)), (10, iv k)]) (OS := fun _ => [.blk b4 (LC (dye d) 25)])
    (VS := fun k V' => Le V V' ∧ k ≤ l.length + 1 ∧ 1 ≤ k ∧ ∀ j, j < k → mkAt (bn d ps sure) l j = true) (μ := fun k => l.length + 1 - k) 1 ?_ ?_ ?_ ?_
  · exact ⟨rfl, rfl, rfl, rfl, rfl, trivial⟩
  · exact Pt.auto
  · refine ⟨Le.refl _, by omega, Nat.le_refl _, fun j hj => ?_⟩
    obtain rfl : j = 0 := by omega
    simp [mkAt]
  · rintro k V' ks' O' ⟨hVV, hkl, hk1, hok⟩ hk2 hO hl2
    subst hk2 hO
    have hs' := hs.le hVV
    have hl' := hl.le hVV
    refine At.nrm ?_
    refine At.ktext (.q 0 (.q 1 (.q 2 (.q 3 .done)))) ?_
    refine AtT.kmove ?_
    refine AtT.kmove ?_
    first | refine AtT.klenS Try.underlying27 ?_ | refine AtT.klenR Try.underlying27 ?_
    refine AtT.klss ?_
    refine AtT.done ?_
    refine At.nrm ?_
    refine At.condP rfl (fun hp => ?_) (fun hp => ?_)
    · obtain ⟨x, hx⟩ : ∃ x, l[k]? = some x := ⟨_, List.getElem?_eq_getElem (by omega)⟩
      obtain ⟨y, hy⟩ : ∃ y, l[k - 1]? = some y := ⟨_, List.getElem?_eq_getElem (by omega)⟩
      have hgx : l.getD k 0 = x := by simp [List.getD, hx]
      have hgy : l.getD (k - 1) 0 = y := by simp [List.getD, hy]
      have hxb := hin x (List.mem_of_getElem? hx)
      have hyb := hin y (List.mem_of_getElem? hy)
      have tk : ((k : Int) - 1).toNat = k - 1 := by omega
      obtain ⟨hift, hlft⟩ := ft_in (sure := sure) (a := y) (b := x) hk hyb.1 hxb.2
      refine At.nrm ?_
      refine At.draw (.q 0 (.q 1 (.q 2 (.q 3 (.q 4 (.q 5 (.q 6 (.q 7 (.q 8 (.q 9 (.q 10 (.q 11 (.n false 12 (.n false 13 (.q 14 .done))))))))))))))) ffm (by kernel_rfl) ?_
      first | refine AtT.kloadOA tk25 ?_ | refine AtT.kloadA tk25 ?_ | refine AtT.kloadOP tk25 ?_
      refine AtT.kmove ?_
      refine AtT.kmove ?_
      refine AtT.kmove ?_
      refine AtT.kmove ?_
      first | refine AtT.ksubt ?_ | refine AtT.ksubW ?_
      refine AtT.kidx Try.underlying27 tk3 ?_
      intro p35 e35 he35 hc35
      obtain rfl : e35 = y := by have : l[((k : Int) - 1).toNat]? = some e35 := (by simpa using he35); rw [tk, hy] at this; simpa using this.symm
      first | refine AtT.kloadO tk3 ?_ | refine AtT.kload tk3 ?_
      refine AtT.kmove ?_
      refine AtT.kmove ?_
      refine AtT.kidx Try.underlying27 tk3 ?_
      intro p39 e39 he39 hc39
      obtain rfl : e39 = x := by have : l[k]? = some e39 := (by simpa using he39); rw [hx] at this; simpa using this.symm
      first | refine AtT.kloadO tk3 ?_ | refine AtT.kload tk3 ?_
      refine AtT.kcall rfl rfl ok77 (rspan_f e35 e39 (by omega) (by omega) _) ?_
      rintro v41 V41 hV41 hs41
      refine AtT.kcallP rfl rfl ok62 (batErr_f d ps hk sure _ hift hlft _ _ _ (hs'.le hV41) hs41) ?_
      rintro _ rfl
      refine AtT.keqI ?_
      refine AtT.done ?_
      refine At.nrm ?_
      have hmk : mkAt (bn d ps sure) l k = decide (fitE (bn d ps sure) (sumL (bn d ps sure) (fromTo e35 e39)) ≠ 0) := by
        unfold mkAt; rw [hgx, hgy, decide_eq_decide]; omega
      refine At.condP rfl (fun hc => ?_) (fun hc => ?_)
      · refine At.nrm ?_
        refine At.ktext (.q 0 (.q 1 .done)) ?_
        refine AtT.kassign ?_
        refine AtT.kassign ?_
        refine AtT.done ?_
        refine At.nrm ?_
        exact At.ret2 rfl (.tmp rfl) (.tmp rfl) (by rw [mkR_sum he' hb' (mksB_false (k := k) (by omega) (by rw [hmk]; simp [hc]))])
      · refine At.nrm ?_
        refine At.ktext (.q 0 (.q 1 (.q 2 .done))) ?_
        refine AtT.kmove ?_
        first | refine AtT.kadd ?_ | refine AtT.kaddW ?_
        refine AtT.kassign ?_
        refine AtT.done ?_
        refine At.nrm ?_
        refine At.round (k + 1) ?_ ?_ ?_ ?_
        · show l.length + 1 - (k + 1) < l.length + 1 - k; omega
        · refine ⟨hVV.trans hV41, by omega, by omega, fun j hj => ?_⟩
          by_cases hjk : j = k
          · subst hjk; rw [hmk]; simp [hc]
          · exact hok j (by omega)
        · exact ⟨rfl, rfl, rfl, rfl, ivs (by omega), trivial⟩
        · exact Pt.auto
    · refine At.nrm ?_
      refine At.ktext (.q 0 (.q 1 (.q 2 (.q 3 .done)))) ?_
      refine AtT.kmove ?_
      first | refine AtT.klenS Try.underlying27 ?_ | refine AtT.klenR Try.underlying27 ?_
      refine AtT.kassign ?_
      refine AtT.kassign ?_
      refine AtT.done ?_
      refine At.nrm ?_
      exact At.ret2 rfl (.tmp rfl) (.tmp rfl) (by rw [mkR_ok he' hb' (mksB_true (fun j hj => hok j (by omega)))])
theorem marksF_f (d : Dy) (ps : List Pn) (sure : Bool) (V : View) (v : Value) (hs : Sl V pne 3 v ps) : Fnc Try.prog 31 [dyv d, v, .bool sure] V fun r V' => ∃ u, r = .tuple #[u, iv (rowE d ps sure)] ∧ SlI V' u (mkkL d ps sure) := by
  refine fn_of Try.func31 rfl Try.ntmps31 (Nat.le_of_ble_eq_true rfl) ?_
  intro w0 hw0
  refine At.nrm ?_
  refine At.ktext (.n false 0 (.q 1 (.q 2 .done))) ?_
  refine AtT.kbox ?_
  intro b3
  refine AtT.kassign ?_
  refine AtT.kassign ?_
  refine AtT.done ?_
  refine At.nrm ?_
  by_cases he : rowE d ps sure = 0
  rotate_left
  · refine At.ktext (.q 0 (.q 1 (.q 2 (.n false 3 (.q 4 (.q 5 (.q 6 (.q 7 (.q 8 .done))))))))) ?_
    first | refine AtT.kloadOA tk25 ?_ | refine AtT.kloadA tk25 ?_ | refine AtT.kloadOP tk25 ?_
    refine AtT.kmove ?_
    refine AtT.kmove ?_
    refine AtT.kcallP rfl rfl ok71 (laid_no hs he) ?_
    rintro _ rfl
    refine AtT.kmove ?_
    refine AtT.kextract ?_
    refine AtT.kextract ?_
    refine AtT.kassign ?_
    refine AtT.kassign ?_
    refine AtT.done ?_
    refine At.nrm ?_
    refine At.ktext (.q 0 (.q 1 .done)) ?_
    refine AtT.kmove ?_
    refine AtT.kneI ?_
    refine AtT.done ?_
    refine At.nrm ?_
    refine At.condT rfl (decide_eq_true he) ?_
    refine At.nrm ?_
    refine At.ktext (.q 0 (.q 1 (.q 2 .done))) ?_
    refine AtT.kmove ?_
    refine AtT.kassign ?_
    refine AtT.kassign ?_
    refine AtT.done ?_
    refine At.nrm ?_
    exact At.ret2 rfl (.tmp rfl) (.tmp rfl) ⟨_, rfl, by rw [mkkL, if_neg he]; exact Sl.nil _ _ _⟩
  obtain ⟨hb0, hf⟩ := rowE_ok he
  have hk := bothE_ok hb0
  have hB := bn_ok hk sure
  have hn10 := hk.n10
  have hbl := bn_len d ps sure
  have hml := mkL_len (bn d ps sure) (bn d ps sure).each.length
  obtain ⟨ms, hms⟩ : ∃ ms, ms = mkL (bn d ps sure) (bn d ps sure).each.length := ⟨_, rfl⟩
  have hlen0 : (flat ei (List.replicate ms.length (0 : Int))).length = ms.length * 1 := by rw [flat_len Lw.ei_len]; simp
  refine At.ktext (.q 0 (.q 1 (.q 2 (.n false 3 (.q 4 (.q 5 (.q 6 (.q 7 (.q 8 .done))))))))) ?_
  first | refine AtT.kloadOA tk25 ?_ | refine AtT.kloadA tk25 ?_ | refine AtT.kloadOP tk25 ?_
  refine AtT.kmove ?_
  refine AtT.kmove ?_
  refine AtT.kcall rfl rfl ok71 (laid_yes hs he) ?_
  rintro _ V1 hV1 ⟨p, rfl, hpb⟩
  refine AtT.kmove ?_
  refine AtT.kextract ?_
  refine AtT.kextract ?_
  refine AtT.kassign ?_
  refine AtT.kassign ?_
  refine AtT.done ?_
  refine At.nrm ?_
  refine At.ktext (.q 0 (.q 1 .done)) ?_
  refine AtT.kmove ?_
  refine AtT.kneI ?_
  refine AtT.done ?_
  refine At.nrm ?_
  refine At.condF rfl rfl ?_
  refine At.nrm ?_
  refine At.ktext (.q 0 (.n false 1 (.q 2 .done))) ?_
  refine AtT.kmove ?_
  refine AtT.kcall rfl rfl ok72 (marks_f _ hB _ p hpb) ?_
  rintro m23 V2 hV2 hs23
  refine AtT.kassign ?_
  refine AtT.done ?_
  refine At.nrm ?_
  rw [← hms] at hs23 hml
  obtain ⟨am, cm, rfl, q1, q2, _⟩ := id hs23
  clear q1 q2
  refine At.ktext (.q 0 (.q 1 (.n false 2 (.q 3 .done)))) ?_
  refine AtT.kmove ?_
  first | refine AtT.klenS Try.underlying27 ?_ | refine AtT.klenR Try.underlying27 ?_
  refine AtT.makeSl rfl trivial ei rfl Try.underlying27 rw3 rfl rfl (by decide) rfl rfl (by omega) (by omega) (by decide) (za := (0 : Int)) ?_
  intro b26
  refine AtT.kassign ?_
  refine AtT.done ?_
  refine At.nrm ?_
  refine At.ktext (.q 0 (.q 1 (.n true 2 .done))) ?_
  refine AtT.kmove ?_
  refine AtT.kmove ?_
  refine AtT.copyO rfl trivial Try.underlying27 tk3 rfl rfl hs23 Lw.ei_len (fun _ => rfl) hlen0 (by repeat (first | exact Upd.here | apply Upd.there)) (by decide) ?_
  refine AtT.done ?_
  refine At.nrm ?_
  refine At.ktext (.q 0 (.q 1 (.q 2 .done))) ?_
  refine AtT.kmove ?_
  refine AtT.kassign ?_
  refine AtT.kassign ?_
  refine AtT.done ?_
  refine At.nrm ?_
  refine At.giveB (b := b26) Pick.auto (fun V3 hV3 hb3 => ?_)
  refine At.ret2 rfl (.tmp rfl) (.tmp rfl) ⟨_, by rw [he], ?_⟩
  rw [mkkL, if_pos he, ← hbl, ← hms]
  exact Sl.of_cells Lw.ei_len (cells_blk hb3) (Nat.le_refl _) (by unfold maxLen; omega)
/-- How many batches a sum asks for: the function within Bound. -/
theorem up0_f (B : Bn) (hB : BnOk B) (s : Sm) (h0 : 0 ≤ s.t ∧ s.t ≤ 100000) (h1 : 0 ≤ s.g ∧ s.g ≤ 100000) (V : View) (p q1 q2 : Addr) (hb : BnV V p B) (hq1 : Cells V q1 (sme s)) (hq2 : Cells V q2 [.pointer (some p)]) : Fnc Try.prog 81 [iv 0, .pointer (some q1), .pointer (some q2)] V fun r _ => r = iv (upB s.t B.w) := by
  have hw := hB.w0
  have hw1 := hB.w1
  have hu := upB_bd (a := s.t) (b := B.w) h0.1 hw
  unfold upB at hu
  obtain ⟨ae, ce, hcel, hsel⟩ := hb.each
  have c0 : Cells V (((p.add 0).add 0).add ((0 : Int).toNat * 1)) [iv B.w] := by
    rw [addr_add_add, addr_add_add]
    exact hcel.at (k := 0) fun j u hj => by
      match j, hj with
      | 0, hj => exact hj
  have d0 : Cells V (q1.add ((0 : Int).toNat * 1)) [iv s.t] := hq1.at (k := 0) fun j u hj => by
    match j, hj with
    | 0, hj => exact hj
  refine fn_of Try.func81 rfl Try.ntmps81 (Nat.le_of_ble_eq_true rfl) ?_
  intro w0 hw0
  refine At.nrm ?_
  refine At.ktext (.q 0 .done) ?_
  refine AtT.kassign ?_
  refine AtT.done ?_
  refine At.nrm ?_
  refine At.draw (.q 0 (.q 1 (.q 2 (.q 3 (.q 4 (.q 5 (.q 6 (.q 7 (.q 8 (.q 9 (.q 10 (.q 11 (.q 12 (.q 13 (.q 14 (.q 15 (.q 16 (.q 17 (.q 18 (.q 19 (.q 20 .done))))))))))))))))))))) ffm (by kernel_rfl) ?_
  refine AtT.kmove ?_
  refine AtT.idxQ rfl trivial Try.underlying72 tk2 rfl rfl (by decide) (by decide) (by decide) ?_
  first | refine AtT.kloadO tk2 ?_ | refine AtT.kload tk2 ?_
  first | refine AtT.kloadO tk68 ?_ | refine AtT.kload tk68 ?_
  refine AtT.kmove ?_
  refine AtT.knil ?_
  first | refine AtT.kfieldO fo97_0 ?_ | with_reducible refine AtT.kfield2 fo97_0 ?_ | refine AtT.kfield fo97_0 ?_
  first | refine AtT.kfieldO fo95_0 ?_ | with_reducible refine AtT.kfield2 fo95_0 ?_ | refine AtT.kfield fo95_0 ?_
  refine AtT.idxQ rfl trivial Try.underlying72 tk2 rfl rfl (by decide) (by decide) (by decide) ?_
  first | refine AtT.kloadO tk2 ?_ | refine AtT.kload tk2 ?_
  first | refine AtT.kadd ?_ | refine AtT.kaddW ?_
  first | refine AtT.ksubt ?_ | refine AtT.ksubW ?_
  first | refine AtT.kloadO tk68 ?_ | refine AtT.kload tk68 ?_
  refine AtT.kmove ?_
  refine AtT.knil ?_
  first | refine AtT.kfieldO fo97_0 ?_ | with_reducible refine AtT.kfield2 fo97_0 ?_ | refine AtT.kfield fo97_0 ?_
  first | refine AtT.kfieldO fo95_0 ?_ | with_reducible refine AtT.kfield2 fo95_0 ?_ | refine AtT.kfield fo95_0 ?_
  refine AtT.idxQ rfl trivial Try.underlying72 tk2 rfl rfl (by decide) (by decide) (by decide) ?_
  first | refine AtT.kloadO tk2 ?_ | refine AtT.kload tk2 ?_
  refine AtT.kquo ?_
  refine AtT.kassign ?_
  refine AtT.done ?_
  refine At.nrm ?_
  exact At.ret1 rfl (.tmp rfl) rfl
theorem up1_f (B : Bn) (hB : BnOk B) (s : Sm) (h0 : 0 ≤ s.t ∧ s.t ≤ 100000) (h1 : 0 ≤ s.g ∧ s.g ≤ 100000) (V : View) (p q1 q2 : Addr) (hb : BnV V p B) (hq1 : Cells V q1 (sme s)) (hq2 : Cells V q2 [.pointer (some p)]) : Fnc Try.prog 81 [iv 1, .pointer (some q1), .pointer (some q2)] V fun r _ => r = iv (upB s.g B.p) := by
  have hw := hB.p0
  have hw1 := hB.p1
  have hu := upB_bd (a := s.g) (b := B.p) h1.1 hw
  unfold upB at hu
  obtain ⟨ae, ce, hcel, hsel⟩ := hb.each
  have c0 : Cells V (((p.add 0).add 0).add ((1 : Int).toNat * 1)) [iv B.p] := by
    rw [addr_add_add, addr_add_add]
    exact hcel.at (k := 1) fun j u hj => by
      match j, hj with
      | 0, hj => exact hj
  have d0 : Cells V (q1.add ((1 : Int).toNat * 1)) [iv s.g] := hq1.at (k := 1) fun j u hj => by
    match j, hj with
    | 0, hj => exact hj
  refine fn_of Try.func81 rfl Try.ntmps81 (Nat.le_of_ble_eq_true rfl) ?_
  intro w0 hw0
  refine At.nrm ?_
  refine At.ktext (.q 0 .done) ?_
  refine AtT.kassign ?_
  refine AtT.done ?_
  refine At.nrm ?_
  refine At.draw (.q 0 (.q 1 (.q 2 (.q 3 (.q 4 (.q 5 (.q 6 (.q 7 (.q 8 (.q 9 (.q 10 (.q 11 (.q 12 (.q 13 (.q 14 (.q 15 (.q 16 (.q 17 (.q 18 (.q 19 (.q 20 .done))))))))))))))))))))) ffm (by kernel_rfl) ?_
  refine AtT.kmove ?_
  refine AtT.idxQ rfl trivial Try.underlying72 tk2 rfl rfl (by decide) (by decide) (by decide) ?_
  first | refine AtT.kloadO tk2 ?_ | refine AtT.kload tk2 ?_
  first | refine AtT.kloadO tk68 ?_ | refine AtT.kload tk68 ?_
  refine AtT.kmove ?_
  refine AtT.knil ?_
  first | refine AtT.kfieldO fo97_0 ?_ | with_reducible refine AtT.kfield2 fo97_0 ?_ | refine AtT.kfield fo97_0 ?_
  first | refine AtT.kfieldO fo95_0 ?_ | with_reducible refine AtT.kfield2 fo95_0 ?_ | refine AtT.kfield fo95_0 ?_
  refine AtT.idxQ rfl trivial Try.underlying72 tk2 rfl rfl (by decide) (by decide) (by decide) ?_
  first | refine AtT.kloadO tk2 ?_ | refine AtT.kload tk2 ?_
  first | refine AtT.kadd ?_ | refine AtT.kaddW ?_
  first | refine AtT.ksubt ?_ | refine AtT.ksubW ?_
  first | refine AtT.kloadO tk68 ?_ | refine AtT.kload tk68 ?_
  refine AtT.kmove ?_
  refine AtT.knil ?_
  first | refine AtT.kfieldO fo97_0 ?_ | with_reducible refine AtT.kfield2 fo97_0 ?_ | refine AtT.kfield fo97_0 ?_
  first | refine AtT.kfieldO fo95_0 ?_ | with_reducible refine AtT.kfield2 fo95_0 ?_ | refine AtT.kfield fo95_0 ?_
  refine AtT.idxQ rfl trivial Try.underlying72 tk2 rfl rfl (by decide) (by decide) (by decide) ?_
  first | refine AtT.kloadO tk2 ?_ | refine AtT.kload tk2 ?_
  refine AtT.kquo ?_
  refine AtT.kassign ?_
  refine AtT.done ?_
  refine At.nrm ?_
  exact At.ret1 rfl (.tmp rfl) rfl
theorem bound_f (d : Dy) (ps : List Pn) (sure : Bool) (V : View) (v : Value) (hs : Sl V pne 3 v ps) : Fnc Try.prog 38 [dyv d, v, .bool sure] V fun r _ => r = .tuple #[iv (bdR d ps sure).1, iv (bdR d ps sure).2] := by
  obtain ⟨a, c, rfl, k1, k2, _⟩ := id hs
  have hlenp := hs.lenLe
  clear k1 k2
  refine fn_of Try.func38 rfl Try.ntmps38 (Nat.le_of_ble_eq_true rfl) ?_
  intro w0 hw0
  refine At.nrm ?_
  refine At.ktext (.n false 0 (.q 1 (.q 2 .done))) ?_
  refine AtT.kbox ?_
  intro b3
  refine AtT.kassign ?_
  refine AtT.kassign ?_
  refine AtT.done ?_
  refine At.nrm ?_
  by_cases he : bothE d ps = 0
  rotate_left
  · refine At.ktext (.q 0 (.q 1 (.q 2 (.n false 3 (.q 4 (.q 5 (.q 6 (.n false 7 (.n true 8 (.q 9 .done)))))))))) ?_
    first | refine AtT.kloadOA tk25 ?_ | refine AtT.kloadA tk25 ?_ | refine AtT.kloadOP tk25 ?_
    refine AtT.kmove ?_
    refine AtT.kmove ?_
    refine AtT.kcallP rfl rfl ok80 (open_bad hs he) ?_
    rintro _ rfl
    refine AtT.kmove ?_
    refine AtT.kextract ?_
    refine AtT.kextract ?_
    refine AtT.kalloc z68 ?_
    intro b8
    first | refine AtT.kstore1 tk68 ?_ | refine AtT.kstoreA tk68 ?_
    refine AtT.kassign ?_
    refine AtT.done ?_
    refine At.nrm ?_
    refine At.ktext (.q 0 (.q 1 .done)) ?_
    refine AtT.kmove ?_
    refine AtT.kneI ?_
    refine AtT.done ?_
    refine At.nrm ?_
    refine At.condT rfl (decide_eq_true he) ?_
    refine At.nrm ?_
    refine At.ktext (.q 0 (.q 1 (.q 2 .done))) ?_
    refine AtT.kmove ?_
    refine AtT.kassign ?_
    refine AtT.kassign ?_
    refine AtT.done ?_
    refine At.nrm ?_
    exact At.ret2 rfl (.tmp rfl) (.tmp rfl) (by rw [bdR, if_pos he])
  have hk := bothE_ok he
  have hB := bn_ok hk sure
  have hn10 := hk.n10
  have hbl := bn_len d ps sure
  have hsb := sumL_bd hB (fromTo 0 ((ps.length : Int) - 1))
  have hfl := fromTo_len 0 ((ps.length : Int) - 1)
  refine At.ktext (.q 0 (.q 1 (.q 2 (.n false 3 (.q 4 (.q 5 (.q 6 (.n false 7 (.n true 8 (.q 9 .done)))))))))) ?_
  first | refine AtT.kloadOA tk25 ?_ | refine AtT.kloadA tk25 ?_ | refine AtT.kloadOP tk25 ?_
  refine AtT.kmove ?_
  refine AtT.kmove ?_
  refine AtT.kcall rfl rfl ok80 (open_ok hs he) ?_
  rintro _ V1 hV1 ⟨p, rfl, hpb⟩
  refine AtT.kmove ?_
  refine AtT.kextract ?_
  refine AtT.kextract ?_
  refine AtT.kalloc z68 ?_
  intro b8
  first | refine AtT.kstore1 tk68 ?_ | refine AtT.kstoreA tk68 ?_
  refine AtT.kassign ?_
  refine AtT.done ?_
  refine At.nrm ?_
  refine At.ktext (.q 0 (.q 1 .done)) ?_
  refine AtT.kmove ?_
  refine AtT.kneI ?_
  refine AtT.done ?_
  refine At.nrm ?_
  refine At.condF rfl rfl ?_
  refine At.nrm ?_
  refine At.ktext (.q 0 (.q 1 (.q 2 (.q 3 (.n false 4 (.n false 5 (.n true 6 .done))))))) ?_
  first | refine AtT.kloadO tk68 ?_ | refine AtT.kload tk68 ?_
  refine AtT.kmove ?_
  first | refine AtT.klenS Try.underlying26 ?_ | refine AtT.klenR Try.underlying26 ?_
  first | refine AtT.ksubt ?_ | refine AtT.ksubW ?_
  refine AtT.kcallP rfl rfl ok76 (span_f _ hB 0 ((ps.length : Int) - 1) (by omega) (by omega) _ p hpb) ?_
  rintro _ rfl
  refine AtT.kalloc z72 ?_
  intro b10
  refine AtT.kstoreA tk72 ?_
  refine AtT.done ?_
  refine At.nrm ?_
  refine At.giveB (b := b8) Pick.auto (fun V2 hV2 hb2 => ?_)
  refine At.giveB (b := b10) Pick.auto (fun V3 hV3 hb3 => ?_)
  have q2 := (cells_blk hb2).le hV3
  have q1 := cells_blk hb3
  have hpb3 := (hpb.le hV2).le hV3
  refine At.ktext (.q 0 (.q 1 .done)) ?_
  refine AtT.kfn ?_
  refine AtT.kassign ?_
  refine AtT.done ?_
  refine At.nrm ?_
  refine At.ktext (.q 0 (.n false 1 (.q 2 (.n false 3 (.q 4 (.q 5 (.q 6 .done))))))) ?_
  refine AtT.kmove ?_
  refine AtT.kcallV rfl rfl rfl ok81 (up0_f _ hB _ (by omega) (by omega) _ _ _ _ hpb3 q1 q2) ?_
  rintro _ rfl
  refine AtT.kmove ?_
  refine AtT.kcallV rfl rfl rfl ok81 (up1_f _ hB _ (by omega) (by omega) _ _ _ _ hpb3 q1 q2) ?_
  rintro _ rfl
  refine AtT.kmax2 ?_
  refine AtT.kassign ?_
  refine AtT.kassign ?_
  refine AtT.done ?_
  refine At.nrm ?_
  exact At.ret2 rfl (.tmp rfl) (.tmp rfl) (by rw [bdR, if_neg (by simp [he])]; unfold bndN; rw [hbl])
theorem rbound_f (d : Dy) (ps : List Pn) (sure : Bool) (V : View) (v : Value) (hs : Sl V pne 3 v ps) : Fnc Try.prog 39 [dyv d, v, .bool sure] V fun r _ => r = .tuple #[iv (bdR d ps sure).1, iv (bdR d ps sure).2] := by
  obtain ⟨a, c, rfl, k1, k2, _⟩ := id hs
  have hlenp := hs.lenLe
  clear k1 k2
  refine fn_of Try.func39 rfl Try.ntmps39 (Nat.le_of_ble_eq_true rfl) ?_
  intro w0 hw0
  refine At.nrm ?_
  refine At.ktext (.n false 0 (.q 1 (.q 2 .done))) ?_
  refine AtT.kbox ?_
  intro b3
  refine AtT.kassign ?_
  refine AtT.kassign ?_
  refine AtT.done ?_
  refine At.nrm ?_
  refine At.ktext (.q 0 (.q 1 (.n false 2 (.q 3 .done)))) ?_
  first | refine AtT.kloadOA tk25 ?_ | refine AtT.kloadA tk25 ?_ | refine AtT.kloadOP tk25 ?_
  refine AtT.kmove ?_
  refine AtT.kcallP rfl rfl ok60 (both_f d ps _ _ hs) ?_
  rintro _ rfl
  refine AtT.kneI ?_
  refine AtT.done ?_
  refine At.nrm ?_
  refine At.condP rfl (fun he => ?_) (fun he => ?_)
  · refine At.nrm ?_
    refine At.ktext (.q 0 (.q 1 (.n false 2 (.q 3 (.q 4 .done))))) ?_
    first | refine AtT.kloadOA tk25 ?_ | refine AtT.kloadA tk25 ?_ | refine AtT.kloadOP tk25 ?_
    refine AtT.kmove ?_
    refine AtT.kcallP rfl rfl ok60 (both_f d ps _ _ hs) ?_
    rintro _ rfl
    refine AtT.kassign ?_
    refine AtT.kassign ?_
    refine AtT.done ?_
    refine At.nrm ?_
    exact At.ret2 rfl (.tmp rfl) (.tmp rfl) (by rw [bdR, if_pos he])
  have he' : bothE d ps = 0 := Decidable.not_not.1 he
  have hk := bothE_ok he'
  have hB := bn_ok hk sure
  have hn10 := hk.n10
  have hbl := bn_len d ps sure
  obtain ⟨hift, hlft⟩ := ft_in (sure := sure) (a := 0) (b := (ps.length : Int) - 1) hk (by omega) (by omega)
  have hsb := sumL_bd hB (fromTo 0 ((ps.length : Int) - 1))
  have hw := hB.w0
  have hw1 := hB.w1
  have hp0 := hB.p0
  have hp1 := hB.p1
  have ew : worksOf d sure = (bn d ps sure).w := rfl
  have ep : d.pot = (bn d ps sure).p := rfl
  have hu := upB_bd (a := (sumL (bn d ps sure) (fromTo 0 ((ps.length : Int) - 1))).t) (b := worksOf d sure) (by omega) (by omega)
  have hu2 := upB_bd (a := (sumL (bn d ps sure) (fromTo 0 ((ps.length : Int) - 1))).g) (b := d.pot) (by omega) (by omega)
  unfold upB at hu hu2
  refine At.nrm ?_
  refine At.ktext (.q 0 (.q 1 (.q 2 (.q 3 (.q 4 (.n false 5 (.n false 6 (.q 7 (.q 8 (.q 9 (.q 10 (.q 11 .done)))))))))))) ?_
  refine AtT.kmove ?_
  refine AtT.kmove ?_
  refine AtT.kmove ?_
  first | refine AtT.klenS Try.underlying26 ?_ | refine AtT.klenR Try.underlying26 ?_
  first | refine AtT.ksubt ?_ | refine AtT.ksubW ?_
  refine AtT.kcall rfl rfl ok77 (rspan_f 0 ((ps.length : Int) - 1) (by omega) (by omega) _) ?_
  rintro v24 V24 hV24 hs24
  refine AtT.kcallP rfl rfl ok63 (sums_f d ps hk sure _ hift hlft _ _ _ (hs.le hV24) hs24) ?_
  rintro _ rfl
  refine AtT.kmove ?_
  refine AtT.kextract ?_
  refine AtT.kextract ?_
  refine AtT.kassign ?_
  refine AtT.kassign ?_
  refine AtT.done ?_
  refine At.nrm ?_
  refine At.ktext (.q 0 (.q 1 (.n false 2 (.q 3 .done)))) ?_
  first | refine AtT.kloadOA tk25 ?_ | refine AtT.kloadA tk25 ?_ | refine AtT.kloadOP tk25 ?_
  refine AtT.kmove ?_
  refine AtT.kcallP rfl rfl ok82 (worksOf_f d sure _) ?_
  rintro _ rfl
  refine AtT.kassign ?_
  refine AtT.done ?_
  refine At.nrm ?_
  refine At.draw (.q 0 (.q 1 (.q 2 (.q 3 (.q 4 (.q 5 (.q 6 (.q 7 (.q 8 (.q 9 (.q 10 (.q 11 (.q 12 (.q 13 (.q 14 (.q 15 (.q 16 .done))))))))))))))))) ffm (by kernel_rfl) ?_
  refine AtT.kmove ?_
  refine AtT.kmove ?_
  first | refine AtT.kadd ?_ | refine AtT.kaddW ?_
  first | refine AtT.ksubt ?_ | refine AtT.ksubW ?_
  refine AtT.kmove ?_
  refine AtT.kquo ?_
  refine AtT.kmove ?_
  first | refine AtT.kfieldO fo25_1 ?_ | with_reducible refine AtT.kfield2 fo25_1 ?_ | refine AtT.kfield fo25_1 ?_
  first | refine AtT.kloadO tk2 ?_ | refine AtT.kload tk2 ?_
  first | refine AtT.kadd ?_ | refine AtT.kaddW ?_
  first | refine AtT.ksubt ?_ | refine AtT.ksubW ?_
  first | refine AtT.kfieldO fo25_1 ?_ | with_reducible refine AtT.kfield2 fo25_1 ?_ | refine AtT.kfield fo25_1 ?_
  first | refine AtT.kloadO tk2 ?_ | refine AtT.kload tk2 ?_
  refine AtT.kquo ?_
  refine AtT.kmax2 ?_
  refine AtT.kassign ?_
  refine AtT.kassign ?_
  refine AtT.done ?_
  refine At.nrm ?_
  all_goals (exact At.ret2 rfl (.tmp rfl) (.tmp rfl) (by rw [bdR, if_neg he]; unfold bndN; rw [hbl]; rfl))
end Go.Proofs.Ytmnbkceiaifncaa
set_option linter.unusedVariables false
namespace Go.Proofs.Ytmnbkceiaifncaa
open Go.Lw Go.Gl Go.RowKit

theorem before_f (l m : List Int) (V : View) (v u : Value) (hs : SlI V v l) (hu : SlI V u m) : Fnc Try.prog 86 [v, u] V fun r _ => r = .bool (befB l m) := by
  have hlen := hs.lenLe
  have hlen2 := hu.lenLe
  obtain ⟨a, c, rfl, k1, k2, _⟩ := id hs
  obtain ⟨a', c', rfl, k3, k4, _⟩ := id hu
  clear k1 k2 k3 k4
  refine fn_of Try.func86 rfl Try.ntmps86 (Nat.le_of_ble_eq_true rfl) ?_
  intro w0 hw0
  refine At.nrm ?_
  refine At.ktext (.q 0 .done) ?_
  refine AtT.kassign ?_
  refine AtT.done ?_
  refine At.nrm ?_
  refine At.ktext (.q 0 .done) ?_
  refine AtT.kassign ?_
  refine AtT.done ?_
  refine At.nrm ?_
  refine At.lp (ι := Nat) (KS := fun k => [(0, .slice a l.length c), (1, .slice a' m.length c'), (5, iv k)]) (OS := fun _ => []) (VS := fun k V' => V' = V ∧ k ≤ l.length ∧ k ≤ m.length ∧ befB l m = befB (l.drop k) (m.drop k)) (μ := fun k => l.length - k) 0 ?_ ?_ ?_ ?_
  · exact ⟨rfl, rfl, rfl, trivial⟩
  · exact Pt.auto
  · exact ⟨rfl, Nat.zero_le _, Nat.zero_le _, by simp⟩
  · rintro k V' ks' O' ⟨rfl, hkl, hkm, hok⟩ hk hO hl2
    subst hk hO
    have hend : ¬ (k < l.length ∧ k < m.length) → befB l m = decide ((l.length : Int) < (m.length : Int)) := fun h => by
      rw [hok, befB_end _ _ (by
        by_cases c1 : k < l.length
        · exact .inr (List.drop_eq_nil_of_le (by omega))
        · exact .inl (List.drop_eq_nil_of_le (by omega))), decide_eq_decide, List.length_drop, List.length_drop]
      omega
    refine At.nrm ?_
    by_cases c1 : (k : Int) < l.length
    rotate_left
    · refine At.ktext (.q 0 (.q 1 (.q 2 (.q 3 (.q 4 (.q 5 (.q 6 (.q 7 (.q 8 (.q 9 .done)))))))))) ?_
      refine AtT.kmove ?_
      refine AtT.kmove ?_
      first | refine AtT.klenS Try.underlying27 ?_ | refine AtT.klenR Try.underlying27 ?_
      refine AtT.klss ?_
      refine AtT.setF (d := 9) rfl (c1) ?_
      refine AtT.kmove ?_
      all_goals (first | refine AtT.kL 10 ?_ | refine AtT.pcase (d := 10) rfl (fun hg10 => ?_) (fun hg10 => ?_) | refine AtT.bcase (d := 10) rfl (fun hg10 => ?_) (fun hg10 => ?_))
      all_goals (first | refine AtT.kpass ?_ | refine AtT.kpassU ?_ | ((refine AtT.kmove ?_)))
      all_goals (first | refine AtT.kpass ?_ | refine AtT.kpassU ?_ | ((refine AtT.kmove ?_)))
      all_goals (first | refine AtT.kpass ?_ | refine AtT.kpassU ?_ | ((first | refine AtT.klenS Try.underlying27 ?_ | refine AtT.klenR Try.underlying27 ?_)))
      all_goals (first | refine AtT.kpass ?_ | refine AtT.kpassU ?_ | ((refine AtT.klss ?_)))
      all_goals (refine AtT.kpick ?_)
      all_goals refine AtT.done ?_
      all_goals (refine At.nrm ?_)
      refine At.condF rfl rfl ?_
      refine At.nrm ?_
      refine At.ktext (.q 0 (.q 1 (.q 2 (.q 3 (.q 4 (.q 5 .done)))))) ?_
      refine AtT.kmove ?_
      first | refine AtT.klenS Try.underlying27 ?_ | refine AtT.klenR Try.underlying27 ?_
      refine AtT.kmove ?_
      first | refine AtT.klenS Try.underlying27 ?_ | refine AtT.klenR Try.underlying27 ?_
      refine AtT.klss ?_
      refine AtT.kassign ?_
      refine AtT.done ?_
      refine At.nrm ?_
      exact At.ret1 rfl (.tmp rfl) (by rw [hend (by omega)])
    by_cases c2 : (k : Int) < m.length
    rotate_left
    · refine At.ktext (.q 0 (.q 1 (.q 2 (.q 3 (.q 4 (.q 5 (.q 6 (.q 7 (.q 8 (.q 9 .done)))))))))) ?_
      refine AtT.kmove ?_
      refine AtT.kmove ?_
      first | refine AtT.klenS Try.underlying27 ?_ | refine AtT.klenR Try.underlying27 ?_
      refine AtT.klss ?_
      refine AtT.setT (d := 9) rfl (c1) ?_
      refine AtT.kmove ?_
      all_goals (first | refine AtT.kL 10 ?_ | refine AtT.pcase (d := 10) rfl (fun hg10 => ?_) (fun hg10 => ?_) | refine AtT.bcase (d := 10) rfl (fun hg10 => ?_) (fun hg10 => ?_))
      all_goals (first | refine AtT.kpass ?_ | refine AtT.kpassU ?_ | ((refine AtT.kmove ?_)))
      all_goals (first | refine AtT.kpass ?_ | refine AtT.kpassU ?_ | ((refine AtT.kmove ?_)))
      all_goals (first | refine AtT.kpass ?_ | refine AtT.kpassU ?_ | ((first | refine AtT.klenS Try.underlying27 ?_ | refine AtT.klenR Try.underlying27 ?_)))
      all_goals (first | refine AtT.kpass ?_ | refine AtT.kpassU ?_ | ((refine AtT.klss ?_)))
      all_goals (refine AtT.setF (d := 14) rfl (c2) ?_)
      all_goals (refine AtT.kpick ?_)
      all_goals refine AtT.done ?_
      all_goals (refine At.nrm ?_)
      refine At.condF rfl rfl ?_
      refine At.nrm ?_
      refine At.ktext (.q 0 (.q 1 (.q 2 (.q 3 (.q 4 (.q 5 .done)))))) ?_
      refine AtT.kmove ?_
      first | refine AtT.klenS Try.underlying27 ?_ | refine AtT.klenR Try.underlying27 ?_
      refine AtT.kmove ?_
      first | refine AtT.klenS Try.underlying27 ?_ | refine AtT.klenR Try.underlying27 ?_
      refine AtT.klss ?_
      refine AtT.kassign ?_
      refine AtT.done ?_
      refine At.nrm ?_
      exact At.ret1 rfl (.tmp rfl) (by rw [hend (by omega)])
    refine At.ktext (.q 0 (.q 1 (.q 2 (.q 3 (.q 4 (.q 5 (.q 6 (.q 7 (.q 8 (.q 9 .done)))))))))) ?_
    refine AtT.kmove ?_
    refine AtT.kmove ?_
    first | refine AtT.klenS Try.underlying27 ?_ | refine AtT.klenR Try.underlying27 ?_
    refine AtT.klss ?_
    refine AtT.setT (d := 9) rfl (c1) ?_
    refine AtT.kmove ?_
    all_goals (first | refine AtT.kL 10 ?_ | refine AtT.pcase (d := 10) rfl (fun hg10 => ?_) (fun hg10 => ?_) | refine AtT.bcase (d := 10) rfl (fun hg10 => ?_) (fun hg10 => ?_))
    all_goals (first | refine AtT.kpass ?_ | refine AtT.kpassU ?_ | ((refine AtT.kmove ?_)))
    all_goals (first | refine AtT.kpass ?_ | refine AtT.kpassU ?_ | ((refine AtT.kmove ?_)))
    all_goals (first | refine AtT.kpass ?_ | refine AtT.kpassU ?_ | ((first | refine AtT.klenS Try.underlying27 ?_ | refine AtT.klenR Try.underlying27 ?_)))
    all_goals (first | refine AtT.kpass ?_ | refine AtT.kpassU ?_ | ((refine AtT.klss ?_)))
    all_goals (refine AtT.setT (d := 14) rfl (c2) ?_)
    all_goals (refine AtT.kpick ?_)
    all_goals refine AtT.done ?_
    all_goals (refine At.nrm ?_)
    refine At.condT rfl rfl ?_
    obtain ⟨x, hx⟩ : ∃ x, l[k]? = some x := ⟨_, List.getElem?_eq_getElem (by omega)⟩
    obtain ⟨y, hy⟩ : ∃ y, m[k]? = some y := ⟨_, List.getElem?_eq_getElem (by omega)⟩
    rw [drop_cons hx, drop_cons hy] at hok
    simp only [befB] at hok
    refine At.nrm ?_
    refine At.draw (.q 0 (.q 1 (.q 2 (.q 3 (.q 4 (.q 5 (.q 6 (.q 7 (.q 8 .done))))))))) ffm (by kernel_rfl) ?_
    refine AtT.kmove ?_
    refine AtT.kmove ?_
    refine AtT.kidx Try.underlying27 tk3 ?_
    intro p20 e20 he20 hc20
    obtain rfl : e20 = x := by have : l[k]? = some e20 := (by simpa using he20); rw [hx] at this; simpa using this.symm
    first | refine AtT.kloadO tk3 ?_ | refine AtT.kload tk3 ?_
    refine AtT.kmove ?_
    refine AtT.kmove ?_
    refine AtT.kidx Try.underlying27 tk3 ?_
    intro p24 e24 he24 hc24
    obtain rfl : e24 = y := by have : m[k]? = some e24 := (by simpa using he24); rw [hy] at this; simpa using this.symm
    first | refine AtT.kloadO tk3 ?_ | refine AtT.kload tk3 ?_
    refine AtT.kneI ?_
    refine AtT.done ?_
    refine At.nrm ?_
    refine At.condP rfl (fun hc => ?_) (fun hc => ?_)
    · rw [if_neg hc] at hok
      refine At.nrm ?_
      refine At.draw (.q 0 (.q 1 (.q 2 (.q 3 (.q 4 (.q 5 (.q 6 (.q 7 (.q 8 (.q 9 .done)))))))))) ffm (by kernel_rfl) ?_
      refine AtT.kmove ?_
      refine AtT.kmove ?_
      refine AtT.kidx Try.underlying27 tk3 ?_
      intro p29 e29 he29 hc29
      obtain rfl : e29 = e20 := by have : l[k]? = some e29 := (by simpa using he29); rw [hx] at this; simpa using this.symm
      first | refine AtT.kloadO tk3 ?_ | refine AtT.kload tk3 ?_
      refine AtT.kmove ?_
      refine AtT.kmove ?_
      refine AtT.kidx Try.underlying27 tk3 ?_
      intro p33 e33 he33 hc33
      obtain rfl : e33 = e24 := by have : m[k]? = some e33 := (by simpa using he33); rw [hy] at this; simpa using this.symm
      first | refine AtT.kloadO tk3 ?_ | refine AtT.kload tk3 ?_
      refine AtT.klss ?_
      refine AtT.kassign ?_
      refine AtT.done ?_
      refine At.nrm ?_
      exact At.ret1 rfl (.tmp rfl) (by rw [hok])
    · rw [if_pos (Decidable.not_not.1 hc)] at hok
      refine At.nrm ?_
      refine At.ktext (.q 0 (.q 1 (.q 2 .done))) ?_
      refine AtT.kmove ?_
      first | refine AtT.kadd ?_ | refine AtT.kaddW ?_
      refine AtT.kassign ?_
      refine AtT.done ?_
      refine At.nrm ?_
      refine At.round (k + 1) ?_ ?_ ?_ ?_
      · show l.length - (k + 1) < l.length - k; omega
      · exact ⟨rfl, by omega, by omega, hok⟩
      · exact ⟨rfl, rfl, ivs (by omega), trivial⟩
      · exact Pt.auto
theorem earlier_f (l m : List Int) (V : View) (v u : Value) (hs : SlI V v l) (hu : SlI V u m) : Fnc Try.prog 51 [v, u] V fun r _ => r = .bool (earB l m) := by
  have hlen := hs.lenLe
  have hlen2 := hu.lenLe
  obtain ⟨a, c, rfl, k1, k2, _⟩ := id hs
  obtain ⟨a', c', rfl, k3, k4, _⟩ := id hu
  clear k1 k2 k3 k4
  refine fn_of Try.func51 rfl Try.ntmps51 (Nat.le_of_ble_eq_true rfl) ?_
  intro w0 hw0
  refine At.nrm ?_
  refine At.ktext (.q 0 .done) ?_
  refine AtT.kassign ?_
  refine AtT.done ?_
  refine At.nrm ?_
  refine At.ktext (.q 0 .done) ?_
  refine AtT.kassign ?_
  refine AtT.done ?_
  refine At.nrm ?_
  refine At.lp (ι := Nat) (KS := fun k => [(0, .slice a l.length c), (1, .slice a' m.length c'), (5, iv k)]) (OS := fun _ => []) (VS := fun k V' => V' = V ∧ k ≤ l.length ∧ k ≤ m.length ∧ earB l m = earB (l.drop k) (m.drop k)) (μ := fun k => l.length - k) 0 ?_ ?_ ?_ ?_
  · exact ⟨rfl, rfl, rfl, trivial⟩
  · exact Pt.auto
  · exact ⟨rfl, Nat.zero_le _, Nat.zero_le _, by simp⟩
  · rintro k V' ks' O' ⟨rfl, hkl, hkm, hok⟩ hk hO hl2
    subst hk hO
    have hend : ¬ (k < l.length ∧ k < m.length) → earB l m = false := fun h => by
      rw [hok, earB_end _ _ (by
        by_cases c1 : k < l.length
        · exact .inr (List.drop_eq_nil_of_le (by omega))
        · exact .inl (List.drop_eq_nil_of_le (by omega)))]
    refine At.nrm ?_
    by_cases c1 : (k : Int) < l.length
    rotate_left
    · refine At.ktext (.q 0 (.q 1 (.q 2 (.q 3 (.q 4 (.q 5 (.q 6 (.q 7 (.q 8 (.q 9 .done)))))))))) ?_
      refine AtT.kmove ?_
      refine AtT.kmove ?_
      first | refine AtT.klenS Try.underlying27 ?_ | refine AtT.klenR Try.underlying27 ?_
      refine AtT.klss ?_
      refine AtT.setF (d := 9) rfl (c1) ?_
      refine AtT.kmove ?_
      all_goals (first | refine AtT.kL 10 ?_ | refine AtT.pcase (d := 10) rfl (fun hg10 => ?_) (fun hg10 => ?_) | refine AtT.bcase (d := 10) rfl (fun hg10 => ?_) (fun hg10 => ?_))
      all_goals (first | refine AtT.kpass ?_ | refine AtT.kpassU ?_ | ((refine AtT.kmove ?_)))
      all_goals (first | refine AtT.kpass ?_ | refine AtT.kpassU ?_ | ((refine AtT.kmove ?_)))
      all_goals (first | refine AtT.kpass ?_ | refine AtT.kpassU ?_ | ((first | refine AtT.klenS Try.underlying27 ?_ | refine AtT.klenR Try.underlying27 ?_)))
      all_goals (first | refine AtT.kpass ?_ | refine AtT.kpassU ?_ | ((refine AtT.klss ?_)))
      all_goals (refine AtT.kpick ?_)
      all_goals refine AtT.done ?_
      all_goals (refine At.nrm ?_)
      refine At.condF rfl rfl ?_
      refine At.nrm ?_
      refine At.ktext (.q 0 .done) ?_
      refine AtT.kassign ?_
      refine AtT.done ?_
      refine At.nrm ?_
      exact At.ret1 rfl (.tmp rfl) (by rw [hend (by omega)])
    by_cases c2 : (k : Int) < m.length
    rotate_left
    · refine At.ktext (.q 0 (.q 1 (.q 2 (.q 3 (.q 4 (.q 5 (.q 6 (.q 7 (.q 8 (.q 9 .done)))))))))) ?_
      refine AtT.kmove ?_
      refine AtT.kmove ?_
      first | refine AtT.klenS Try.underlying27 ?_ | refine AtT.klenR Try.underlying27 ?_
      refine AtT.klss ?_
      refine AtT.setT (d := 9) rfl (c1) ?_
      refine AtT.kmove ?_
      all_goals (first | refine AtT.kL 10 ?_ | refine AtT.pcase (d := 10) rfl (fun hg10 => ?_) (fun hg10 => ?_) | refine AtT.bcase (d := 10) rfl (fun hg10 => ?_) (fun hg10 => ?_))
      all_goals (first | refine AtT.kpass ?_ | refine AtT.kpassU ?_ | ((refine AtT.kmove ?_)))
      all_goals (first | refine AtT.kpass ?_ | refine AtT.kpassU ?_ | ((refine AtT.kmove ?_)))
      all_goals (first | refine AtT.kpass ?_ | refine AtT.kpassU ?_ | ((first | refine AtT.klenS Try.underlying27 ?_ | refine AtT.klenR Try.underlying27 ?_)))
      all_goals (first | refine AtT.kpass ?_ | refine AtT.kpassU ?_ | ((refine AtT.klss ?_)))
      all_goals (refine AtT.setF (d := 14) rfl (c2) ?_)
      all_goals (refine AtT.kpick ?_)
      all_goals refine AtT.done ?_
      all_goals (refine At.nrm ?_)
      refine At.condF rfl rfl ?_
      refine At.nrm ?_
      refine At.ktext (.q 0 .done) ?_
      refine AtT.kassign ?_
      refine AtT.done ?_
      refine At.nrm ?_
      exact At.ret1 rfl (.tmp rfl) (by rw [hend (by omega)])
    refine At.ktext (.q 0 (.q 1 (.q 2 (.q 3 (.q 4 (.q 5 (.q 6 (.q 7 (.q 8 (.q 9 .done)))))))))) ?_
    refine AtT.kmove ?_
    refine AtT.kmove ?_
    first | refine AtT.klenS Try.underlying27 ?_ | refine AtT.klenR Try.underlying27 ?_
    refine AtT.klss ?_
    refine AtT.setT (d := 9) rfl (c1) ?_
    refine AtT.kmove ?_
    all_goals (first | refine AtT.kL 10 ?_ | refine AtT.pcase (d := 10) rfl (fun hg10 => ?_) (fun hg10 => ?_) | refine AtT.bcase (d := 10) rfl (fun hg10 => ?_) (fun hg10 => ?_))
    all_goals (first | refine AtT.kpass ?_ | refine AtT.kpassU ?_ | ((refine AtT.kmove ?_)))
    all_goals (first | refine AtT.kpass ?_ | refine AtT.kpassU ?_ | ((refine AtT.kmove ?_)))
    all_goals (first | refine AtT.kpass ?_ | refine AtT.kpassU ?_ | ((first | refine AtT.klenS Try.underlying27 ?_ | refine AtT.klenR Try.underlying27 ?_)))
    all_goals (first | refine AtT.kpass ?_ | refine AtT.kpassU ?_ | ((refine AtT.klss ?_)))
    all_goals (refine AtT.setT (d := 14) rfl (c2) ?_)
    all_goals (refine AtT.kpick ?_)
    all_goals refine AtT.done ?_
    all_goals (refine At.nrm ?_)
    refine At.condT rfl rfl ?_
    obtain ⟨x, hx⟩ : ∃ x, l[k]? = some x := ⟨_, List.getElem?_eq_getElem (by omega)⟩
    obtain ⟨y, hy⟩ : ∃ y, m[k]? = some y := ⟨_, List.getElem?_eq_getElem (by omega)⟩
    rw [drop_cons hx, drop_cons hy] at hok
    simp only [earB] at hok
    refine At.nrm ?_
    refine At.draw (.q 0 (.q 1 (.q 2 (.q 3 (.q 4 (.q 5 (.q 6 (.q 7 (.q 8 .done))))))))) ffm (by kernel_rfl) ?_
    refine AtT.kmove ?_
    refine AtT.kmove ?_
    refine AtT.kidx Try.underlying27 tk3 ?_
    intro p20 e20 he20 hc20
    obtain rfl : e20 = x := by have : l[k]? = some e20 := (by simpa using he20); rw [hx] at this; simpa using this.symm
    first | refine AtT.kloadO tk3 ?_ | refine AtT.kload tk3 ?_
    refine AtT.kmove ?_
    refine AtT.kmove ?_
    refine AtT.kidx Try.underlying27 tk3 ?_
    intro p24 e24 he24 hc24
    obtain rfl : e24 = y := by have : m[k]? = some e24 := (by simpa using he24); rw [hy] at this; simpa using this.symm
    first | refine AtT.kloadO tk3 ?_ | refine AtT.kload tk3 ?_
    refine AtT.kneI ?_
    refine AtT.done ?_
    refine At.nrm ?_
    refine At.condP rfl (fun hc => ?_) (fun hc => ?_)
    · rw [if_neg hc] at hok
      refine At.nrm ?_
      refine At.draw (.q 0 (.q 1 (.q 2 (.q 3 (.q 4 (.q 5 (.q 6 (.q 7 (.q 8 (.q 9 .done)))))))))) ffm (by kernel_rfl) ?_
      refine AtT.kmove ?_
      refine AtT.kmove ?_
      refine AtT.kidx Try.underlying27 tk3 ?_
      intro p29 e29 he29 hc29
      obtain rfl : e29 = e20 := by have : l[k]? = some e29 := (by simpa using he29); rw [hx] at this; simpa using this.symm
      first | refine AtT.kloadO tk3 ?_ | refine AtT.kload tk3 ?_
      refine AtT.kmove ?_
      refine AtT.kmove ?_
      refine AtT.kidx Try.underlying27 tk3 ?_
      intro p33 e33 he33 hc33
      obtain rfl : e33 = e24 := by have : m[k]? = some e33 := (by simpa using he33); rw [hy] at this; simpa using this.symm
      first | refine AtT.kloadO tk3 ?_ | refine AtT.kload tk3 ?_
      refine AtT.klss ?_
      refine AtT.kassign ?_
      refine AtT.done ?_
      refine At.nrm ?_
      exact At.ret1 rfl (.tmp rfl) (by rw [hok])
    · rw [if_pos (Decidable.not_not.1 hc)] at hok
      refine At.nrm ?_
      refine At.ktext (.q 0 (.q 1 (.q 2 .done))) ?_
      refine AtT.kmove ?_
      first | refine AtT.kadd ?_ | refine AtT.kaddW ?_
      refine AtT.kassign ?_
      refine AtT.done ?_
      refine At.nrm ?_
      refine At.round (k + 1) ?_ ?_ ?_ ?_
      · show l.length - (k + 1) < l.length - k; omega
      · exact ⟨rfl, by omega, by omega, hok⟩
      · exact ⟨rfl, rfl, ivs (by omega), trivial⟩
      · exact Pt.auto
theorem isApart_f (d : Dy) (ps : List Pn) (sure : Bool) (l : List Int) (hk : Ok d ps) (hin : InB (bn d ps sure) l) (V : View) (v vl : Value) (hs : Sl V pne 3 v ps) (hl : SlI V vl l) : Fnc Try.prog 85 [dyv d, v, .bool sure, vl] V fun r _ => r = .bool (apB (bn d ps sure) l) := by
  obtain ⟨a, c, rfl, k1, k2, _⟩ := id hs
  obtain ⟨al, cl, rfl, k3, k4, _⟩ := id hl
  have hlen := hl.lenLe
  clear k1 k2 k3 k4
  have hB := bn_ok hk sure
  have hn10 := hk.n10
  refine fn_of Try.func85 rfl Try.ntmps85 (Nat.le_of_ble_eq_true rfl) ?_
  intro w0 hw0
  refine At.nrm ?_
  refine At.ktext (.n false 0 (.q 1 .done)) ?_
  refine AtT.kbox ?_
  intro b4
  refine AtT.kassign ?_
  refine AtT.done ?_
  refine At.nrm ?_
  refine At.ktext (.q 0 .done) ?_
  refine AtT.kassign ?_
  refine AtT.done ?_
  refine At.nrm ?_
  refine At.lp (ι := Nat) (KS := fun i => [(1, .slice a ps.length c), (2, .bool sure), (3, .slice al l.length cl), (4, .pointer (some ⟨b4, 0, none⟩)), (9, iv i)]) (OS := fun _ => [.blk b4 (LC (dye d) 25)])
    (VS := fun i V' => Le V V' ∧ i ≤ l.length ∧ ∀ j, j < i → apRow (bn d ps sure) l j = true) (μ := fun i => l.length - i) 0 ?_ ?_ ?_ ?_
  · exact ⟨rfl, rfl, rfl, rfl, rfl, trivial⟩
  · exact Pt.auto
  · exact ⟨Le.refl _, Nat.zero_le _, fun j hj => absurd hj (Nat.not_lt_zero j)⟩
  · rintro i V' ks' O' ⟨hVV, hil, hok⟩ hk2 hO hl2
    subst hk2 hO
    refine At.nrm ?_
    refine At.ktext (.q 0 (.q 1 (.q 2 (.q 3 .done)))) ?_
    refine AtT.kmove ?_
    refine AtT.kmove ?_
    first | refine AtT.klenS Try.underlying27 ?_ | refine AtT.klenR Try.underlying27 ?_
    refine AtT.klss ?_
    refine AtT.done ?_
    refine At.nrm ?_
    refine At.condP rfl (fun hp => ?_) (fun hp => ?_)
    · obtain ⟨y, hy⟩ : ∃ y, l[i]? = some y := ⟨_, List.getElem?_eq_getElem (by omega)⟩
      have hgy : l.getD i 0 = y := by simp [List.getD, hy]
      refine At.nrm ?_
      refine At.ktext (.q 0 .done) ?_
      refine AtT.kassign ?_
      refine AtT.done ?_
      refine At.nrm ?_
      refine At.lp (ι := Nat) (KS := fun k => [(1, .slice a ps.length c), (2, .bool sure), (3, .slice al l.length cl), (4, .pointer (some ⟨b4, 0, none⟩)), (9, iv i), (10, iv k)]) (OS := fun _ => [.blk b4 (LC (dye d) 25)])
        (VS := fun k V'' => Le V' V'' ∧ k ≤ i ∧ ∀ j, j < k → apAt (bn d ps sure) l i j = true) (μ := fun k => i - k) 0 ?_ ?_ ?_ ?_
      · exact ⟨rfl, rfl, rfl, rfl, rfl, rfl, trivial⟩
      · exact Pt.auto
      · exact ⟨Le.refl _, Nat.zero_le _, fun j hj => absurd hj (Nat.not_lt_zero j)⟩
      · rintro k V'' ks' O' ⟨hVV2, hki, hok2⟩ hk2 hO hl3
        subst hk2 hO
        have hs' := (hs.le hVV).le hVV2
        have hl' := (hl.le hVV).le hVV2
        refine At.nrm ?_
        refine At.ktext (.q 0 (.q 1 (.q 2 .done))) ?_
        refine AtT.kmove ?_
        refine AtT.kmove ?_
        refine AtT.klss ?_
        refine AtT.done ?_
        refine At.nrm ?_
        refine At.condP rfl (fun hp2 => ?_) (fun hp2 => ?_)
        · obtain ⟨x, hx⟩ : ∃ x, l[k]? = some x := ⟨_, List.getElem?_eq_getElem (by omega)⟩
          have hgx : l.getD k 0 = x := by simp [List.getD, hx]
          have hxb := hin x (List.mem_of_getElem? hx)
          have hyb := hin y (List.mem_of_getElem? hy)
          refine At.nrm ?_
          refine At.draw (.q 0 (.q 1 (.q 2 (.q 3 (.q 4 (.q 5 (.q 6 (.q 7 (.q 8 (.q 9 (.q 10 (.n false 11 (.n false 12 (.q 13 .done)))))))))))))) ffm (by kernel_rfl) ?_
          first | refine AtT.kloadOA tk25 ?_ | refine AtT.kloadA tk25 ?_ | refine AtT.kloadOP tk25 ?_
          refine AtT.kmove ?_
          refine AtT.kmove ?_
          refine AtT.kmove ?_
          refine AtT.kmove ?_
          refine AtT.kidx Try.underlying27 tk3 ?_
          intro p27 e27 he27 hc27
          obtain rfl : e27 = x := by have : l[k]? = some e27 := (by simpa using he27); rw [hx] at this; simpa using this.symm
          first | refine AtT.kloadO tk3 ?_ | refine AtT.kload tk3 ?_
          refine AtT.kmove ?_
          refine AtT.kmove ?_
          refine AtT.kidx Try.underlying27 tk3 ?_
          intro p31 e31 he31 hc31
          obtain rfl : e31 = y := by have : l[i]? = some e31 := (by simpa using he31); rw [hy] at this; simpa using this.symm
          first | refine AtT.kloadO tk3 ?_ | refine AtT.kload tk3 ?_
          refine AtT.kbsliceG (bs27_2_0_1 _ _) ?_
          intro q33 V33 hV33 hq33
          have g33 : Le V V33 := by first | exact hV33 | exact Le.trans (by assumption) hV33
          refine AtT.kcallP rfl rfl ok62 (batErr_f d ps hk sure [e27, e31] (fun j hj => by simp at hj; rcases hj with rfl | rfl <;> assumption) (by simp) _ _ _ (hs'.le (by assumption)) (Sl.lit hq33 rfl (by simp))) ?_
          rintro _ rfl
          refine AtT.keqI ?_
          refine AtT.done ?_
          refine At.nrm ?_
          have hap : apAt (bn d ps sure) l i k = decide (fitE (bn d ps sure) (sumL (bn d ps sure) [e27, e31]) ≠ 0) := by unfold apAt; rw [hgx, hgy]
          refine At.condP rfl (fun hc => ?_) (fun hc => ?_)
          · refine At.nrm ?_
            refine At.ktext (.q 0 .done) ?_
            refine AtT.kassign ?_
            refine AtT.done ?_
            refine At.nrm ?_
            exact At.ret1 rfl (.tmp rfl) (by rw [apB_false (k := i) (by omega) (apRow_false (k := k) (by omega) (by rw [hap]; simp [hc]))])
          · refine At.nrm ?_
            refine At.ktext (.q 0 (.q 1 (.q 2 .done))) ?_
            refine AtT.kmove ?_
            first | refine AtT.kadd ?_ | refine AtT.kaddW ?_
            refine AtT.kassign ?_
            refine AtT.done ?_
            refine At.nrm ?_
            refine At.round (k + 1) ?_ ?_ ?_ ?_
            · show i - (k + 1) < i - k; omega
            · refine ⟨hVV2.trans (by assumption), by omega, fun j hj => ?_⟩
              by_cases hjk : j = k
              · subst hjk; rw [hap]; simp [hc]
              · exact hok2 j (by omega)
            · exact ⟨rfl, rfl, rfl, rfl, rfl, ivs (by omega), trivial⟩
            · exact Pt.auto
        · obtain rfl : k = i := by omega
          refine At.nrm ?_
          refine At.ktext (.q 0 (.q 1 (.q 2 .done))) ?_
          refine AtT.kmove ?_
          first | refine AtT.kadd ?_ | refine AtT.kaddW ?_
          refine AtT.kassign ?_
          refine AtT.done ?_
          refine At.nrm ?_
          refine At.round (k + 1) ?_ ?_ ?_ ?_
          · show l.length - (k + 1) < l.length - k; omega
          · refine ⟨hVV.trans hVV2, by omega, fun j hj => ?_⟩
            by_cases hjk : j = k
            · subst hjk; exact apRow_true hok2
            · exact hok j (by omega)
          · exact ⟨rfl, rfl, rfl, rfl, ivs (by omega), trivial⟩
          · exact Pt.auto
    · obtain rfl : i = l.length := by omega
      refine At.nrm ?_
      refine At.ktext (.q 0 .done) ?_
      refine AtT.kassign ?_
      refine AtT.done ?_
      refine At.nrm ?_
      exact At.ret1 rfl (.tmp rfl) (by rw [apB_true hok])
theorem rcheckApart_f (d : Dy) (ps : List Pn) (sure : Bool) (l : List Int) (V : View) (v vl : Value) (hs : Sl V pne 3 v ps) (hl : SlI V vl l) : Fnc Try.prog 45 [dyv d, v, .bool sure, vl] V fun r _ => r = iv (apR d ps sure l) := by
  obtain ⟨a, c, rfl, k1, k2, _⟩ := id hs
  clear k1 k2
  refine fn_of Try.func45 rfl Try.ntmps45 (Nat.le_of_ble_eq_true rfl) ?_
  intro w0 hw0
  refine At.nrm ?_
  refine At.ktext (.n false 0 (.q 1 .done)) ?_
  refine AtT.kbox ?_
  intro b4
  refine AtT.kassign ?_
  refine AtT.done ?_
  refine At.nrm ?_
  refine At.ktext (.q 0 (.q 1 (.n false 2 (.q 3 .done)))) ?_
  first | refine AtT.kloadOA tk25 ?_ | refine AtT.kloadA tk25 ?_ | refine AtT.kloadOP tk25 ?_
  refine AtT.kmove ?_
  refine AtT.kcallP rfl rfl ok60 (both_f d ps _ _ hs) ?_
  rintro _ rfl
  refine AtT.kneI ?_
  refine AtT.done ?_
  refine At.nrm ?_
  refine At.condP rfl (fun he => ?_) (fun he => ?_)
  · refine At.nrm ?_
    refine At.ktext (.q 0 (.q 1 (.n false 2 (.q 3 .done)))) ?_
    first | refine AtT.kloadOA tk25 ?_ | refine AtT.kloadA tk25 ?_ | refine AtT.kloadOP tk25 ?_
    refine AtT.kmove ?_
    refine AtT.kcallP rfl rfl ok60 (both_f d ps _ _ hs) ?_
    rintro _ rfl
    refine AtT.kassign ?_
    refine AtT.done ?_
    refine At.nrm ?_
    exact At.ret1 rfl (.tmp rfl) (by rw [apR_both he])
  have he' : bothE d ps = 0 := Decidable.not_not.1 he
  have hk := bothE_ok he'
  refine At.nrm ?_
  refine At.ktext (.q 0 (.q 1 (.q 2 (.n false 3 (.q 4 .done))))) ?_
  refine AtT.kmove ?_
  refine AtT.kmove ?_
  first | refine AtT.klenS Try.underlying26 ?_ | refine AtT.klenR Try.underlying26 ?_
  refine AtT.kcallP rfl rfl ok61 (isList_f l ps.length _ _ hl) ?_
  rintro _ rfl
  refine AtT.knot ?_
  refine AtT.done ?_
  refine At.nrm ?_
  refine At.cond rfl (fun hb => ?_) (fun hb => ?_)
  · have hb' : lstB l ps.length = false := by simpa using hb
    refine At.nrm ?_
    refine At.ktext (.q 0 .done) ?_
    refine AtT.kassign ?_
    refine AtT.done ?_
    refine At.nrm ?_
    exact At.ret1 rfl (.tmp rfl) (by rw [apR_arg he' hb'])
  have hb' : lstB l ps.length = true := by simpa using hb
  obtain ⟨hin, hlen⟩ := lst_in sure hb' hk
  refine At.nrm ?_
  refine At.ktext (.q 0 (.q 1 (.q 2 (.q 3 (.n false 4 (.q 5 .done)))))) ?_
  first | refine AtT.kloadOA tk25 ?_ | refine AtT.kloadA tk25 ?_ | refine AtT.kloadOP tk25 ?_
  refine AtT.kmove ?_
  refine AtT.kmove ?_
  refine AtT.kmove ?_
  refine AtT.kcallP rfl rfl ok85 (isApart_f d ps sure l hk hin _ _ _ hs hl) ?_
  rintro _ rfl
  refine AtT.knot ?_
  refine AtT.done ?_
  refine At.nrm ?_
  refine At.cond rfl (fun hc => ?_) (fun hc => ?_)
  · have hc' : apB (bn d ps sure) l = false := by simpa using hc
    refine At.nrm ?_
    refine At.ktext (.q 0 .done) ?_
    refine AtT.kassign ?_
    refine AtT.done ?_
    refine At.nrm ?_
    exact At.ret1 rfl (.tmp rfl) (by rw [apR_rule he' hb' hc'])
  · have hc' : apB (bn d ps sure) l = true := by simpa using hc
    refine At.nrm ?_
    refine At.ktext (.q 0 .done) ?_
    refine AtT.kassign ?_
    refine AtT.done ?_
    refine At.nrm ?_
    exact At.ret1 rfl (.tmp rfl) (by rw [apR_ok he' hb' hc'])
/-- Whether two panels share a batch: the functions within CheckApart and Apart. -/
theorem shr89_f (B : Bn) (hB : BnOk B) (x y : Int) (hx : 0 ≤ x ∧ x < (B.each.length : Int)) (hy : 0 ≤ y ∧ y < (B.each.length : Int)) (V : View) (p q1 q2 : Addr) (hb : BnV V p B) (hq1 : Cells V q1 [.func (.func 87) #[.pointer (some p)] #[]]) (hq2 : Cells V q2 [iv y]) :
    Fnc Try.prog 89 ([] ++ [iv x] ++ [.pointer (some q1), .pointer (some q2)]) V fun r _ => r = .bool (decide (fitE B (sumL B [x, y]) = 0)) := by
  refine fn_of Try.func89 rfl Try.ntmps89 (Nat.le_of_ble_eq_true rfl) ?_
  intro w0 hw0
  refine At.nrm ?_
  refine At.ktext (.q 0 .done) ?_
  refine AtT.kassign ?_
  refine AtT.done ?_
  refine At.nrm ?_
  refine At.ktext (.q 0 (.q 1 (.q 2 (.n false 3 (.q 4 .done))))) ?_
  first | refine AtT.kloadO tk101 ?_ | refine AtT.kload tk101 ?_
  refine AtT.kmove ?_
  first | refine AtT.kloadO tk3 ?_ | refine AtT.kload tk3 ?_
  refine AtT.kcallV rfl rfl rfl ok87 (share_f B hB x y hx hy _ p hb) ?_
  rintro _ rfl
  refine AtT.kassign ?_
  refine AtT.done ?_
  refine At.nrm ?_
  exact At.ret1 rfl (.tmp rfl) rfl
theorem shr105_f (B : Bn) (hB : BnOk B) (x y : Int) (hx : 0 ≤ x ∧ x < (B.each.length : Int)) (hy : 0 ≤ y ∧ y < (B.each.length : Int)) (V : View) (p q1 q2 : Addr) (hb : BnV V p B) (hq1 : Cells V q1 [.pointer (some p)]) (hq2 : Cells V q2 [iv y]) :
    Fnc Try.prog 105 ([] ++ [iv x] ++ [.pointer (some q1), .pointer (some q2)]) V fun r _ => r = .bool (decide (fitE B (sumL B [x, y]) = 0)) := by
  refine fn_of Try.func105 rfl Try.ntmps105 (Nat.le_of_ble_eq_true rfl) ?_
  intro w0 hw0
  refine At.nrm ?_
  refine At.ktext (.q 0 .done) ?_
  refine AtT.kassign ?_
  refine AtT.done ?_
  refine At.nrm ?_
  refine At.ktext (.q 0 (.q 1 (.q 2 (.n false 3 (.q 4 .done))))) ?_
  first | refine AtT.kloadO tk68 ?_ | refine AtT.kload tk68 ?_
  refine AtT.kmove ?_
  first | refine AtT.kloadO tk3 ?_ | refine AtT.kload tk3 ?_
  refine AtT.kcallP rfl rfl ok87 (share_f B hB x y hx hy _ p hb) ?_
  rintro _ rfl
  refine AtT.kassign ?_
  refine AtT.done ?_
  refine At.nrm ?_
  exact At.ret1 rfl (.tmp rfl) rfl
end Go.Proofs.Ytmnbkceiaifncaa
set_option linter.unusedVariables false
namespace Go.Proofs.Ytmnbkceiaifncaa
open Go.Lw Go.Gl Go.RowKit

theorem checkApart_f (d : Dy) (ps : List Pn) (sure : Bool) (l : List Int) (V : View) (v vl : Value) (hs : Sl V pne 3 v ps) (hl : SlI V vl l) : Fnc Try.prog 44 [dyv d, v, .bool sure, vl] V fun r _ => r = iv (apR d ps sure l) := by
  obtain ⟨al, cl, rfl, k3, k4, _⟩ := id hl
  have hlen := hl.lenLe
  clear k3 k4
  refine fn_of Try.func44 rfl Try.ntmps44 (Nat.le_of_ble_eq_true rfl) ?_
  intro w0 hw0
  refine At.nrm ?_
  refine At.ktext (.n false 0 (.q 1 .done)) ?_
  refine AtT.kbox ?_
  intro b4
  refine AtT.kassign ?_
  refine AtT.done ?_
  refine At.nrm ?_
  by_cases he : bothE d ps = 0
  rotate_left
  · refine At.ktext (.q 0 (.q 1 (.q 2 (.q 3 (.n false 4 (.q 5 (.q 6 (.q 7 (.q 8 (.q 9 .done)))))))))) ?_
    first | refine AtT.kloadOA tk25 ?_ | refine AtT.kloadA tk25 ?_ | refine AtT.kloadOP tk25 ?_
    refine AtT.kmove ?_
    refine AtT.kmove ?_
    refine AtT.kmove ?_
    refine AtT.kcallP rfl rfl ok57 (listed_bad hs hl he) ?_
    rintro _ rfl
    refine AtT.kmove ?_
    refine AtT.kextract ?_
    refine AtT.kextract ?_
    refine AtT.kassign ?_
    refine AtT.kassign ?_
    refine AtT.done ?_
    refine At.nrm ?_
    refine At.ktext (.q 0 (.q 1 .done)) ?_
    refine AtT.kmove ?_
    refine AtT.kneI ?_
    refine AtT.done ?_
    refine At.nrm ?_
    refine At.condT rfl (decide_eq_true he) ?_
    refine At.nrm ?_
    refine At.ktext (.q 0 (.q 1 .done)) ?_
    refine AtT.kmove ?_
    refine AtT.kassign ?_
    refine AtT.done ?_
    refine At.nrm ?_
    exact At.ret1 rfl (.tmp rfl) (by rw [apR_both he])
  cases hb : lstB l ps.length with
  | false =>
    refine At.ktext (.q 0 (.q 1 (.q 2 (.q 3 (.n false 4 (.q 5 (.q 6 (.q 7 (.q 8 (.q 9 .done)))))))))) ?_
    first | refine AtT.kloadOA tk25 ?_ | refine AtT.kloadA tk25 ?_ | refine AtT.kloadOP tk25 ?_
    refine AtT.kmove ?_
    refine AtT.kmove ?_
    refine AtT.kmove ?_
    refine AtT.kcallP rfl rfl ok57 (listed_arg hs hl he hb) ?_
    rintro _ rfl
    refine AtT.kmove ?_
    refine AtT.kextract ?_
    refine AtT.kextract ?_
    refine AtT.kassign ?_
    refine AtT.kassign ?_
    refine AtT.done ?_
    refine At.nrm ?_
    refine At.ktext (.q 0 (.q 1 .done)) ?_
    refine AtT.kmove ?_
    refine AtT.kneI ?_
    refine AtT.done ?_
    refine At.nrm ?_
    refine At.condT rfl rfl ?_
    refine At.nrm ?_
    refine At.ktext (.q 0 (.q 1 .done)) ?_
    refine AtT.kmove ?_
    refine AtT.kassign ?_
    refine AtT.done ?_
    refine At.nrm ?_
    exact At.ret1 rfl (.tmp rfl) (by rw [apR_arg he hb])
  | true =>
    have hk := bothE_ok he
    have hB := bn_ok hk sure
    have hn10 := hk.n10
    have hbl := bn_len d ps sure
    obtain ⟨hin, _⟩ := lst_in sure hb hk
    refine At.ktext (.q 0 (.q 1 (.q 2 (.q 3 (.n false 4 (.q 5 (.q 6 (.q 7 (.q 8 (.q 9 .done)))))))))) ?_
    first | refine AtT.kloadOA tk25 ?_ | refine AtT.kloadA tk25 ?_ | refine AtT.kloadOP tk25 ?_
    refine AtT.kmove ?_
    refine AtT.kmove ?_
    refine AtT.kmove ?_
    refine AtT.kcall rfl rfl ok57 (listed_ok hs hl he hb) ?_
    rintro _ V1 hV1 ⟨p, rfl, hpb⟩
    refine AtT.kmove ?_
    refine AtT.kextract ?_
    refine AtT.kextract ?_
    refine AtT.kassign ?_
    refine AtT.kassign ?_
    refine AtT.done ?_
    refine At.nrm ?_
    have hl1 := hl.le hV1
    refine At.ktext (.q 0 (.q 1 .done)) ?_
    refine AtT.kmove ?_
    refine AtT.kneI ?_
    refine AtT.done ?_
    refine At.nrm ?_
    refine At.condF rfl rfl ?_
    refine At.nrm ?_
    refine At.ktext (.q 0 (.q 1 (.n false 2 (.n true 3 .done)))) ?_
    refine AtT.kmove ?_
    refine AtT.kfn ?_
    refine AtT.kalloc z101 ?_
    intro b11
    first | refine AtT.kstore1 tk101 ?_ | refine AtT.kstoreA tk101 ?_
    refine AtT.done ?_
    refine At.nrm ?_
    refine At.giveB (b := b11) Pick.auto (fun V2 hV2 hb11 => ?_)
    have hl2 := hl1.le hV2
    have hpb2 := hpb.le hV2
    refine At.ktext (.q 0 (.q 1 (.q 2 .done))) ?_
    refine AtT.kmove ?_
    first | refine AtT.klenS Try.underlying27 ?_ | refine AtT.klenR Try.underlying27 ?_
    refine AtT.kmove ?_
    refine AtT.done ?_
    refine At.nrm ?_
    refine At.lp (ι := Nat) (KS := fun k => [(3, .slice al l.length cl), (11, .pointer (some ⟨b11, 0, none⟩)), (27, .slice al l.length cl), (28, iv l.length), (29, iv k)]) (OS := fun _ => [])
      (VS := fun k V' => Le V2 V' ∧ k ≤ l.length ∧ ∀ j, j < k → apRow (bn d ps sure) l j = true) (μ := fun k => l.length - k) 0 ?_ ?_ ?_ ?_
    · exact ⟨rfl, rfl, rfl, rfl, rfl, trivial⟩
    · exact Pt.auto
    · exact ⟨Le.refl _, Nat.zero_le _, fun j hj => absurd hj (Nat.not_lt_zero j)⟩
    · rintro k V' ks' O' ⟨hVV, hkl, hok⟩ hk2 hO hl3
      subst hk2 hO
      have hl' := hl2.le hVV
      refine At.nrm ?_
      refine At.ktext (.q 0 .done) ?_
      refine AtT.klss ?_
      refine AtT.done ?_
      refine At.nrm ?_
      refine At.condP rfl (fun hp => ?_) (fun hp => ?_)
      · obtain ⟨x, hx⟩ : ∃ x, l[k]? = some x := ⟨_, List.getElem?_eq_getElem (by omega)⟩
        have hgx : l.getD k 0 = x := by simp [List.getD, hx]
        refine At.nrm ?_
        refine At.ktext (.q 0 (.q 1 (.q 2 (.n false 3 (.q 4 (.n true 5 .done)))))) ?_
        refine AtT.kmove ?_
        refine AtT.kidx Try.underlying27 tk3 ?_
        intro p32 e32 he32 hc32
        obtain rfl : e32 = x := by have : l[k]? = some e32 := (by simpa using he32); rw [hx] at this; simpa using this.symm
        first | refine AtT.kloadO tk3 ?_ | refine AtT.kload tk3 ?_
        refine AtT.kalloc z3 ?_
        intro b13
        refine AtT.kassign ?_
        first | refine AtT.kstore1 tk3 ?_ | refine AtT.kstoreA tk3 ?_
        refine AtT.done ?_
        refine At.nrm ?_
        refine At.giveB (b := b13) Pick.auto (fun V3 hV3 hb13 => ?_)
        have hpb3 := (hpb2.le hVV).le hV3
        have hl3' := hl'.le hV3
        have q1 := ((cells_blk hb11).le hVV).le hV3
        have q2 := cells_blk hb13
        have tk : ((k : Int)).toNat = k := Int.toNat_natCast k
        refine At.ktext (.q 0 (.q 1 (.q 2 (.q 3 (.n false 4 .done))))) ?_
        refine AtT.kmove ?_
        refine AtT.kmove ?_
        refine AtT.khead Try.underlying27 tk3 ?_
        intro a36 c36 hs36
        refine AtT.kfn ?_
        refine AtT.kcallP rfl rfl ok88 (contains_n 89 [.pointer (some ⟨b11, 0, none⟩), .pointer (some ⟨b13, 0, none⟩)] (fun z => decide (fitE (bn d ps sure) (sumL (bn d ps sure) [z, e32]) = 0)) _ _ _ hs36 ok89 (fun z hz => shr89_f _ hB z e32 (hin z (List.mem_of_mem_take hz)) (hin e32 (List.mem_of_getElem? hx)) _ p _ _ hpb3 q1 q2)) ?_
        rintro _ rfl
        refine AtT.done ?_
        refine At.nrm ?_
        have han := apRow_any (B := bn d ps sure) (l := l) (i := k) (by omega)
        rw [hgx] at han
        refine At.cond rfl (fun hc => ?_) (fun hc => ?_)
        · rw [tk, han] at hc
          have hc' : apRow (bn d ps sure) l k = false := by simpa using hc
          refine At.nrm ?_
          refine At.ktext (.q 0 .done) ?_
          refine AtT.kassign ?_
          refine AtT.done ?_
          refine At.nrm ?_
          exact At.ret1 rfl (.tmp rfl) (by rw [apR_rule he hb (apB_false (k := k) (by omega) hc')])
        · rw [tk, han] at hc
          have hc' : apRow (bn d ps sure) l k = true := by simpa using hc
          refine At.nrm ?_
          refine At.ktext (.q 0 (.q 1 .done)) ?_
          first | refine AtT.kadd ?_ | refine AtT.kaddW ?_
          refine AtT.kmove ?_
          refine AtT.done ?_
          refine At.nrm ?_
          refine At.round (k + 1) ?_ ?_ ?_ ?_
          · show l.length - (k + 1) < l.length - k; omega
          · refine ⟨hVV.trans hV3, by omega, fun j hj => ?_⟩
            by_cases hjk : j = k
            · subst hjk; exact hc'
            · exact hok j (by omega)
          · exact ⟨rfl, rfl, rfl, rfl, ivs (by omega), trivial⟩
          · exact Pt.auto
      · obtain rfl : k = l.length := by omega
        refine At.nrm ?_
        refine At.ktext (.q 0 .done) ?_
        refine AtT.kassign ?_
        refine AtT.done ?_
        refine At.nrm ?_
        exact At.ret1 rfl (.tmp rfl) (by rw [apR_ok he hb (apB_true hok)])
/-- The list of those that are apart stays short. -/
theorem apG_in (B : Bn) : ∀ (t : Nat) (begun out : List Int), t ≤ B.each.length → begun.length + t ≤ B.each.length → out.length ≤ B.each.length → InB B begun → InB B out → InB B (apG B t begun out) ∧ (apG B t begun out).length ≤ B.each.length
  | 0, begun, out, _, _, h2, _, h4 => ⟨h4, h2⟩
  | t + 1, begun, out, h0, h1, h2, h3, h4 => by
    have hnew : InB B (begun ++ [(B.each.length : Int) - ((t + 1 : Nat) : Int)]) := fun i hi => by
      rcases List.mem_append.1 hi with h | h
      · exact h3 i h
      · rw [List.mem_singleton] at h; subst h; push_cast; omega
    have hln : (begun ++ [(B.each.length : Int) - ((t + 1 : Nat) : Int)]).length + t ≤ B.each.length := by rw [List.length_append]; simp only [List.length_cons, List.length_nil]; omega
    obtain ⟨a1, a2⟩ := apG_in B t (begun ++ [(B.each.length : Int) - ((t + 1 : Nat) : Int)]) (begun ++ [(B.each.length : Int) - ((t + 1 : Nat) : Int)]) (by omega) hln (by omega) hnew hnew
    simp only [apG]
    split
    · exact apG_in B t begun out (by omega) (by omega) h2 h3 h4
    · split
      · exact apG_in B t begun _ (by omega) (by omega) a2 h3 a1
      · exact apG_in B t begun out (by omega) (by omega) h2 h3 h4
theorem apart_f (B : Bn) (hB : BnOk B) : ∀ (t : Nat) (begun : List Int) (from' : Int) (V : View) (p : Addr) (vb : Value), (B.each.length : Int) - from' = t → 0 ≤ from' → begun.length + t ≤ B.each.length → InB B begun → BnV V p B → SlI V vb begun →
    Fnc Try.prog 84 [.pointer (some p), vb, iv from'] V fun r V' => SlI V' r (apG B t begun begun) := by
  intro t
  induction t using Nat.strongRecOn with
  | _ t ih =>
  intro begun from' V p vb hft hf0 hlen hin hb hs
  have n10 := hB.n10
  obtain ⟨a, c, rfl, k1, k2, _⟩ := id hs
  clear k1 k2
  refine fn_of Try.func84 rfl Try.ntmps84 (Nat.le_of_ble_eq_true rfl) ?_
  intro w0 hw0
  refine At.nrm ?_
  refine At.ktext (.n false 0 (.q 1 .done)) ?_
  refine AtT.kbox ?_
  intro b3
  refine AtT.kassign ?_
  refine AtT.done ?_
  refine At.nrm ?_
  refine At.ktext (.q 0 (.q 1 .done)) ?_
  refine AtT.kmove ?_
  refine AtT.kassign ?_
  refine AtT.done ?_
  refine At.nrm ?_
  refine At.ktext (.q 0 (.n false 1 (.n true 2 .done))) ?_
  refine AtT.kmove ?_
  refine AtT.kalloc z3 ?_
  intro b8
  first | refine AtT.kstore1 tk3 ?_ | refine AtT.kstoreA tk3 ?_
  refine AtT.done ?_
  refine At.nrm ?_
  refine At.giveB (b := b3) Pick.auto (fun V1 hV1 hb3 => ?_)
  refine At.lp (ι := Nat × List Int × Option Addr × Nat × Nat) (KS := fun g => [(1, .slice a begun.length c), (3, .pointer (some ⟨b3, 0, none⟩)), (7, .slice g.2.2.1 g.2.1.length g.2.2.2.1), (8, .pointer (some ⟨g.2.2.2.2, 0, none⟩))])
    (OS := fun g => [.blk g.2.2.2.2 (LC [iv ((B.each.length : Int) - (g.1 : Int))] 3)])
    (VS := fun g V' => Le V1 V' ∧ g.1 ≤ t ∧ SlI V' (.slice g.2.2.1 g.2.1.length g.2.2.2.1) g.2.1 ∧ apG B g.1 begun g.2.1 = apG B t begun begun ∧ g.2.1.length ≤ B.each.length) (μ := fun g => g.1) (t, begun, a, c, b8) ?_ ?_ ?_ ?_
  · exact ⟨rfl, rfl, rfl, rfl, trivial⟩
  · dsimp only
    rw [show (B.each.length : Int) - (t : Int) = from' by omega]
    · exact Pt.auto
  · exact ⟨Le.refl _, Nat.le_refl _, hs.le hV1, rfl, by dsimp only; omega⟩
  · rintro ⟨s, out, ao, co, b8⟩ V' ks' O' ⟨hVV, hst, hso, heq, hol⟩ hk2 hO hl3
    dsimp only at hst hso heq hk2 hO hol
    subst hk2 hO
    have hb' := (hb.le hV1).le hVV
    obtain ⟨ae, ce, hcel, hsel⟩ := hb'.each
    have c2 : Cells V' (p.add 2) [.slice ae B.each.length ce] := hcel.at (k := 2) fun j u hj => by
      match j, hj with
      | 0, hj => exact hj
    have q3 := (cells_blk hb3).le hVV
    have hs1 := (hs.le hV1).le hVV
    refine At.nrm ?_
    refine At.draw (.q 0 (.q 1 (.q 2 (.q 3 (.q 4 (.q 5 (.q 6 .done))))))) ffm (by kernel_rfl) ?_
    first | refine AtT.kloadO tk3 ?_ | refine AtT.kload tk3 ?_
    first | refine AtT.kloadO tk68 ?_ | refine AtT.kload tk68 ?_
    refine AtT.knil ?_
    first | refine AtT.kfieldO fo97_1 ?_ | with_reducible refine AtT.kfield2 fo97_1 ?_ | refine AtT.kfield fo97_1 ?_
    first | refine AtT.kloadO tk83 ?_ | refine AtT.kload tk83 ?_
    first | refine AtT.klenS Try.underlying83 ?_ | refine AtT.klenR Try.underlying83 ?_
    refine AtT.klss ?_
    refine AtT.done ?_
    refine At.nrm ?_
    refine At.condP rfl (fun hp => ?_) (fun hp => ?_)
    · obtain ⟨s, rfl⟩ : ∃ s', s = s' + 1 := ⟨s - 1, by omega⟩
      have hxi : 0 ≤ (B.each.length : Int) - ((s + 1 : Nat) : Int) ∧ (B.each.length : Int) - ((s + 1 : Nat) : Int) < (B.each.length : Int) := by push_cast; omega
      refine At.giveB (b := b8) Pick.auto (fun V2 hV2 hb8 => ?_)
      have q8 := cells_blk hb8
      have hb2 := hb'.le hV2
      have hs2 := hs1.le hV2
      have q3b := q3.le hV2
      have hg2 : Le V V2 := (hV1.trans hVV).trans hV2
      have hso2 := hso.le hV2
      simp only [apG] at heq
      obtain ⟨x, hxe⟩ : ∃ x, x = (B.each.length : Int) - ((s + 1 : Nat) : Int) := ⟨_, rfl⟩
      rw [← hxe] at hxi heq q8
      refine At.nrmB ?_
      refine At.cutG (ι := List Int × Option Addr × Nat) (fun g => [(1, .slice a begun.length c), (3, .pointer (some ⟨b3, 0, none⟩)), (7, .slice g.2.1 g.1.length g.2.2), (8, .pointer (some ⟨b8, 0, none⟩))]) (fun _ => [])
        (fun g V'' => Le V2 V'' ∧ SlI V'' (.slice g.2.1 g.1.length g.2.2) g.1 ∧ apG B s begun g.1 = apG B t begun begun ∧ g.1.length ≤ B.each.length) ?_ ?_
      · refine At.nrm ?_
        refine At.ktext (.q 0 (.q 1 (.n false 2 .done))) ?_
        refine AtT.kmove ?_
        refine AtT.kfn ?_
        refine AtT.kcallP rfl rfl ok88 (contains_n 105 [.pointer (some ⟨b3, 0, none⟩), .pointer (some ⟨b8, 0, none⟩)] (fun z => decide (fitE B (sumL B [z, x]) = 0)) _ _ _ hs2 ok105 (fun z hz => shr105_f B hB z x (hin z hz) hxi _ p _ _ hb2 q3b q8)) ?_
        rintro _ rfl
        refine AtT.done ?_
        refine At.nrm ?_
        refine At.cond rfl (fun hc => ?_) (fun hc => ?_)
        · have hsh : shrB B begun x = true := hc
          rw [if_pos hsh] at heq
          refine At.nrm ?_
          exact At.meetG (out, ao, co) ⟨Le.refl _, hso2, heq, hol⟩ ⟨rfl, rfl, rfl, rfl, trivial⟩ Pt.auto
        · have hsh : ¬ shrB B begun x = true := fun h => by rw [show shrB B begun x = false from hc] at h; cases h
          rw [if_neg hsh] at heq
          have hnin : InB B (begun ++ [x]) := fun i hi => by
            rcases List.mem_append.1 hi with h | h
            · exact hin i h
            · rw [List.mem_singleton] at h; subst h; exact hxi
          have hnl : (begun ++ [x]).length = begun.length + 1 := by simp
          have hap := apG_in B s (begun ++ [x]) (begun ++ [x]) (by omega) (by omega) (by omega) hnin hnin
          refine At.nrm ?_
          refine At.draw (.q 0 (.q 1 (.q 2 (.q 3 (.q 4 (.q 5 (.q 6 (.q 7 (.q 10 (.q 11 (.n false 8 (.n false 9 (.n false 12 (.q 13 .done)))))))))))))) ffm (by kernel_rfl) ?_
          first | refine AtT.kloadO tk68 ?_ | refine AtT.kload tk68 ?_
          refine AtT.kmove ?_
          refine AtT.kmove ?_
          first | refine AtT.klenS Try.underlying27 ?_ | refine AtT.klenR Try.underlying27 ?_
          refine AtT.kmove ?_
          first | refine AtT.klenS Try.underlying27 ?_ | refine AtT.klenR Try.underlying27 ?_
          first | refine AtT.kclipAll Try.underlying27 tk3 ?_ | refine AtT.kclip Try.underlying27 tk3 ?_
          intro a30 hs30
          first | refine AtT.kloadO tk3 ?_ | refine AtT.kload tk3 ?_
          first | refine AtT.kloadO tk3 ?_ | refine AtT.kload tk3 ?_
          first | refine AtT.kadd ?_ | refine AtT.kaddW ?_
          refine AtT.kbsliceG (bs27_1_0 _) ?_
          intro q32 V32 hV32 hq32
          have g32 : Le V V32 := by first | exact hV32 | exact Le.trans (by assumption) hV32
          refine AtT.appendC rfl trivial Try.underlying27 rw3 rfl (by decide) rfl (by first | assumption | exact Sl.le (by assumption) (by assumption)) rfl rfl (by first | assumption | exact Cells.le (by assumption) (by assumption)) (fun _ => rfl) (by simp) (by unfold maxLen; simp only [List.length_cons, List.length_nil]; omega) (by simp only [List.length_cons, List.length_nil]; omega) (by decide) (enc := ei) (m := [x]) ?_
          intro a33 c33 V33 hV33 hs33
          have g33 : Le V V33 := by first | exact hV33 | exact Le.trans (by assumption) hV33
          refine AtT.kcall rfl rfl ok84 (ih s (by omega) (begun ++ [x]) (x + 1) _ p _ (by omega) (by omega) (by omega) hnin (hb2.le (hV32.trans hV33)) hs33) ?_
          rintro v36 V36 hV36 hs36
          refine AtT.kassign ?_
          refine AtT.done ?_
          refine At.nrm ?_
          obtain ⟨a36, c36, rfl, _⟩ := id hs36
          have hVV2 := (hV32.trans hV33).trans hV36
          have hso3 := hso2.le hVV2
          refine At.ktext (.q 0 (.q 1 (.q 2 (.q 3 (.q 4 .done))))) ?_
          refine AtT.kmove ?_
          first | refine AtT.klenS Try.underlying27 ?_ | refine AtT.klenR Try.underlying27 ?_
          refine AtT.kmove ?_
          first | refine AtT.klenS Try.underlying27 ?_ | refine AtT.klenR Try.underlying27 ?_
          refine AtT.kgtr ?_
          refine AtT.done ?_
          refine At.nrm ?_
          refine At.condP rfl (fun hm => ?_) (fun hm => ?_)
          · rw [if_pos (by omega)] at heq
            refine At.nrm ?_
            refine At.ktext (.q 0 (.q 1 .done)) ?_
            refine AtT.kmove ?_
            refine AtT.kassign ?_
            refine AtT.done ?_
            refine At.nrm ?_
            exact At.meetG (apG B s (begun ++ [x]) (begun ++ [x]), a36, c36) ⟨hVV2, hs36, heq, hap.2⟩ ⟨rfl, rfl, rfl, rfl, trivial⟩ Pt.auto
          · rw [if_neg (by omega)] at heq
            refine At.nrm ?_
            exact At.meetG (out, ao, co) ⟨hVV2, hso3, heq, hol⟩ ⟨rfl, rfl, rfl, rfl, trivial⟩ Pt.auto
      rintro ⟨out2, ao2, co2⟩ V3 ks' O' ⟨hV3, hso3, heq3, hol3⟩ hk2 hO hl4
      dsimp only at hk2 hO hso3 heq3 hol3
      subst hk2 hO
      have q83 := q8.le hV3
      refine At.nrm ?_
      refine At.ktext (.q 0 .done) ?_
      first | refine AtT.kloadO tk3 ?_ | refine AtT.kload tk3 ?_
      refine AtT.done ?_
      refine At.nrm ?_
      refine At.ktext (.n false 0 (.n true 1 .done)) ?_
      refine AtT.kalloc z3 ?_
      intro b8
      first | refine AtT.kstore1 tk3 ?_ | refine AtT.kstoreA tk3 ?_
      refine AtT.done ?_
      refine At.nrm ?_
      refine At.ktext (.q 0 (.q 1 (.n true 2 .done))) ?_
      first | refine AtT.kloadO tk3 ?_ | refine AtT.kload tk3 ?_
      first | refine AtT.kadd ?_ | refine AtT.kaddW ?_
      first | refine AtT.kstore1 tk3 ?_ | refine AtT.kstoreA tk3 ?_
      refine AtT.done ?_
      refine At.nrm ?_
      refine At.round (s, out2, ao2, co2, b8) ?_ ?_ ?_ ?_
      · show s < s + 1; omega
      · exact ⟨(hVV.trans hV2).trans hV3, by dsimp only; omega, hso3, heq3, hol3⟩
      · exact ⟨rfl, rfl, rfl, rfl, trivial⟩
      dsimp only
      rw [show (B.each.length : Int) - (s : Int) = x + 1 by omega]
      · exact Pt.auto
    · obtain rfl : s = 0 := by omega
      refine At.nrm ?_
      refine At.ktext (.q 0 (.q 1 .done)) ?_
      refine AtT.kmove ?_
      refine AtT.kassign ?_
      refine AtT.done ?_
      refine At.nrm ?_
      refine At.ret1 rfl (.tmp rfl) ?_
      rw [← heq]; exact hso
theorem apartF_f (d : Dy) (ps : List Pn) (sure : Bool) (V : View) (v : Value) (hs : Sl V pne 3 v ps) : Fnc Try.prog 42 [dyv d, v, .bool sure] V fun r V' => ∃ u, r = .tuple #[u, iv (bothE d ps)] ∧ SlI V' u (if bothE d ps = 0 then apG (bn d ps sure) ps.length [] [] else []) := by
  refine fn_of Try.func42 rfl Try.ntmps42 (Nat.le_of_ble_eq_true rfl) ?_
  intro w0 hw0
  refine At.nrm ?_
  refine At.ktext (.n false 0 (.q 1 (.q 2 .done))) ?_
  refine AtT.kbox ?_
  intro b3
  refine AtT.kassign ?_
  refine AtT.kassign ?_
  refine AtT.done ?_
  refine At.nrm ?_
  by_cases he : bothE d ps = 0
  rotate_left
  · refine At.ktext (.q 0 (.q 1 (.q 2 (.n false 3 (.q 4 (.q 5 (.q 6 (.q 7 (.q 8 .done))))))))) ?_
    first | refine AtT.kloadOA tk25 ?_ | refine AtT.kloadA tk25 ?_ | refine AtT.kloadOP tk25 ?_
    refine AtT.kmove ?_
    refine AtT.kmove ?_
    refine AtT.kcallP rfl rfl ok80 (open_bad hs he) ?_
    rintro _ rfl
    refine AtT.kmove ?_
    refine AtT.kextract ?_
    refine AtT.kextract ?_
    refine AtT.kassign ?_
    refine AtT.kassign ?_
    refine AtT.done ?_
    refine At.nrm ?_
    refine At.ktext (.q 0 (.q 1 .done)) ?_
    refine AtT.kmove ?_
    refine AtT.kneI ?_
    refine AtT.done ?_
    refine At.nrm ?_
    refine At.condT rfl (decide_eq_true he) ?_
    refine At.nrm ?_
    refine At.ktext (.q 0 (.q 1 (.q 2 .done))) ?_
    refine AtT.kmove ?_
    refine AtT.kassign ?_
    refine AtT.kassign ?_
    refine AtT.done ?_
    refine At.nrm ?_
    exact At.ret2 rfl (.tmp rfl) (.tmp rfl) ⟨_, rfl, by rw [if_neg he]; exact Sl.nil _ _ _⟩
  have hk := bothE_ok he
  have hB := bn_ok hk sure
  have hn10 := hk.n10
  have hbl := bn_len d ps sure
  refine At.ktext (.q 0 (.q 1 (.q 2 (.n false 3 (.q 4 (.q 5 (.q 6 (.q 7 (.q 8 .done))))))))) ?_
  first | refine AtT.kloadOA tk25 ?_ | refine AtT.kloadA tk25 ?_ | refine AtT.kloadOP tk25 ?_
  refine AtT.kmove ?_
  refine AtT.kmove ?_
  refine AtT.kcall rfl rfl ok80 (open_ok hs he) ?_
  rintro _ V1 hV1 ⟨p, rfl, hpb⟩
  refine AtT.kmove ?_
  refine AtT.kextract ?_
  refine AtT.kextract ?_
  refine AtT.kassign ?_
  refine AtT.kassign ?_
  refine AtT.done ?_
  refine At.nrm ?_
  refine At.ktext (.q 0 (.q 1 .done)) ?_
  refine AtT.kmove ?_
  refine AtT.kneI ?_
  refine AtT.done ?_
  refine At.nrm ?_
  refine At.condF rfl rfl ?_
  refine At.nrm ?_
  refine At.ktext (.q 0 (.n false 1 (.q 2 (.q 3 .done)))) ?_
  refine AtT.kmove ?_
  refine AtT.kcall rfl rfl ok84 (apart_f _ hB ps.length [] 0 _ p _ (by omega) (by omega) (by simp; omega) (fun i hi => by cases hi) hpb (Sl.nil _ _ _)) ?_
  rintro v21 V21 hV21 hs21
  refine AtT.kassign ?_
  refine AtT.kassign ?_
  refine AtT.done ?_
  refine At.nrm ?_
  exact At.ret2 rfl (.tmp rfl) (.tmp rfl) ⟨_, by rw [he], by rw [if_pos he]; exact hs21⟩
theorem rapart_f (d : Dy) (ps : List Pn) (sure : Bool) (V : View) (v : Value) (hs : Sl V pne 3 v ps) : Fnc Try.prog 43 [dyv d, v, .bool sure] V fun r V' => ∃ u, r = .tuple #[u, iv (bothE d ps)] ∧ SlI V' u (if bothE d ps = 0 then apK (bn d ps sure) (2 ^ ps.length) else []) := by
  obtain ⟨a, c, rfl, k1, k2, _⟩ := id hs
  clear k1 k2
  refine fn_of Try.func43 rfl Try.ntmps43 (Nat.le_of_ble_eq_true rfl) ?_
  intro w0 hw0
  refine At.nrm ?_
  refine At.ktext (.n false 0 (.q 1 (.q 2 .done))) ?_
  refine AtT.kbox ?_
  intro b3
  refine AtT.kassign ?_
  refine AtT.kassign ?_
  refine AtT.done ?_
  refine At.nrm ?_
  refine At.ktext (.q 0 (.q 1 (.n false 2 (.q 3 .done)))) ?_
  first | refine AtT.kloadOA tk25 ?_ | refine AtT.kloadA tk25 ?_ | refine AtT.kloadOP tk25 ?_
  refine AtT.kmove ?_
  refine AtT.kcallP rfl rfl ok60 (both_f d ps _ _ hs) ?_
  rintro _ rfl
  refine AtT.kneI ?_
  refine AtT.done ?_
  refine At.nrm ?_
  refine At.condP rfl (fun he => ?_) (fun he => ?_)
  · refine At.nrm ?_
    refine At.ktext (.q 0 (.q 1 (.n false 2 (.q 3 (.q 4 .done))))) ?_
    first | refine AtT.kloadOA tk25 ?_ | refine AtT.kloadA tk25 ?_ | refine AtT.kloadOP tk25 ?_
    refine AtT.kmove ?_
    refine AtT.kcallP rfl rfl ok60 (both_f d ps _ _ hs) ?_
    rintro _ rfl
    refine AtT.kassign ?_
    refine AtT.kassign ?_
    refine AtT.done ?_
    refine At.nrm ?_
    exact At.ret2 rfl (.tmp rfl) (.tmp rfl) ⟨_, rfl, by rw [if_neg he]; exact Sl.nil _ _ _⟩
  have he' : bothE d ps = 0 := Decidable.not_not.1 he
  have hk := bothE_ok he'
  have hB := bn_ok hk sure
  have hn10 := hk.n10
  have hbl := bn_len d ps sure
  have hpow : 2 ^ ps.length ≤ 1024 := Nat.pow_le_pow_right (n := 2) (by decide) hn10
  refine At.nrm ?_
  refine At.ktext (.q 0 .done) ?_
  refine AtT.kassign ?_
  refine AtT.done ?_
  refine At.nrm ?_
  refine At.ktext (.q 0 .done) ?_
  refine AtT.kassign ?_
  refine AtT.done ?_
  refine At.nrm ?_
  refine At.lp (ι := Nat × Option Addr × Nat) (KS := fun g => [(1, .slice a ps.length c), (2, .bool sure), (3, .pointer (some ⟨b3, 0, none⟩)), (8, .slice g.2.1 (apK (bn d ps sure) g.1).length g.2.2), (9, iv g.1)]) (OS := fun _ => [.blk b3 (LC (dye d) 25)])
    (VS := fun g V' => Le V V' ∧ g.1 ≤ 2 ^ ps.length ∧ SlI V' (.slice g.2.1 (apK (bn d ps sure) g.1).length g.2.2) (apK (bn d ps sure) g.1)) (μ := fun g => 2 ^ ps.length - g.1) (0, none, 0) ?_ ?_ ?_ ?_
  · exact ⟨rfl, rfl, rfl, rfl, rfl, trivial⟩
  · exact Pt.auto
  · exact ⟨Le.refl _, Nat.zero_le _, Sl.nil _ _ _⟩
  · rintro ⟨k, ao, co⟩ V' ks' O' ⟨hVV, hkl, hso⟩ hk2 hO hl2
    dsimp only at hkl hk2 hO hso
    subst hk2 hO
    have hs' := hs.le hVV
    refine At.nrm ?_
    refine At.ktext (.q 0 (.q 1 (.q 2 (.q 3 (.q 4 .done))))) ?_
    refine AtT.kmove ?_
    refine AtT.kmove ?_
    first | refine AtT.klenS Try.underlying26 ?_ | refine AtT.klenR Try.underlying26 ?_
    refine AtT.shlN rfl trivial rfl rfl rfl (by omega) (by decide) (N := ps.length) ?_
    refine AtT.klss ?_
    refine AtT.done ?_
    refine At.nrm ?_
    refine At.condP rfl (fun hp => ?_) (fun hp => ?_)
    · have hkp : k < 2 ^ ps.length := by omega
      have hbi : InB (bn d ps sure) (bitL k ps.length) := by
        have key : ∀ n, n ≤ ps.length → ∀ i ∈ bitL k n, 0 ≤ i ∧ i < (n : Int) := by
          intro n
          induction n with
          | zero => intro _ i hi; cases hi
          | succ n ihn =>
            intro hn i hi
            simp only [bitL] at hi
            split at hi
            · rcases List.mem_append.1 hi with h | h
              · have := ihn (by omega) i h; push_cast; omega
              · rw [List.mem_singleton] at h; subst h; push_cast; omega
            · have := ihn (by omega) i hi; push_cast; omega
        intro i hi
        rw [hbl]; exact key _ (Nat.le_refl _) i hi
      have hbn := bitL_len k ps.length
      obtain ⟨lb, hlb⟩ : ∃ lb, lb = bitL k ps.length := ⟨_, rfl⟩
      have hstep : apK (bn d ps sure) (k + 1) = if apB (bn d ps sure) lb = true ∧ ((apK (bn d ps sure) k).length < lb.length ∨ lb.length = (apK (bn d ps sure) k).length ∧ befB lb (apK (bn d ps sure) k) = true) then lb else apK (bn d ps sure) k := by
        rw [apK, hbl, ← hlb]
      refine At.nrm ?_
      refine At.ktext (.q 0 (.q 1 (.q 2 (.n false 3 (.q 4 .done))))) ?_
      refine AtT.kmove ?_
      refine AtT.kmove ?_
      first | refine AtT.klenS Try.underlying26 ?_ | refine AtT.klenR Try.underlying26 ?_
      refine AtT.kcall rfl rfl ok49 (bits_f k ps.length (by omega) (by omega) _) ?_
      rintro v28 V28 hV28 hs28
      refine AtT.kassign ?_
      refine AtT.done ?_
      refine At.nrm ?_
      rw [← hlb] at hs28 hbi hbn
      obtain ⟨a28, c28, rfl, _⟩ := id hs28
      have hs3 := hs'.le hV28
      have hso3 := hso.le hV28
      refine At.cutG (ι := Unit) (fun _ => [(1, .slice a ps.length c), (2, .bool sure), (3, .pointer (some ⟨b3, 0, none⟩)), (8, .slice ao (apK (bn d ps sure) k).length co), (9, iv k), (10, .slice a28 lb.length c28), (52, .bool (decide (apB (bn d ps sure) lb = true ∧ ((apK (bn d ps sure) k).length < lb.length ∨ lb.length = (apK (bn d ps sure) k).length ∧ befB lb (apK (bn d ps sure) k) = true))))])
        (fun _ => [.blk b3 (LC (dye d) 25)]) (fun _ V'' => V28 = V'') ?_ ?_
      · cases h1 : apB (bn d ps sure) lb with
        | false =>
          refine At.ktext (.q 0 (.q 1 (.q 2 (.q 3 (.n false 4 (.q 5 (.q 6 (.q 7 (.q 8 (.q 9 (.q 10 (.q 11 (.q 12 (.q 13 (.q 14 (.q 15 (.q 16 (.q 17 (.q 18 (.q 19 (.n false 20 (.q 21 (.q 22 (.q 23 .done)))))))))))))))))))))))) ?_
          first | refine AtT.kloadOA tk25 ?_ | refine AtT.kloadA tk25 ?_ | refine AtT.kloadOP tk25 ?_
          refine AtT.kmove ?_
          refine AtT.kmove ?_
          refine AtT.kmove ?_
          refine AtT.kcallP rfl rfl ok85 (isApart_f d ps sure lb hk hbi _ _ _ hs3 hs28) ?_
          rintro _ rfl
          refine AtT.setB (d := 33) rfl (h1) ?_
          refine AtT.kmove ?_
          all_goals (first | refine AtT.kL 34 ?_ | refine AtT.pcase (d := 34) rfl (fun hg34 => ?_) (fun hg34 => ?_) | refine AtT.bcase (d := 34) rfl (fun hg34 => ?_) (fun hg34 => ?_))
          all_goals (first | refine AtT.kpass ?_ | refine AtT.kpassU ?_ | ((refine AtT.kmove ?_)))
          all_goals (first | refine AtT.kpass ?_ | refine AtT.kpassU ?_ | ((first | refine AtT.klenS Try.underlying27 ?_ | refine AtT.klenR Try.underlying27 ?_)))
          all_goals (first | refine AtT.kpass ?_ | refine AtT.kpassU ?_ | ((refine AtT.kmove ?_)))
          all_goals (first | refine AtT.kpass ?_ | refine AtT.kpassU ?_ | ((first | refine AtT.klenS Try.underlying27 ?_ | refine AtT.klenR Try.underlying27 ?_)))
          all_goals (first | refine AtT.kpass ?_ | refine AtT.kpassU ?_ | ((refine AtT.kgtr ?_)))
          all_goals (first | refine AtT.kpass ?_ | refine AtT.kpassU ?_ | ((refine AtT.kmove ?_)))
          all_goals (first | refine AtT.kL 40 ?_ | refine AtT.pcase (d := 40) rfl (fun hg40 => ?_) (fun hg40 => ?_) | refine AtT.bcase (d := 40) rfl (fun hg40 => ?_) (fun hg40 => ?_))
          all_goals (first | refine AtT.kpass ?_ | refine AtT.kpassU ?_ | ((refine AtT.kmove ?_)))
          all_goals (first | refine AtT.kpass ?_ | refine AtT.kpassU ?_ | ((first | refine AtT.klenS Try.underlying27 ?_ | refine AtT.klenR Try.underlying27 ?_)))
          all_goals (first | refine AtT.kpass ?_ | refine AtT.kpassU ?_ | ((refine AtT.kmove ?_)))
          all_goals (first | refine AtT.kpass ?_ | refine AtT.kpassU ?_ | ((first | refine AtT.klenS Try.underlying27 ?_ | refine AtT.klenR Try.underlying27 ?_)))
          all_goals (first | refine AtT.kpass ?_ | refine AtT.kpassU ?_ | ((refine AtT.keqI ?_)))
          all_goals (first | refine AtT.kpass ?_ | refine AtT.kpassU ?_ | ((refine AtT.kmove ?_)))
          all_goals (first | refine AtT.kL 46 ?_ | refine AtT.pcase (d := 46) rfl (fun hg46 => ?_) (fun hg46 => ?_) | refine AtT.bcase (d := 46) rfl (fun hg46 => ?_) (fun hg46 => ?_))
          all_goals (first | refine AtT.kpass ?_ | refine AtT.kpassU ?_ | ((refine AtT.kmove ?_)))
          all_goals (first | refine AtT.kpass ?_ | refine AtT.kpassU ?_ | ((refine AtT.kmove ?_)))
          all_goals (first | refine AtT.kpassN ?_ | refine AtT.kpassNU ?_ | ((fail)))
          all_goals (first | refine AtT.kpass ?_ | refine AtT.kpassU ?_ | ((refine AtT.kpick ?_)))
          all_goals (first | refine AtT.kpass ?_ | refine AtT.kpassU ?_ | ((refine AtT.kpick ?_)))
          all_goals (refine AtT.kpick ?_)
          all_goals refine AtT.done ?_
          all_goals (refine At.nrm ?_)
          exact At.meetG () rfl ⟨rfl, rfl, rfl, rfl, rfl, rfl, bsome (by simp), trivial⟩ Pt.auto
        | true =>
          by_cases h2 : (apK (bn d ps sure) k).length < lb.length
          · refine At.ktext (.q 0 (.q 1 (.q 2 (.q 3 (.n false 4 (.q 5 (.q 6 (.q 7 (.q 8 (.q 9 (.q 10 (.q 11 (.q 12 (.q 13 (.q 14 (.q 15 (.q 16 (.q 17 (.q 18 (.q 19 (.n false 20 (.q 21 (.q 22 (.q 23 .done)))))))))))))))))))))))) ?_
            first | refine AtT.kloadOA tk25 ?_ | refine AtT.kloadA tk25 ?_ | refine AtT.kloadOP tk25 ?_
            refine AtT.kmove ?_
            refine AtT.kmove ?_
            refine AtT.kmove ?_
            refine AtT.kcallP rfl rfl ok85 (isApart_f d ps sure lb hk hbi _ _ _ hs3 hs28) ?_
            rintro _ rfl
            refine AtT.setB (d := 33) rfl (h1) ?_
            refine AtT.kmove ?_
            all_goals (first | refine AtT.kL 34 ?_ | refine AtT.pcase (d := 34) rfl (fun hg34 => ?_) (fun hg34 => ?_) | refine AtT.bcase (d := 34) rfl (fun hg34 => ?_) (fun hg34 => ?_))
            all_goals (first | refine AtT.kpass ?_ | refine AtT.kpassU ?_ | ((refine AtT.kmove ?_)))
            all_goals (first | refine AtT.kpass ?_ | refine AtT.kpassU ?_ | ((first | refine AtT.klenS Try.underlying27 ?_ | refine AtT.klenR Try.underlying27 ?_)))
            all_goals (first | refine AtT.kpass ?_ | refine AtT.kpassU ?_ | ((refine AtT.kmove ?_)))
            all_goals (first | refine AtT.kpass ?_ | refine AtT.kpassU ?_ | ((first | refine AtT.klenS Try.underlying27 ?_ | refine AtT.klenR Try.underlying27 ?_)))
            all_goals (first | refine AtT.kpass ?_ | refine AtT.kpassU ?_ | ((refine AtT.kgtr ?_)))
            all_goals (refine AtT.setT (d := 39) rfl ((by omega)) ?_)
            all_goals (first | refine AtT.kpass ?_ | refine AtT.kpassU ?_ | ((refine AtT.kmove ?_)))
            all_goals (first | refine AtT.kL 40 ?_ | refine AtT.pcase (d := 40) rfl (fun hg40 => ?_) (fun hg40 => ?_) | refine AtT.bcase (d := 40) rfl (fun hg40 => ?_) (fun hg40 => ?_))
            all_goals (first | refine AtT.kpass ?_ | refine AtT.kpassU ?_ | ((refine AtT.kmove ?_)))
            all_goals (first | refine AtT.kpass ?_ | refine AtT.kpassU ?_ | ((first | refine AtT.klenS Try.underlying27 ?_ | refine AtT.klenR Try.underlying27 ?_)))
            all_goals (first | refine AtT.kpass ?_ | refine AtT.kpassU ?_ | ((refine AtT.kmove ?_)))
            all_goals (first | refine AtT.kpass ?_ | refine AtT.kpassU ?_ | ((first | refine AtT.klenS Try.underlying27 ?_ | refine AtT.klenR Try.underlying27 ?_)))
            all_goals (first | refine AtT.kpass ?_ | refine AtT.kpassU ?_ | ((refine AtT.keqI ?_)))
            all_goals (first | refine AtT.kpass ?_ | refine AtT.kpassU ?_ | ((refine AtT.kmove ?_)))
            all_goals (first | refine AtT.kL 46 ?_ | refine AtT.pcase (d := 46) rfl (fun hg46 => ?_) (fun hg46 => ?_) | refine AtT.bcase (d := 46) rfl (fun hg46 => ?_) (fun hg46 => ?_))
            all_goals (first | refine AtT.kpass ?_ | refine AtT.kpassU ?_ | ((refine AtT.kmove ?_)))
            all_goals (first | refine AtT.kpass ?_ | refine AtT.kpassU ?_ | ((refine AtT.kmove ?_)))
            all_goals (first | refine AtT.kpassN ?_ | refine AtT.kpassNU ?_ | ((fail)))
            all_goals (first | refine AtT.kpass ?_ | refine AtT.kpassU ?_ | ((refine AtT.kpick ?_)))
            all_goals (first | refine AtT.kpass ?_ | refine AtT.kpassU ?_ | ((refine AtT.kpick ?_)))
            all_goals (refine AtT.kpick ?_)
            all_goals refine AtT.done ?_
            all_goals (refine At.nrm ?_)
            exact At.meetG () rfl ⟨rfl, rfl, rfl, rfl, rfl, rfl, bsome (by simp [h2]), trivial⟩ Pt.auto
          · by_cases h3 : lb.length = (apK (bn d ps sure) k).length
            · refine At.ktext (.q 0 (.q 1 (.q 2 (.q 3 (.n false 4 (.q 5 (.q 6 (.q 7 (.q 8 (.q 9 (.q 10 (.q 11 (.q 12 (.q 13 (.q 14 (.q 15 (.q 16 (.q 17 (.q 18 (.q 19 (.n false 20 (.q 21 (.q 22 (.q 23 .done)))))))))))))))))))))))) ?_
              first | refine AtT.kloadOA tk25 ?_ | refine AtT.kloadA tk25 ?_ | refine AtT.kloadOP tk25 ?_
              refine AtT.kmove ?_
              refine AtT.kmove ?_
              refine AtT.kmove ?_
              refine AtT.kcallP rfl rfl ok85 (isApart_f d ps sure lb hk hbi _ _ _ hs3 hs28) ?_
              rintro _ rfl
              refine AtT.setB (d := 33) rfl (h1) ?_
              refine AtT.kmove ?_
              all_goals (first | refine AtT.kL 34 ?_ | refine AtT.pcase (d := 34) rfl (fun hg34 => ?_) (fun hg34 => ?_) | refine AtT.bcase (d := 34) rfl (fun hg34 => ?_) (fun hg34 => ?_))
              all_goals (first | refine AtT.kpass ?_ | refine AtT.kpassU ?_ | ((refine AtT.kmove ?_)))
              all_goals (first | refine AtT.kpass ?_ | refine AtT.kpassU ?_ | ((first | refine AtT.klenS Try.underlying27 ?_ | refine AtT.klenR Try.underlying27 ?_)))
              all_goals (first | refine AtT.kpass ?_ | refine AtT.kpassU ?_ | ((refine AtT.kmove ?_)))
              all_goals (first | refine AtT.kpass ?_ | refine AtT.kpassU ?_ | ((first | refine AtT.klenS Try.underlying27 ?_ | refine AtT.klenR Try.underlying27 ?_)))
              all_goals (first | refine AtT.kpass ?_ | refine AtT.kpassU ?_ | ((refine AtT.kgtr ?_)))
              all_goals (refine AtT.setF (d := 39) rfl ((by omega)) ?_)
              all_goals (first | refine AtT.kpass ?_ | refine AtT.kpassU ?_ | ((refine AtT.kmove ?_)))
              all_goals (first | refine AtT.kL 40 ?_ | refine AtT.pcase (d := 40) rfl (fun hg40 => ?_) (fun hg40 => ?_) | refine AtT.bcase (d := 40) rfl (fun hg40 => ?_) (fun hg40 => ?_))
              all_goals (first | refine AtT.kpass ?_ | refine AtT.kpassU ?_ | ((refine AtT.kmove ?_)))
              all_goals (first | refine AtT.kpass ?_ | refine AtT.kpassU ?_ | ((first | refine AtT.klenS Try.underlying27 ?_ | refine AtT.klenR Try.underlying27 ?_)))
              all_goals (first | refine AtT.kpass ?_ | refine AtT.kpassU ?_ | ((refine AtT.kmove ?_)))
              all_goals (first | refine AtT.kpass ?_ | refine AtT.kpassU ?_ | ((first | refine AtT.klenS Try.underlying27 ?_ | refine AtT.klenR Try.underlying27 ?_)))
              all_goals (first | refine AtT.kpass ?_ | refine AtT.kpassU ?_ | ((refine AtT.keqI ?_)))
              all_goals (refine AtT.setT (d := 45) rfl ((by omega)) ?_)
              all_goals (first | refine AtT.kpass ?_ | refine AtT.kpassU ?_ | ((refine AtT.kmove ?_)))
              all_goals (first | refine AtT.kL 46 ?_ | refine AtT.pcase (d := 46) rfl (fun hg46 => ?_) (fun hg46 => ?_) | refine AtT.bcase (d := 46) rfl (fun hg46 => ?_) (fun hg46 => ?_))
              all_goals (first | refine AtT.kpass ?_ | refine AtT.kpassU ?_ | ((refine AtT.kmove ?_)))
              all_goals (first | refine AtT.kpass ?_ | refine AtT.kpassU ?_ | ((refine AtT.kmove ?_)))
              all_goals (first | refine AtT.kpassN ?_ | refine AtT.kpassNU ?_ | ((refine AtT.kcallP rfl rfl ok86 (before_f lb (apK (bn d ps sure) k) _ _ _ hs28 hso3) ?_) ; (rintro _ rfl)))
              all_goals (first | refine AtT.kpass ?_ | refine AtT.kpassU ?_ | ((refine AtT.kpick ?_)))
              all_goals (first | refine AtT.kpass ?_ | refine AtT.kpassU ?_ | ((refine AtT.kpick ?_)))
              all_goals (refine AtT.kpick ?_)
              all_goals refine AtT.done ?_
              all_goals (refine At.nrm ?_)
              exact At.meetG () rfl ⟨rfl, rfl, rfl, rfl, rfl, rfl, bsome (by simp [h3]), trivial⟩ Pt.auto
            · refine At.ktext (.q 0 (.q 1 (.q 2 (.q 3 (.n false 4 (.q 5 (.q 6 (.q 7 (.q 8 (.q 9 (.q 10 (.q 11 (.q 12 (.q 13 (.q 14 (.q 15 (.q 16 (.q 17 (.q 18 (.q 19 (.n false 20 (.q 21 (.q 22 (.q 23 .done)))))))))))))))))))))))) ?_
              first | refine AtT.kloadOA tk25 ?_ | refine AtT.kloadA tk25 ?_ | refine AtT.kloadOP tk25 ?_
              refine AtT.kmove ?_
              refine AtT.kmove ?_
              refine AtT.kmove ?_
              refine AtT.kcallP rfl rfl ok85 (isApart_f d ps sure lb hk hbi _ _ _ hs3 hs28) ?_
              rintro _ rfl
              refine AtT.setB (d := 33) rfl (h1) ?_
              refine AtT.kmove ?_
              all_goals (first | refine AtT.kL 34 ?_ | refine AtT.pcase (d := 34) rfl (fun hg34 => ?_) (fun hg34 => ?_) | refine AtT.bcase (d := 34) rfl (fun hg34 => ?_) (fun hg34 => ?_))
              all_goals (first | refine AtT.kpass ?_ | refine AtT.kpassU ?_ | ((refine AtT.kmove ?_)))
              all_goals (first | refine AtT.kpass ?_ | refine AtT.kpassU ?_ | ((first | refine AtT.klenS Try.underlying27 ?_ | refine AtT.klenR Try.underlying27 ?_)))
              all_goals (first | refine AtT.kpass ?_ | refine AtT.kpassU ?_ | ((refine AtT.kmove ?_)))
              all_goals (first | refine AtT.kpass ?_ | refine AtT.kpassU ?_ | ((first | refine AtT.klenS Try.underlying27 ?_ | refine AtT.klenR Try.underlying27 ?_)))
              all_goals (first | refine AtT.kpass ?_ | refine AtT.kpassU ?_ | ((refine AtT.kgtr ?_)))
              all_goals (refine AtT.setF (d := 39) rfl ((by omega)) ?_)
              all_goals (first | refine AtT.kpass ?_ | refine AtT.kpassU ?_ | ((refine AtT.kmove ?_)))
              all_goals (first | refine AtT.kL 40 ?_ | refine AtT.pcase (d := 40) rfl (fun hg40 => ?_) (fun hg40 => ?_) | refine AtT.bcase (d := 40) rfl (fun hg40 => ?_) (fun hg40 => ?_))
              all_goals (first | refine AtT.kpass ?_ | refine AtT.kpassU ?_ | ((refine AtT.kmove ?_)))
              all_goals (first | refine AtT.kpass ?_ | refine AtT.kpassU ?_ | ((first | refine AtT.klenS Try.underlying27 ?_ | refine AtT.klenR Try.underlying27 ?_)))
              all_goals (first | refine AtT.kpass ?_ | refine AtT.kpassU ?_ | ((refine AtT.kmove ?_)))
              all_goals (first | refine AtT.kpass ?_ | refine AtT.kpassU ?_ | ((first | refine AtT.klenS Try.underlying27 ?_ | refine AtT.klenR Try.underlying27 ?_)))
              all_goals (first | refine AtT.kpass ?_ | refine AtT.kpassU ?_ | ((refine AtT.keqI ?_)))
              all_goals (refine AtT.setF (d := 45) rfl ((by omega)) ?_)
              all_goals (first | refine AtT.kpass ?_ | refine AtT.kpassU ?_ | ((refine AtT.kmove ?_)))
              all_goals (first | refine AtT.kL 46 ?_ | refine AtT.pcase (d := 46) rfl (fun hg46 => ?_) (fun hg46 => ?_) | refine AtT.bcase (d := 46) rfl (fun hg46 => ?_) (fun hg46 => ?_))
              all_goals (first | refine AtT.kpass ?_ | refine AtT.kpassU ?_ | ((refine AtT.kmove ?_)))
              all_goals (first | refine AtT.kpass ?_ | refine AtT.kpassU ?_ | ((refine AtT.kmove ?_)))
              all_goals (first | refine AtT.kpassN ?_ | refine AtT.kpassNU ?_ | ((fail)))
              all_goals (first | refine AtT.kpass ?_ | refine AtT.kpassU ?_ | ((refine AtT.kpick ?_)))
              all_goals (first | refine AtT.kpass ?_ | refine AtT.kpassU ?_ | ((refine AtT.kpick ?_)))
              all_goals (refine AtT.kpick ?_)
              all_goals refine AtT.done ?_
              all_goals (refine At.nrm ?_)
              exact At.meetG () rfl ⟨rfl, rfl, rfl, rfl, rfl, rfl, bsome (by simp [h2, h3]), trivial⟩ Pt.auto
      rintro _ V3 ks' O' rfl hk2 hO hl3
      subst hk2 hO
      refine At.nrm ?_
      refine At.condP rfl (fun hc => ?_) (fun hc => ?_)
      · rw [if_pos hc] at hstep
        refine At.nrm ?_
        refine At.ktext (.q 0 (.q 1 .done)) ?_
        refine AtT.kmove ?_
        refine AtT.kassign ?_
        refine AtT.done ?_
        refine At.nrm ?_
        refine At.ktext (.q 0 (.q 1 (.q 2 .done))) ?_
        refine AtT.kmove ?_
        first | refine AtT.kadd ?_ | refine AtT.kaddW ?_
        refine AtT.kassign ?_
        refine AtT.done ?_
        refine At.nrm ?_
        refine At.round (k + 1, a28, c28) ?_ ?_ ?_ ?_
        · show 2 ^ ps.length - (k + 1) < 2 ^ ps.length - k; omega
        · exact ⟨hVV.trans hV28, by dsimp only; omega, by dsimp only; rw [hstep]; exact hs28⟩
        · dsimp only; rw [hstep]; exact ⟨rfl, rfl, rfl, rfl, ivs (by omega), trivial⟩
        · exact Pt.auto
      · rw [if_neg hc] at hstep
        refine At.nrm ?_
        refine At.ktext (.q 0 (.q 1 (.q 2 .done))) ?_
        refine AtT.kmove ?_
        first | refine AtT.kadd ?_ | refine AtT.kaddW ?_
        refine AtT.kassign ?_
        refine AtT.done ?_
        refine At.nrm ?_
        refine At.round (k + 1, ao, co) ?_ ?_ ?_ ?_
        · show 2 ^ ps.length - (k + 1) < 2 ^ ps.length - k; omega
        · exact ⟨hVV.trans hV28, by dsimp only; omega, by dsimp only; rw [hstep]; exact hso3⟩
        · dsimp only; rw [hstep]; exact ⟨rfl, rfl, rfl, rfl, ivs (by omega), trivial⟩
        · exact Pt.auto
    · obtain rfl : k = 2 ^ ps.length := by omega
      refine At.nrm ?_
      refine At.ktext (.q 0 (.q 1 (.q 2 .done))) ?_
      refine AtT.kmove ?_
      refine AtT.kassign ?_
      refine AtT.kassign ?_
      refine AtT.done ?_
      refine At.nrm ?_
      exact At.ret2 rfl (.tmp rfl) (.tmp rfl) ⟨_, by rw [he'], by rw [if_pos he']; exact hso⟩
end Go.Proofs.Ytmnbkceiaifncaa
namespace Go.Gl
/-- The first good plan of at most so many batches that begins with some numbers, and has so many more. -/
def goL (B : Bn) : Nat → List Int → Int → Option (List Int)
  | 0, begun, _ => some begun
  | t + 1, begun, most => (List.range (min (batN begun + 1) most).toNat).findSome? fun (k : Nat) => if fitE B (sumL B (ofL (begun ++ [(k : Int)]) (k : Int))) ≠ 0 then none else goL B t (begun ++ [(k : Int)]) most
def goF (B : Bn) (t : Nat) (begun : List Int) (most : Int) (k : Nat) : Option (List Int) := if fitE B (sumL B (ofL (begun ++ [(k : Int)]) (k : Int))) ≠ 0 then none else goL B t (begun ++ [(k : Int)]) most
theorem goL_succ (B : Bn) (t : Nat) (begun : List Int) (most : Int) : goL B (t + 1) begun most = (List.range (min (batN begun + 1) most).toNat).findSome? (goF B t begun most) := rfl
theorem fs_hit {α : Type} {f : Nat → Option α} {m k : Nat} {x : α} (hk : k < m) (h : ∀ j, j < k → f j = none) (hx : f k = some x) : (List.range m).findSome? f = some x := by
  induction m with
  | zero => omega
  | succ m ih =>
    rw [List.range_succ, List.findSome?_append]
    by_cases c : k = m
    · subst c
      have : (List.range k).findSome? f = none := by rw [List.findSome?_eq_none_iff]; intro j hj; exact h j (List.mem_range.1 hj)
      rw [this]; simp [hx]
    · rw [ih (by omega)]; rfl
theorem fs_none {α : Type} {f : Nat → Option α} {m : Nat} (h : ∀ j, j < m → f j = none) : (List.range m).findSome? f = none := by
  rw [List.findSome?_eq_none_iff]; intro j hj; exact h j (List.mem_range.1 hj)
theorem fs_some {α : Type} {f : Nat → Option α} : ∀ {m : Nat} {x : α}, (List.range m).findSome? f = some x → ∃ k, k < m ∧ f k = some x ∧ ∀ j, j < k → f j = none
  | 0, x, h => by simp at h
  | m + 1, x, h => by
    rw [List.range_succ, List.findSome?_append] at h
    cases hc : (List.range m).findSome? f with
    | some y =>
      rw [hc] at h
      obtain rfl : y = x := by simpa using h
      obtain ⟨k, h1, h2, h3⟩ := fs_some hc
      exact ⟨k, by omega, h2, h3⟩
    | none =>
      rw [hc] at h
      refine ⟨m, by omega, by simpa using h, fun j hj => ?_⟩
      rw [List.findSome?_eq_none_iff] at hc
      exact hc j (List.mem_range.2 hj)

/-- Panels are put into batches: so many are enough. -/
def Gd (B : Bn) (n : Nat) (f : Nat → Nat) (m : Nat) : Prop := (∀ i, i < n → f i < m) ∧ ∀ k, fitE B (sm B (fun i => decide (f i = k)) n) = 0
theorem gd_single {B : Bn} (hB : BnOk B) (hf : FineB B) : Gd B B.each.length id B.each.length := by
  refine ⟨fun i hi => hi, fun k => ?_⟩
  by_cases c : k < B.each.length
  · have e : sm B (fun i => decide (id i = k)) B.each.length = eachP B (k : Int) := by
      rw [sm_cut B (n := k + 1) (by omega) (fun i h1 h2 => decide_eq_false (by simp only [id]; omega))]
      simp only [sm]
      rw [sm_none B (fun i hi => decide_eq_false (by simp only [id]; omega)), if_pos (by simp), and0]
    rw [e]; exact hf k c
  · rw [sm_none B (fun i hi => decide_eq_false (by simp only [id]; omega))]
    exact fit0 hB
theorem getD_app {l m : List Int} {i : Nat} (h : i < l.length) : (l ++ m).getD i 0 = l.getD i 0 := by simp only [List.getD, List.getElem?_append_left h]
theorem getD_last (l : List Int) (x : Int) : (l ++ [x]).getD l.length 0 = x := by simp [List.getD]
theorem sum_last (B : Bn) (l : List Int) (x : Int) : sumL B (ofL (l ++ [x]) x) = (sm B (fun i => decide (l.getD i 0 = x)) l.length).and (eachP B (l.length : Int)) := by
  rw [sum_ofL, List.length_append]
  simp only [List.length_cons, List.length_nil, Nat.zero_add, sm]
  rw [getD_last, if_pos (by simp), sm_congr B (fun i hi => by rw [getD_app hi])]
/-- A prefix is in good order, and the rest is not yet put. -/
theorem good_snoc {B : Bn} {l : List Int} {x : Int} (h : Good B l) (hx : fitE B (sumL B (ofL (l ++ [x]) x)) = 0) : Good B (l ++ [x]) := fun k => by
  by_cases c : x = k
  · subst c; rw [sum_ofL] at hx; exact hx
  · rw [List.length_append]
    simp only [List.length_cons, List.length_nil, Nat.zero_add, sm]
    rw [getD_last, if_neg (by simpa using c), sm_congr B (fun i hi => by rw [getD_app hi])]
    exact h k
theorem plan_snoc {l : List Int} {x : Int} (h : planB l false = true) (h0 : 0 ≤ x) (h1 : x ≤ batN l) : planB (l ++ [x]) false = true := planB_true fun k hk => by
  rw [List.length_append] at hk
  simp only [List.length_cons, List.length_nil] at hk
  unfold plAt leastAt
  rw [if_neg (by simp)]
  refine decide_eq_true ?_
  by_cases c : k < l.length
  · have := planB_at h c
    unfold plAt leastAt at this
    rw [if_neg (by simp), decide_eq_true_eq] at this
    rw [getD_app c, List.take_append_of_le_length (by omega)]
    exact this
  · obtain rfl : k = l.length := by omega
    rw [getD_last, List.take_left]
    exact ⟨h0, h1⟩
theorem plan_pre {l : List Int} {x : Int} (h : planB (l ++ [x]) false = true) : planB l false = true ∧ 0 ≤ x ∧ x ≤ batN l := by
  have at' : ∀ k, k < (l ++ [x]).length → 0 ≤ (l ++ [x]).getD k 0 ∧ (l ++ [x]).getD k 0 ≤ batN ((l ++ [x]).take k) := fun k hk => by
    have := planB_at h hk
    unfold plAt leastAt at this
    rw [if_neg (by simp), decide_eq_true_eq] at this
    exact this
  refine ⟨planB_true fun k hk => ?_, ?_⟩
  · have := at' k (by rw [List.length_append]; omega)
    rw [getD_app hk, List.take_append_of_le_length (by omega)] at this
    unfold plAt leastAt
    rw [if_neg (by simp)]
    exact decide_eq_true this
  · have := at' l.length (by simp)
    rw [getD_last, List.take_left] at this
    exact this
/-- Two names are exchanged. -/
def swp (a b k : Nat) : Nat := if k = a then b else if k = b then a else k
theorem swp_l (a b : Nat) : swp a b a = b := by simp [swp]
theorem swp_r (a b : Nat) : swp a b b = a := by
  by_cases c : b = a
  · subst c; simp [swp]
  · simp [swp, c]
theorem swp_n {a b k : Nat} (h1 : k ≠ a) (h2 : k ≠ b) : swp a b k = k := by simp [swp, h1, h2]
theorem swp_swp (a b k : Nat) : swp a b (swp a b k) = k := by
  by_cases c : k = a
  · subst c; rw [swp_l, swp_r]
  · by_cases d : k = b
    · subst d; rw [swp_r, swp_l]
    · rw [swp_n c d, swp_n c d]
theorem swp_iff (a b x k : Nat) : swp a b x = k ↔ x = swp a b k := ⟨fun e => by rw [← e, swp_swp], fun e => by rw [e, swp_swp]⟩
theorem swp_lt {a b k m : Nat} (ha : a < m) (hb : b < m) (hk : k < m) : swp a b k < m := by
  unfold swp; split
  · exact hb
  · split
    · exact ha
    · exact hk
/-- If no plan goes on, no way to put the panels into so many batches does. -/
theorem go_none {B : Bn} (hB : BnOk B) : ∀ (t : Nat) (begun : List Int) (most : Nat), begun.length + t = B.each.length → planB begun false = true → goL B t begun (most : Int) = none →
    ∀ f, (∀ i, i < begun.length → begun.getD i 0 = (f i : Int)) → ¬ Gd B B.each.length f most
  | 0, begun, most, hn, hp, h, f, hf, hg => by simp [goL] at h
  | t + 1, begun, most, hn, hp, h, f, hf, hg => by
    rw [goL_succ, List.findSome?_eq_none_iff] at h
    have h0 := plan_in hp
    have hb0 := batN_pos begun
    -- the next panel's number is among those that are tried
    have key : ∀ g, (∀ i, i < begun.length → begun.getD i 0 = (g i : Int)) → Gd B B.each.length g most → (g begun.length : Int) ≤ batN begun → False := fun g hg1 hg2 hle => by
      have hlt := hg2.1 begun.length (by omega)
      have hk := h (g begun.length) (List.mem_range.2 (by omega))
      unfold goF at hk
      have hfit : fitE B (sumL B (ofL (begun ++ [(g begun.length : Int)]) (g begun.length : Int))) = 0 := by
        rw [sum_ofL]
        refine fit_mono (sm_sub hB (n := B.each.length) (q := fun i => decide (g i = g begun.length)) (by rw [List.length_append]; simp only [List.length_cons, List.length_nil]; omega) (fun i hi hpi => ?_)) (hg2.2 _)
        rw [decide_eq_true_eq] at hpi ⊢
        rw [List.length_append] at hi
        simp only [List.length_cons, List.length_nil] at hi
        by_cases c : i = begun.length
        · rw [c]
        · rw [getD_app (by omega), hg1 i (by omega)] at hpi; omega
      rw [if_neg (by rw [hfit]; simp)] at hk
      refine go_none hB t _ most (by rw [List.length_append]; simp only [List.length_cons, List.length_nil]; omega) (plan_snoc hp (by omega) hle) hk g (fun i hi => ?_) hg2
      rw [List.length_append] at hi
      simp only [List.length_cons, List.length_nil] at hi
      by_cases c : i = begun.length
      · subst c; exact getD_last _ _
      · rw [getD_app (by omega)]; exact hg1 i (by omega)
    by_cases c : (f begun.length : Int) ≤ batN begun
    · exact key f hf hg c
    · -- two names are exchanged
      have hlow : ∀ i, i < begun.length → (f i : Int) < batN begun := fun i hi => by rw [← hf i hi]; exact batN_gt (getD_mem hi)
      obtain ⟨b, hb⟩ : ∃ b : Nat, (b : Int) = batN begun := ⟨(batN begun).toNat, by omega⟩
      have hfm := hg.1 begun.length (by omega)
      refine key (fun i => swp b (f begun.length) (f i)) (fun i hi => ?_) ⟨fun i hi => ?_, fun k => ?_⟩ ?_
      · rw [hf i hi]
        have := hlow i hi
        show (f i : Int) = ((swp b (f begun.length) (f i) : Nat) : Int)
        rw [swp_n (by omega) (by omega)]
      · exact swp_lt (by omega) hfm (hg.1 i hi)
      · rw [sm_congr B (q := fun i => decide (f i = swp b (f begun.length) k)) (fun i _ => by rw [decide_eq_decide]; exact swp_iff _ _ _ _)]
        exact hg.2 _
      · show ((swp b (f begun.length) (f begun.length) : Nat) : Int) ≤ batN begun
        rw [swp_r]; omega
/-- What goes on is a good plan that begins so. -/
theorem go_some {B : Bn} (hB : BnOk B) : ∀ (t : Nat) (begun : List Int) (most : Int) (l : List Int), begun.length + t = B.each.length → planB begun false = true → Good B begun → batN begun ≤ most → goL B t begun most = some l →
    l.length = B.each.length ∧ planB l false = true ∧ Good B l ∧ batN l ≤ most ∧ ∃ m, l = begun ++ m
  | 0, begun, most, l, hn, hp, hg, hm, h => by
    obtain rfl : begun = l := by simpa [goL] using h
    exact ⟨by omega, hp, hg, hm, [], by simp⟩
  | t + 1, begun, most, l, hn, hp, hg, hm, h => by
    rw [goL_succ] at h
    obtain ⟨k, hk, hkx, _⟩ := fs_some h
    unfold goF at hkx
    by_cases c : fitE B (sumL B (ofL (begun ++ [(k : Int)]) (k : Int))) = 0
    · rw [if_neg (by rw [c]; simp)] at hkx
      have := batN_pos begun
      obtain ⟨a, b, c', d, m, e⟩ := go_some hB t _ most l (by rw [List.length_append]; simp only [List.length_cons, List.length_nil]; omega) (plan_snoc hp (by omega) (by omega)) (good_snoc hg c) (by rw [batN_snoc]; omega) hkx
      exact ⟨a, b, c', d, (k : Int) :: m, by rw [e]; simp⟩
    · rw [if_pos c] at hkx; cases hkx
/-- One list comes before another one: at some place. -/
theorem ear_at {a b : List Int} (h : earB a b = true) : ∃ i, i < a.length ∧ i < b.length ∧ (∀ j, j < i → a.getD j 0 = b.getD j 0) ∧ a.getD i 0 < b.getD i 0 := by
  induction a generalizing b with
  | nil => simp [earB] at h
  | cons x a ih =>
    cases b with
    | nil => simp [earB] at h
    | cons y b =>
      simp only [earB] at h
      by_cases c : x = y
      · rw [if_pos c] at h
        obtain ⟨i, h1, h2, h3, h4⟩ := ih h
        refine ⟨i + 1, by simpa using h1, by simpa using h2, fun j hj => ?_, by simpa [List.getD] using h4⟩
        match j with
        | 0 => simpa [List.getD] using c
        | j + 1 => simpa [List.getD] using h3 j (by omega)
      · rw [if_neg c, decide_eq_true_eq] at h
        exact ⟨0, by simp, by simp, fun j hj => by omega, by simpa [List.getD] using h⟩
theorem ear_no {a b : List Int} (h : ∀ i, i < a.length → i < b.length → (∀ j, j < i → a.getD j 0 = b.getD j 0) → ¬ a.getD i 0 < b.getD i 0) : earB a b = false := by
  cases c : earB a b with
  | false => rfl
  | true =>
    obtain ⟨i, h1, h2, h3, h4⟩ := ear_at c
    exact absurd h4 (h i h1 h2 h3)
theorem good_gd {B : Bn} {l : List Int} (h0 : ∀ x ∈ l, 0 ≤ x) (hl : l.length = B.each.length) (hg : Good B l) {m : Nat} (hm : batN l ≤ (m : Int)) : Gd B B.each.length (fun i => (l.getD i 0).toNat) m := by
  refine ⟨fun i hi => ?_, fun k => ?_⟩
  · have a := h0 _ (getD_mem (l := l) (i := i) (by omega))
    have b := batN_gt (getD_mem (l := l) (i := i) (by omega))
    show (l.getD i 0).toNat < m
    omega
  · rw [← hl, sm_congr B (q := fun i => decide (l.getD i 0 = (k : Int))) (fun i hi => ?_)]
    · exact hg k
    · have a := h0 _ (getD_mem hi)
      show decide ((l.getD i 0).toNat = k) = decide (l.getD i 0 = (k : Int))
      rw [decide_eq_decide]; omega
/-- No good plan of as few batches comes before the one that is found. -/
theorem go_first {B : Bn} (hB : BnOk B) : ∀ (t : Nat) (begun : List Int) (most : Nat) (l l' : List Int), begun.length + t = B.each.length → planB begun false = true → Good B begun → batN begun ≤ (most : Int) → goL B t begun (most : Int) = some l →
    l'.length = B.each.length → planB l' false = true → Good B l' → batN l' ≤ (most : Int) → (∀ i, i < begun.length → l'.getD i 0 = begun.getD i 0) → earB l' l = false
  | 0, begun, most, l, l', hn, hp, hg, hm, h, h1, h2, h3, h4, h5 => by
    obtain rfl : begun = l := by simpa [goL] using h
    exact ear_no fun i hi hi2 _ => by rw [h5 i hi2]; omega
  | t + 1, begun, most, l, l', hn, hp, hg, hm, h, h1, h2, h3, h4, h5 => by
    have hgo := h
    rw [goL_succ] at h
    obtain ⟨k, hk, hkx, hjn⟩ := fs_some h
    have hkx' := hkx
    unfold goF at hkx
    by_cases c : fitE B (sumL B (ofL (begun ++ [(k : Int)]) (k : Int))) = 0
    · rw [if_neg (by rw [c]; simp)] at hkx
      have hb0 := batN_pos begun
      obtain ⟨_, _, _, _, m, e⟩ := go_some hB t _ (most : Int) l (by rw [List.length_append]; simp only [List.length_cons, List.length_nil]; omega) (plan_snoc hp (by omega) (by omega)) (good_snoc hg c) (by rw [batN_snoc]; omega) hkx
      have hlk : l.getD begun.length 0 = (k : Int) := by rw [e, List.append_assoc]; simp [List.getD]
      have h0' := plan_in h2
      have hx0 := h0' _ (getD_mem (l := l') (i := begun.length) (by omega))
      -- the other plan's number here is not less
      have hge : (k : Int) ≤ l'.getD begun.length 0 := by
        by_cases d : (k : Int) ≤ l'.getD begun.length 0
        · exact d
        · exfalso
          have hno := hjn (l'.getD begun.length 0).toNat (by omega)
          unfold goF at hno
          have ex : (((l'.getD begun.length 0).toNat : Nat) : Int) = l'.getD begun.length 0 := by omega
          rw [ex] at hno
          have hpre : ∀ i, i < (begun ++ [l'.getD begun.length 0]).length → (begun ++ [l'.getD begun.length 0]).getD i 0 = l'.getD i 0 := fun i hi => by
            rw [List.length_append] at hi
            simp only [List.length_cons, List.length_nil] at hi
            by_cases c2 : i = begun.length
            · subst c2; exact getD_last _ _
            · rw [getD_app (by omega)]; exact (h5 i (by omega)).symm
          have hfit : fitE B (sumL B (ofL (begun ++ [l'.getD begun.length 0]) (l'.getD begun.length 0))) = 0 := by
            rw [sum_ofL]
            refine fit_mono (sm_sub hB (n := l'.length) (q := fun i => decide (l'.getD i 0 = l'.getD begun.length 0)) (by rw [List.length_append]; simp only [List.length_cons, List.length_nil]; omega) (fun i hi hpi => ?_)) (h3 _)
            rw [decide_eq_true_eq] at hpi ⊢
            rw [← hpre i hi]; exact hpi
          rw [if_neg (by rw [hfit]; simp)] at hno
          refine go_none hB t _ most (by rw [List.length_append]; simp only [List.length_cons, List.length_nil]; omega) (plan_snoc hp hx0 (by omega)) hno (fun i => (l'.getD i 0).toNat) (fun i hi => ?_) (good_gd h0' h1 h3 h4)
          rw [hpre i hi]
          rw [List.length_append] at hi
          simp only [List.length_cons, List.length_nil] at hi
          have := h0' _ (getD_mem (l := l') (i := i) (by omega))
          show l'.getD i 0 = (((l'.getD i 0).toNat : Nat) : Int)
          omega
      by_cases d : l'.getD begun.length 0 = (k : Int)
      · refine go_first hB t _ most l l' (by rw [List.length_append]; simp only [List.length_cons, List.length_nil]; omega) (plan_snoc hp (by omega) (by omega)) (good_snoc hg c) (by rw [batN_snoc]; omega) hkx h1 h2 h3 h4 (fun i hi => ?_)
        rw [List.length_append] at hi
        simp only [List.length_cons, List.length_nil] at hi
        by_cases c2 : i = begun.length
        · subst c2; rw [getD_last]; exact d
        · rw [getD_app (by omega)]; exact h5 i (by omega)
      · refine ear_no fun i hi hi2 hpre => ?_
        by_cases c2 : i < begun.length
        · have : l.getD i 0 = begun.getD i 0 := by rw [e, List.append_assoc, getD_app c2]
          rw [this, h5 i c2]; omega
        · by_cases c3 : i = begun.length
          · subst c3; rw [hlk]; omega
          · exact absurd (by rw [← hlk]; exact hpre begun.length (by omega)) d
    · rw [if_pos c] at hkx; cases hkx
end Go.Gl
namespace Go.Gl
theorem sm_split (B : Bn) {p q r : Nat → Bool} : ∀ {n : Nat}, (∀ i, i < n → p i = (q i || r i)) → (∀ i, i < n → (q i && r i) = false) → sm B p n = (sm B q n).and (sm B r n)
  | 0, _, _ => by simp [sm, sm0, Sm.and]
  | n + 1, h, k => by
    have ih := sm_split B (p := p) (q := q) (r := r) (n := n) (fun i hi => h i (by omega)) (fun i hi => k i (by omega))
    have h1 := h n (by omega)
    have k1 := k n (by omega)
    simp only [sm, ih, h1]
    cases hq : q n <;> cases hr : r n
    · simp
    · simp only [Bool.or_true, Bool.false_eq_true, if_true, if_false, Sm.and, Sm.mk.injEq]; omega
    · simp only [Bool.or_false, Bool.false_eq_true, if_true, if_false, Sm.and, Sm.mk.injEq]; omega
    · rw [hq, hr] at k1; cases k1
theorem gd_sums {B : Bn} {f : Nat → Nat} {n : Nat} (h : ∀ k, fitE B (sm B (fun i => decide (f i = k)) n) = 0) : ∀ m : Nat, (sm B (fun i => decide (f i < m)) n).t ≤ (m : Int) * B.w ∧ (sm B (fun i => decide (f i < m)) n).g ≤ (m : Int) * B.p
  | 0 => by rw [sm_none B (fun i _ => by simp)]; simp [sm0]
  | m + 1 => by
    have ih := gd_sums h m
    have hk := (fit_iff B _).1 (h m)
    have e := sm_split B (p := fun i => decide (f i < m + 1)) (q := fun i => decide (f i < m)) (r := fun i => decide (f i = m)) (n := n) (fun i _ => by rw [Bool.eq_iff_iff]; simp; omega) (fun i _ => by
      rw [Bool.and_eq_false_iff, decide_eq_false_iff_not, decide_eq_false_iff_not]; omega)
    have e1 : ((m + 1 : Nat) : Int) * B.w = (m : Int) * B.w + B.w := by push_cast; rw [Int.add_mul, Int.one_mul]
    have e2 : ((m + 1 : Nat) : Int) * B.p = (m : Int) * B.p + B.p := by push_cast; rw [Int.add_mul, Int.one_mul]
    rw [e, e1, e2]
    simp only [Sm.and]
    omega
theorem upB_le {a b m : Int} (ha : 0 ≤ a) (hb : 1 ≤ b) (h : a ≤ m * b) : upB a b ≤ m := by
  unfold upB
  rw [Int.tdiv_eq_ediv_of_nonneg (by omega)]
  have : (a + b - 1) / b < m + 1 := Int.ediv_lt_of_lt_mul (by omega) (by
    have h1 : (m + 1) * b = m * b + b := by rw [Int.add_mul, Int.one_mul]
    omega)
  omega
/-- Fewer than sums ask for are never enough. -/
theorem bound_le {B : Bn} (hB : BnOk B) {f : Nat → Nat} {m : Nat} (h : Gd B B.each.length f m) : bndN B ≤ (m : Int) := by
  have hs := sum_span B 0 B.each.length
  have hs' : sumL B (fromTo 0 ((B.each.length : Int) - 1)) = sm B (fun i => decide (f i < m)) B.each.length := by
    rw [show ((0 : Nat) : Int) = 0 from rfl] at hs
    rw [hs]
    exact sm_congr B (fun i hi => by rw [Bool.eq_iff_iff]; simp; exact h.1 i hi)
  have hb := gd_sums h.2 m
  have hnn := sumL_bd hB (fromTo 0 ((B.each.length : Int) - 1))
  rw [← hs'] at hb
  unfold bndN
  have a := upB_le hnn.1 hB.w0 hb.1
  have b := upB_le hnn.2.2.1 hB.p0 hb.2
  omega
theorem bndN_nn {B : Bn} (hB : BnOk B) : 0 ≤ bndN B := by
  have hnn := sumL_bd hB (fromTo 0 ((B.each.length : Int) - 1))
  have := (upB_bd hnn.1 hB.w0).1
  unfold bndN; omega
/-- The best plan: of the fewest batches that are enough, the first one. -/
def pfL (B : Bn) : Nat → Nat → List Int
  | 0, _ => (goL B B.each.length [] (B.each.length : Int)).getD []
  | s + 1, m => (goL B B.each.length [] (m : Int)).getD (pfL B s (m + 1))
def planL (B : Bn) : List Int := pfL B (B.each.length - (bndN B).toNat) (bndN B).toNat
theorem plan_nil (row : Bool) : planB [] row = true := by cases row <;> rfl
theorem good_nil {B : Bn} (hB : BnOk B) : Good B [] := fun k => by simpa [sm] using fit0 hB
theorem go_is {B : Bn} (hB : BnOk B) {f : Nat → Nat} {m : Nat} (h : Gd B B.each.length f m) : ∃ l, goL B B.each.length [] (m : Int) = some l := by
  cases c : goL B B.each.length [] (m : Int) with
  | some l => exact ⟨l, rfl⟩
  | none => exact absurd h (go_none hB B.each.length [] m (by simp) (plan_nil false) c f (fun i hi => by simp at hi))
theorem go_gd {B : Bn} (hB : BnOk B) {m : Nat} {l : List Int} (h : goL B B.each.length [] (m : Int) = some l) : l.length = B.each.length ∧ planB l false = true ∧ Good B l ∧ batN l ≤ (m : Int) ∧ Gd B B.each.length (fun i => (l.getD i 0).toNat) m := by
  obtain ⟨a, b, c, d, _⟩ := go_some hB B.each.length [] (m : Int) l (by simp) (plan_nil false) (good_nil hB) (by simp [batN]) h
  exact ⟨a, b, c, d, good_gd (plan_in b) a c d⟩
theorem pf_at {B : Bn} (hB : BnOk B) (hf : FineB B) : ∀ s m, s = B.each.length - m → (∀ m', m' < m → goL B B.each.length [] (m' : Int) = none) → ∃ M : Nat, goL B B.each.length [] (M : Int) = some (pfL B s m) ∧ ∀ m', m' < M → goL B B.each.length [] (m' : Int) = none
  | 0, m, hs, h => by
    obtain ⟨l, hl⟩ := go_is hB (gd_single hB hf)
    have hm : m ≤ B.each.length := by
      by_cases c : m ≤ B.each.length
      · exact c
      · rw [h B.each.length (by omega)] at hl; cases hl
    obtain rfl : m = B.each.length := by omega
    exact ⟨B.each.length, by simp only [pfL, hl, Option.getD_some], h⟩
  | s + 1, m, hs, h => by
    cases c : goL B B.each.length [] (m : Int) with
    | some l => exact ⟨m, by simp only [pfL, c, Option.getD_some], h⟩
    | none =>
      obtain ⟨M, h1, h2⟩ := pf_at hB hf s (m + 1) (by omega) (fun m' hm' => by
        by_cases d : m' = m
        · subst d; exact c
        · exact h m' (by omega))
      exact ⟨M, by simp only [pfL, c, Option.getD_none]; exact h1, h2⟩
theorem plan_at {B : Bn} (hB : BnOk B) (hf : FineB B) : ∃ M : Nat, goL B B.each.length [] (M : Int) = some (planL B) ∧ ∀ m', m' < M → goL B B.each.length [] (m' : Int) = none :=
  pf_at hB hf _ _ rfl fun m' hm' => by
    cases c : goL B B.each.length [] (m' : Int) with
    | none => rfl
    | some l =>
      have := bound_le hB (go_gd hB c).2.2.2.2
      omega
/-- What is known of the best plan. -/
structure Best (B : Bn) (l : List Int) : Prop where
  len : l.length = B.each.length
  plan : planB l false = true
  good : Good B l
  go : goL B B.each.length [] (batN l) = some l
  least : ∀ (f : Nat → Nat) (m : Nat), Gd B B.each.length f m → batN l ≤ (m : Int)
  first : ∀ l', l'.length = B.each.length → planB l' false = true → Good B l' → batN l' ≤ batN l → earB l' l = false
theorem plan_best {B : Bn} (hB : BnOk B) (hf : FineB B) : Best B (planL B) := by
  obtain ⟨M, h1, h2⟩ := plan_at hB hf
  obtain ⟨a, b, c, d, e⟩ := go_gd hB h1
  have hmin : ∀ (f : Nat → Nat) (m : Nat), Gd B B.each.length f m → M ≤ m := fun f m hg => by
    by_cases x : M ≤ m
    · exact x
    · obtain ⟨l, hl⟩ := go_is hB hg
      rw [h2 m (by omega)] at hl; cases hl
  have h0 := batN_pos (planL B)
  have hM : batN (planL B) = (M : Int) := by
    have := hmin _ (batN (planL B)).toNat (good_gd (plan_in b) a c (by omega))
    omega
  refine ⟨a, b, c, by rw [hM]; exact h1, fun f m hg => by have := hmin f m hg; omega, fun l' k1 k2 k3 k4 => ?_⟩
  exact go_first hB B.each.length [] M (planL B) l' (by simp) (plan_nil false) (good_nil hB) (by simp [batN]) h1 k1 k2 k3 (by omega) (fun i hi => by simp at hi)
theorem best_le {B : Bn} (hB : BnOk B) (hf : FineB B) {l : List Int} (h1 : l.length = B.each.length) (h2 : planB l false = true) (h3 : Good B l) : batN (planL B) ≤ batN l := by
  have h0 := batN_pos l
  have := (plan_best hB hf).least _ (batN l).toNat (good_gd (plan_in h2) h1 h3 (by omega))
  omega
/-- The answer of Plan. -/
def pnL (d : Dy) (ps : List Pn) (sure : Bool) : List Int := if rowE d ps sure = 0 then planL (bn d ps sure) else []
end Go.Gl
set_option linter.unusedVariables false
namespace Go.Proofs.Ytmnbkceiaifncaa
open Go.Lw Go.Gl Go.RowKit

theorem of_in2 {d : Dy} {ps : List Pn} {sure : Bool} {l : List Int} {b : Int} (hk : Ok d ps) (h : l.length ≤ ps.length) : InB (bn d ps sure) (ofL l b) ∧ (ofL l b).length ≤ 100 := by
  have h1 : (ofL l b).length ≤ l.length := ofK_len l b l.length
  have := hk.n10
  refine ⟨fun i hi => ?_, by omega⟩
  have := ofK_in (l := l) (b := b) (k := l.length) i hi
  rw [bn_len]; omega
theorem rgoOn_f (d : Dy) (ps : List Pn) (sure : Bool) (hk : Ok d ps) : ∀ (t : Nat) (begun : List Int) (most : Int) (V : View) (v vb : Value), begun.length + t = ps.length → planB begun false = true → 0 ≤ most → most ≤ 1000 → Sl V pne 3 v ps → SlI V vb begun →
    Fnc Try.prog 103 [dyv d, v, .bool sure, vb, iv most] V fun r V' => ∃ u, r = .tuple #[u, .bool (goL (bn d ps sure) t begun most).isSome] ∧ SlI V' u ((goL (bn d ps sure) t begun most).getD []) := by
  intro t
  induction t with
  | zero =>
    intro begun most V v vb hlen hpl hm0 hm1 hs hv
    obtain ⟨a, c, rfl, k1, k2, _⟩ := id hs
    obtain ⟨al, cl, rfl, k3, k4, _⟩ := id hv
    clear k1 k2 k3 k4
    refine fn_of Try.func103 rfl Try.ntmps103 (Nat.le_of_ble_eq_true rfl) ?_
    intro w0 hw0
    refine At.nrm ?_
    refine At.ktext (.n false 0 (.q 1 (.q 2 .done))) ?_
    refine AtT.kbox ?_
    intro b5
    refine AtT.kassign ?_
    refine AtT.kassign ?_
    refine AtT.done ?_
    refine At.nrm ?_
    refine At.ktext (.q 0 (.q 1 (.q 2 (.q 3 (.q 4 .done))))) ?_
    refine AtT.kmove ?_
    first | refine AtT.klenS Try.underlying27 ?_ | refine AtT.klenR Try.underlying27 ?_
    refine AtT.kmove ?_
    first | refine AtT.klenS Try.underlying26 ?_ | refine AtT.klenR Try.underlying26 ?_
    refine AtT.keqI ?_
    refine AtT.done ?_
    refine At.nrm ?_
    refine At.condT rfl (decide_eq_true (by omega)) ?_
    refine At.nrm ?_
    refine At.ktext (.q 0 (.q 1 (.q 2 .done))) ?_
    refine AtT.kmove ?_
    refine AtT.kassign ?_
    refine AtT.kassign ?_
    refine AtT.done ?_
    refine At.nrm ?_
    exact At.ret2 rfl (.tmp rfl) (.tmp rfl) ⟨_, rfl, hv⟩
  | succ t ih =>
    intro begun most V v vb hlen hpl hm0 hm1 hs hv
    obtain ⟨a, c, rfl, k1, k2, _⟩ := id hs
    obtain ⟨al, cl, rfl, k3, k4, _⟩ := id hv
    clear k1 k2 k3 k4
    have hn10 := hk.n10
    obtain ⟨hbl, hbx⟩ := plan_bat hpl
    have hb0 := batN_pos begun
    refine fn_of Try.func103 rfl Try.ntmps103 (Nat.le_of_ble_eq_true rfl) ?_
    intro w0 hw0
    refine At.nrm ?_
    refine At.ktext (.n false 0 (.q 1 (.q 2 .done))) ?_
    refine AtT.kbox ?_
    intro b5
    refine AtT.kassign ?_
    refine AtT.kassign ?_
    refine AtT.done ?_
    refine At.nrm ?_
    refine At.ktext (.q 0 (.q 1 (.q 2 (.q 3 (.q 4 .done))))) ?_
    refine AtT.kmove ?_
    first | refine AtT.klenS Try.underlying27 ?_ | refine AtT.klenR Try.underlying27 ?_
    refine AtT.kmove ?_
    first | refine AtT.klenS Try.underlying26 ?_ | refine AtT.klenR Try.underlying26 ?_
    refine AtT.keqI ?_
    refine AtT.done ?_
    refine At.nrm ?_
    refine At.condF rfl (decide_eq_false (by omega)) ?_
    refine At.nrm ?_
    refine At.ktext (.q 0 .done) ?_
    refine AtT.kassign ?_
    refine AtT.done ?_
    refine At.nrm ?_
    refine At.lp (ι := Nat) (KS := fun k => [(1, .slice a ps.length c), (2, .bool sure), (3, .slice al begun.length cl), (4, iv most), (5, .pointer (some ⟨b5, 0, none⟩)), (12, iv k)]) (OS := fun _ => [.blk b5 (LC (dye d) 25)])
      (VS := fun k V' => Le V V' ∧ k ≤ (min (batN begun + 1) most).toNat ∧ ∀ j, j < k → goF (bn d ps sure) t begun most j = none) (μ := fun k => (min (batN begun + 1) most).toNat - k) 0 ?_ ?_ ?_ ?_
    · exact ⟨rfl, rfl, rfl, rfl, rfl, rfl, trivial⟩
    · exact Pt.auto
    · exact ⟨Le.refl _, Nat.zero_le _, fun j hj => absurd hj (Nat.not_lt_zero j)⟩
    · rintro k V' ks' O' ⟨hVV, hkl, hok⟩ hk2 hO hl2
      subst hk2 hO
      have hs' := hs.le hVV
      have hv' := hv.le hVV
      have hend : ¬ k < (min (batN begun + 1) most).toNat → goL (bn d ps sure) (t + 1) begun most = none := fun h => by
        rw [goL_succ]; exact fs_none fun j hj => hok j (by omega)
      refine At.nrm ?_
      by_cases c1 : (k : Int) ≤ batN begun
      rotate_left
      · refine At.ktext (.q 0 (.q 1 (.n false 2 (.q 3 (.q 4 (.q 5 (.q 6 (.q 7 (.q 8 .done))))))))) ?_
        refine AtT.kmove ?_
        refine AtT.kmove ?_
        refine AtT.kcallP rfl rfl ok33 (bat_f begun (fun x hx => by have := hbx x hx; omega) _ _ hv') ?_
        rintro _ rfl
        refine AtT.kleq ?_
        refine AtT.setF (d := 25) rfl (c1) ?_
        refine AtT.kmove ?_
        all_goals (first | refine AtT.kL 26 ?_ | refine AtT.pcase (d := 26) rfl (fun hg26 => ?_) (fun hg26 => ?_) | refine AtT.bcase (d := 26) rfl (fun hg26 => ?_) (fun hg26 => ?_))
        all_goals (first | refine AtT.kpass ?_ | refine AtT.kpassU ?_ | ((refine AtT.kmove ?_)))
        all_goals (first | refine AtT.kpass ?_ | refine AtT.kpassU ?_ | ((refine AtT.kmove ?_)))
        all_goals (first | refine AtT.kpass ?_ | refine AtT.kpassU ?_ | ((refine AtT.klss ?_)))
        all_goals (refine AtT.kpick ?_)
        all_goals refine AtT.done ?_
        all_goals (refine At.nrm ?_)
        refine At.condF rfl rfl ?_
        refine At.nrm ?_
        refine At.ktext (.q 0 (.q 1 .done)) ?_
        refine AtT.kassign ?_
        refine AtT.kassign ?_
        refine AtT.done ?_
        refine At.nrm ?_
        exact At.ret2 rfl (.tmp rfl) (.tmp rfl) ⟨_, by rw [hend (by omega)]; rfl, by rw [hend (by omega)]; exact Sl.nil _ _ _⟩
      by_cases c2 : (k : Int) < most
      rotate_left
      · refine At.ktext (.q 0 (.q 1 (.n false 2 (.q 3 (.q 4 (.q 5 (.q 6 (.q 7 (.q 8 .done))))))))) ?_
        refine AtT.kmove ?_
        refine AtT.kmove ?_
        refine AtT.kcallP rfl rfl ok33 (bat_f begun (fun x hx => by have := hbx x hx; omega) _ _ hv') ?_
        rintro _ rfl
        refine AtT.kleq ?_
        refine AtT.setT (d := 25) rfl (c1) ?_
        refine AtT.kmove ?_
        all_goals (first | refine AtT.kL 26 ?_ | refine AtT.pcase (d := 26) rfl (fun hg26 => ?_) (fun hg26 => ?_) | refine AtT.bcase (d := 26) rfl (fun hg26 => ?_) (fun hg26 => ?_))
        all_goals (first | refine AtT.kpass ?_ | refine AtT.kpassU ?_ | ((refine AtT.kmove ?_)))
        all_goals (first | refine AtT.kpass ?_ | refine AtT.kpassU ?_ | ((refine AtT.kmove ?_)))
        all_goals (first | refine AtT.kpass ?_ | refine AtT.kpassU ?_ | ((refine AtT.klss ?_)))
        all_goals (refine AtT.setF (d := 29) rfl (c2) ?_)
        all_goals (refine AtT.kpick ?_)
        all_goals refine AtT.done ?_
        all_goals (refine At.nrm ?_)
        refine At.condF rfl rfl ?_
        refine At.nrm ?_
        refine At.ktext (.q 0 (.q 1 .done)) ?_
        refine AtT.kassign ?_
        refine AtT.kassign ?_
        refine AtT.done ?_
        refine At.nrm ?_
        exact At.ret2 rfl (.tmp rfl) (.tmp rfl) ⟨_, by rw [hend (by omega)]; rfl, by rw [hend (by omega)]; exact Sl.nil _ _ _⟩
      refine At.ktext (.q 0 (.q 1 (.n false 2 (.q 3 (.q 4 (.q 5 (.q 6 (.q 7 (.q 8 .done))))))))) ?_
      refine AtT.kmove ?_
      refine AtT.kmove ?_
      refine AtT.kcallP rfl rfl ok33 (bat_f begun (fun x hx => by have := hbx x hx; omega) _ _ hv') ?_
      rintro _ rfl
      refine AtT.kleq ?_
      refine AtT.setT (d := 25) rfl (c1) ?_
      refine AtT.kmove ?_
      all_goals (first | refine AtT.kL 26 ?_ | refine AtT.pcase (d := 26) rfl (fun hg26 => ?_) (fun hg26 => ?_) | refine AtT.bcase (d := 26) rfl (fun hg26 => ?_) (fun hg26 => ?_))
      all_goals (first | refine AtT.kpass ?_ | refine AtT.kpassU ?_ | ((refine AtT.kmove ?_)))
      all_goals (first | refine AtT.kpass ?_ | refine AtT.kpassU ?_ | ((refine AtT.kmove ?_)))
      all_goals (first | refine AtT.kpass ?_ | refine AtT.kpassU ?_ | ((refine AtT.klss ?_)))
      all_goals (refine AtT.setT (d := 29) rfl (c2) ?_)
      all_goals (refine AtT.kpick ?_)
      all_goals refine AtT.done ?_
      all_goals (refine At.nrm ?_)
      refine At.condT rfl rfl ?_
      have hhit : ∀ l, goF (bn d ps sure) t begun most k = some l → goL (bn d ps sure) (t + 1) begun most = some l := fun l h => by
        rw [goL_succ]; exact fs_hit (by omega) hok h
      have hpn := plan_snoc (l := begun) (x := (k : Int)) hpl (by omega) c1
      have hnl : (begun ++ [(k : Int)]).length = begun.length + 1 := by simp
      obtain ⟨hin, hln⟩ := of_in2 (sure := sure) (l := begun ++ [(k : Int)]) (b := (k : Int)) hk (by omega)
      refine At.nrmB ?_
      refine At.cutG (ι := Unit) (fun _ => [(1, .slice a ps.length c), (2, .bool sure), (3, .slice al begun.length cl), (4, iv most), (5, .pointer (some ⟨b5, 0, none⟩)), (12, iv k)]) (fun _ => [.blk b5 (LC (dye d) 25)])
        (fun _ V'' => Le V' V'' ∧ goF (bn d ps sure) t begun most k = none) ?_ ?_
      · refine At.nrm ?_
        refine At.ktext (.n false 0 (.q 1 (.n true 2 (.q 3 (.n false 4 (.n true 5 (.q 6 .done))))))) ?_
        refine AtT.bsliceR0 rfl trivial rfl bs27_0 (by decide) (s := 1) (fun b33 => ?_)
        refine AtT.kmove ?_
        refine AtT.appendRS rfl trivial Try.underlying27 rw3 rfl (by decide) rfl rfl Pick.auto hv' Lw.ei_len (fun _ => rfl) (by unfold maxLen; omega) (by omega) (by decide) (fun a35 c35 => ?_)
        rw [Nat.zero_add, List.nil_append]
        refine AtT.kmove ?_
        refine AtT.kbsliceG (bs27_1_0 _) ?_
        intro q37 V37 hV37 hq37
        first | refine AtT.kappend Try.underlying27 rw3 ?_
        intro a38 c38
        refine AtT.kassign ?_
        refine AtT.done ?_
        refine At.nrm ?_
        refine At.giveSl (l := begun ++ [(k : Int)]) Lw.ei_len (flat_snoc _ _ _).symm hnl.symm Pick.auto (fun V2 hV2 hs2 => ?_)
        have hVV2 : Le V' V2 := by first | assumption | exact Le.trans (by assumption) (by assumption)
        refine At.draw (.q 0 (.q 1 (.q 2 (.q 3 (.q 4 (.n false 5 (.n false 6 (.q 7 .done)))))))) ffm (by kernel_rfl) ?_
        first | refine AtT.kloadOA tk25 ?_ | refine AtT.kloadA tk25 ?_ | refine AtT.kloadOP tk25 ?_
        refine AtT.kmove ?_
        refine AtT.kmove ?_
        refine AtT.kmove ?_
        refine AtT.kmove ?_
        refine AtT.kcall rfl rfl ok83 (of_f (begun ++ [(k : Int)]) (k : Int) (by omega) _ _ (by rw [← hnl] at *; exact hs2)) ?_
        rintro v44 V44 hV44 hs44
        refine AtT.kcallP rfl rfl ok62 (batErr_f d ps hk sure _ hin hln _ _ _ ((hs'.le hVV2).le hV44) hs44) ?_
        rintro _ rfl
        refine AtT.kneI ?_
        refine AtT.done ?_
        refine At.nrm ?_
        refine At.condP rfl (fun hc => ?_) (fun hc => ?_)
        · have hgn : goF (bn d ps sure) t begun most k = none := by unfold goF; rw [if_pos hc]
          refine At.nrm ?_
          exact At.meetG () ⟨hVV2.trans hV44, hgn⟩ ⟨rfl, rfl, rfl, rfl, rfl, rfl, trivial⟩ Pt.auto
        · have hgf : goF (bn d ps sure) t begun most k = goL (bn d ps sure) t (begun ++ [(k : Int)]) most := by unfold goF; rw [if_neg hc]
          refine At.nrm ?_
          refine At.ktext (.q 0 (.q 1 (.q 2 (.q 3 (.q 4 (.n false 5 (.q 6 (.q 7 (.q 8 (.q 9 (.q 10 .done))))))))))) ?_
          first | refine AtT.kloadOA tk25 ?_ | refine AtT.kloadA tk25 ?_ | refine AtT.kloadOP tk25 ?_
          refine AtT.kmove ?_
          refine AtT.kmove ?_
          refine AtT.kmove ?_
          refine AtT.kmove ?_
          refine AtT.kcall rfl rfl ok103 (ih (begun ++ [(k : Int)]) most _ _ _ (by omega) hpn hm0 hm1 ((hs'.le hVV2).le hV44) (hs2.le hV44)) ?_
          rintro _ V53 hV53 ⟨u53, rfl, hs53⟩
          refine AtT.kmove ?_
          refine AtT.kextract ?_
          refine AtT.kextract ?_
          refine AtT.kassign ?_
          refine AtT.kassign ?_
          refine AtT.done ?_
          refine At.nrm ?_
          refine At.ktext (.q 0 .done) ?_
          refine AtT.kmove ?_
          refine AtT.done ?_
          refine At.nrm ?_
          refine At.cond rfl (fun hm => ?_) (fun hm => ?_)
          · obtain ⟨l, hl⟩ := Option.isSome_iff_exists.1 hm
            have hh := hhit l (by rw [hgf, hl])
            rw [hl] at hs53
            refine At.nrm ?_
            refine At.ktext (.q 0 (.q 1 (.q 2 .done))) ?_
            refine AtT.kmove ?_
            refine AtT.kassign ?_
            refine AtT.kassign ?_
            refine AtT.done ?_
            refine At.nrm ?_
            exact At.ret2 rfl (.tmp rfl) (.tmp rfl) ⟨_, by rw [hh]; rfl, by rw [hh]; exact hs53⟩
          · have hno : goL (bn d ps sure) t (begun ++ [(k : Int)]) most = none := by
              cases hh : goL (bn d ps sure) t (begun ++ [(k : Int)]) most with
              | none => rfl
              | some l => rw [hh] at hm; cases hm
            refine At.nrm ?_
            exact At.meetG () ⟨(hVV2.trans hV44).trans hV53, by rw [hgf, hno]⟩ ⟨rfl, rfl, rfl, rfl, rfl, rfl, trivial⟩ Pt.auto
      rintro _ V3 ks' O' ⟨hV3, hgn⟩ hk2 hO hl3
      subst hk2 hO
      refine At.nrm ?_
      refine At.ktext (.q 0 (.q 1 (.q 2 .done))) ?_
      refine AtT.kmove ?_
      first | refine AtT.kadd ?_ | refine AtT.kaddW ?_
      refine AtT.kassign ?_
      refine AtT.done ?_
      refine At.nrm ?_
      refine At.round (k + 1) ?_ ?_ ?_ ?_
      · show (min (batN begun + 1) most).toNat - (k + 1) < (min (batN begun + 1) most).toNat - k; omega
      · refine ⟨hVV.trans hV3, by omega, fun j hj => ?_⟩
        by_cases hjk : j = k
        · subst hjk; exact hgn
        · exact hok j (by omega)
      · exact ⟨rfl, rfl, rfl, rfl, rfl, ivs (by omega), trivial⟩
      · exact Pt.auto
end Go.Proofs.Ytmnbkceiaifncaa
set_option linter.unusedVariables false
namespace Go.Proofs.Ytmnbkceiaifncaa
open Go.Lw Go.Gl Go.RowKit

theorem planOf_f (d : Dy) (ps : List Pn) (sure : Bool) (he : bothE d ps = 0) (V : View) (v : Value) (hs : Sl V pne 3 v ps) : Fnc Try.prog 79 [dyv d, v, .bool sure] V fun r V' => SlI V' r (planL (bn d ps sure)) := by
  obtain ⟨a, c, rfl, k1, k2, _⟩ := id hs
  clear k1 k2
  have hk := bothE_ok he
  have hB := bn_ok hk sure
  have hn10 := hk.n10
  have hbl := bn_len d ps sure
  have hb0 := bndN_nn hB
  have hbd : bdR d ps sure = (bndN (bn d ps sure), 0) := by rw [bdR, if_neg (by simp [he])]
  have hbm : bndN (bn d ps sure) ≤ 100000 := by
    have hsb := sumL_bd hB (fromTo 0 (((bn d ps sure).each.length : Int) - 1))
    have hfl := fromTo_len 0 (((bn d ps sure).each.length : Int) - 1)
    have a1 := upB_bd hsb.1 hB.w0
    have a2 := upB_bd hsb.2.2.1 hB.p0
    unfold bndN
    omega
  refine fn_of Try.func79 rfl Try.ntmps79 (Nat.le_of_ble_eq_true rfl) ?_
  intro w0 hw0
  refine At.nrm ?_
  refine At.ktext (.n false 0 (.q 1 .done)) ?_
  refine AtT.kbox ?_
  intro b3
  refine AtT.kassign ?_
  refine AtT.done ?_
  refine At.nrm ?_
  refine At.ktext (.q 0 (.q 1 (.q 2 (.n false 3 (.q 4 (.q 5 (.q 6 (.q 7 (.q 8 .done))))))))) ?_
  first | refine AtT.kloadOA tk25 ?_ | refine AtT.kloadA tk25 ?_ | refine AtT.kloadOP tk25 ?_
  refine AtT.kmove ?_
  refine AtT.kmove ?_
  refine AtT.kcallP rfl rfl ok39 (rbound_f d ps sure _ _ hs) ?_
  rintro _ rfl
  refine AtT.kmove ?_
  refine AtT.kextract ?_
  refine AtT.kextract ?_
  refine AtT.kassign ?_
  refine AtT.kassign ?_
  refine AtT.done ?_
  refine At.nrm ?_
  refine At.re (d := 7) rfl (show iv (bdR d ps sure).1 = iv (bndN (bn d ps sure)) by rw [hbd]) ?_
  refine At.ktext (.q 0 (.q 1 .done)) ?_
  refine AtT.kmove ?_
  refine AtT.kassign ?_
  refine AtT.done ?_
  refine At.nrm ?_
  refine At.lp (ι := Nat) (KS := fun m => [(1, .slice a ps.length c), (2, .bool sure), (3, .pointer (some ⟨b3, 0, none⟩)), (9, iv m)]) (OS := fun _ => [.blk b3 (LC (dye d) 25)])
    (VS := fun m V' => Le V V' ∧ m ≤ 100000 + 1000 ∧ planL (bn d ps sure) = pfL (bn d ps sure) (ps.length - m) m) (μ := fun m => ps.length - m) (bndN (bn d ps sure)).toNat ?_ ?_ ?_ ?_
  · exact ⟨rfl, rfl, rfl, ivs (by omega), trivial⟩
  · exact Pt.auto
  · exact ⟨Le.refl _, by omega, by unfold planL; rw [hbl]⟩
  · rintro m V' ks' O' ⟨hVV, hml, hpl⟩ hk2 hO hl2
    subst hk2 hO
    have hs' := hs.le hVV
    refine At.nrm ?_
    refine At.ktext (.q 0 (.q 1 (.q 2 (.q 3 .done)))) ?_
    refine AtT.kmove ?_
    refine AtT.kmove ?_
    first | refine AtT.klenS Try.underlying26 ?_ | refine AtT.klenR Try.underlying26 ?_
    refine AtT.klss ?_
    refine AtT.done ?_
    refine At.nrm ?_
    refine At.condP rfl (fun hp => ?_) (fun hp => ?_)
    · obtain ⟨s, hs1⟩ : ∃ s, ps.length - m = s + 1 := ⟨ps.length - m - 1, by omega⟩
      rw [hs1] at hpl
      simp only [pfL] at hpl
      rw [hbl] at hpl
      refine At.nrm ?_
      refine At.ktext (.q 0 (.q 1 (.q 2 (.q 3 (.n false 4 (.q 5 (.q 6 (.q 7 (.q 8 (.q 9 .done)))))))))) ?_
      first | refine AtT.kloadOA tk25 ?_ | refine AtT.kloadA tk25 ?_ | refine AtT.kloadOP tk25 ?_
      refine AtT.kmove ?_
      refine AtT.kmove ?_
      refine AtT.kmove ?_
      refine AtT.kcall rfl rfl ok103 (rgoOn_f d ps sure hk ps.length [] (m : Int) _ _ _ (by simp) (plan_nil false) (by omega) (by omega) hs' (Sl.nil _ _ _)) ?_
      rintro _ V33 hV33 ⟨u33, rfl, hs33⟩
      refine AtT.kmove ?_
      refine AtT.kextract ?_
      refine AtT.kextract ?_
      refine AtT.kassign ?_
      refine AtT.kassign ?_
      refine AtT.done ?_
      refine At.nrm ?_
      refine At.ktext (.q 0 .done) ?_
      refine AtT.kmove ?_
      refine AtT.done ?_
      refine At.nrm ?_
      refine At.cond rfl (fun hm => ?_) (fun hm => ?_)
      · obtain ⟨l, hl⟩ := Option.isSome_iff_exists.1 hm
        rw [hl] at hs33 hpl
        refine At.nrm ?_
        refine At.ktext (.q 0 (.q 1 .done)) ?_
        refine AtT.kmove ?_
        refine AtT.kassign ?_
        refine AtT.done ?_
        refine At.nrm ?_
        exact At.ret1 rfl (.tmp rfl) (by rw [hpl]; exact hs33)
      · have hno : goL (bn d ps sure) ps.length [] (m : Int) = none := by
          cases hh : goL (bn d ps sure) ps.length [] (m : Int) with
          | none => rfl
          | some l => rw [hh] at hm; cases hm
        rw [hno] at hpl
        refine At.nrm ?_
        refine At.ktext (.q 0 (.q 1 (.q 2 .done))) ?_
        refine AtT.kmove ?_
        first | refine AtT.kadd ?_ | refine AtT.kaddW ?_
        refine AtT.kassign ?_
        refine AtT.done ?_
        refine At.nrm ?_
        refine At.round (m + 1) ?_ ?_ ?_ ?_
        · show ps.length - (m + 1) < ps.length - m; omega
        · refine ⟨hVV.trans hV33, by omega, ?_⟩
          rw [hpl, show ps.length - (m + 1) = s by omega]; rfl
        · exact ⟨rfl, rfl, rfl, ivs (by omega), trivial⟩
        · exact Pt.auto
    · rw [show ps.length - m = 0 by omega] at hpl
      simp only [pfL] at hpl
      rw [hbl] at hpl
      refine At.nrm ?_
      refine At.ktext (.q 0 (.q 1 (.q 2 (.q 3 (.q 4 (.n false 5 (.q 6 (.q 7 (.q 8 (.q 9 (.q 10 .done))))))))))) ?_
      first | refine AtT.kloadOA tk25 ?_ | refine AtT.kloadA tk25 ?_ | refine AtT.kloadOP tk25 ?_
      refine AtT.kmove ?_
      refine AtT.kmove ?_
      refine AtT.kmove ?_
      first | refine AtT.klenS Try.underlying26 ?_ | refine AtT.klenR Try.underlying26 ?_
      refine AtT.kcall rfl rfl ok103 (rgoOn_f d ps sure hk ps.length [] (ps.length : Int) _ _ _ (by simp) (plan_nil false) (by omega) (by omega) hs' (Sl.nil _ _ _)) ?_
      rintro _ V44 hV44 ⟨u44, rfl, hs44⟩
      refine AtT.kmove ?_
      refine AtT.kextract ?_
      refine AtT.kextract ?_
      refine AtT.kassign ?_
      refine AtT.kassign ?_
      refine AtT.done ?_
      refine At.nrm ?_
      refine At.ktext (.q 0 (.q 1 .done)) ?_
      refine AtT.kmove ?_
      refine AtT.kassign ?_
      refine AtT.done ?_
      refine At.nrm ?_
      exact At.ret1 rfl (.tmp rfl) (by rw [hpl]; exact hs44)
theorem rplan_f (d : Dy) (ps : List Pn) (sure : Bool) (V : View) (v : Value) (hs : Sl V pne 3 v ps) : Fnc Try.prog 37 [dyv d, v, .bool sure] V fun r V' => ∃ u, r = .tuple #[u, iv (rowE d ps sure)] ∧ SlI V' u (pnL d ps sure) := by
  refine fn_of Try.func37 rfl Try.ntmps37 (Nat.le_of_ble_eq_true rfl) ?_
  intro w0 hw0
  refine At.nrm ?_
  refine At.ktext (.n false 0 (.q 1 (.q 2 .done))) ?_
  refine AtT.kbox ?_
  intro b3
  refine AtT.kassign ?_
  refine AtT.kassign ?_
  refine AtT.done ?_
  refine At.nrm ?_
  refine At.ktext (.q 0 (.q 1 (.q 2 (.n false 3 (.q 4 .done))))) ?_
  first | refine AtT.kloadOA tk25 ?_ | refine AtT.kloadA tk25 ?_ | refine AtT.kloadOP tk25 ?_
  refine AtT.kmove ?_
  refine AtT.kmove ?_
  refine AtT.kcallP rfl rfl ok74 (rowErr_f d ps sure _ _ hs) ?_
  rintro _ rfl
  refine AtT.kneI ?_
  refine AtT.done ?_
  refine At.nrm ?_
  refine At.condP rfl (fun he => ?_) (fun he => ?_)
  · refine At.nrm ?_
    refine At.ktext (.q 0 (.q 1 (.q 2 (.n false 3 (.q 4 (.q 5 .done)))))) ?_
    first | refine AtT.kloadOA tk25 ?_ | refine AtT.kloadA tk25 ?_ | refine AtT.kloadOP tk25 ?_
    refine AtT.kmove ?_
    refine AtT.kmove ?_
    refine AtT.kcallP rfl rfl ok74 (rowErr_f d ps sure _ _ hs) ?_
    rintro _ rfl
    refine AtT.kassign ?_
    refine AtT.kassign ?_
    refine AtT.done ?_
    refine At.nrm ?_
    exact At.ret2 rfl (.tmp rfl) (.tmp rfl) ⟨_, rfl, by rw [pnL, if_neg he]; exact Sl.nil _ _ _⟩
  have he' : rowE d ps sure = 0 := Decidable.not_not.1 he
  refine At.nrm ?_
  refine At.ktext (.q 0 (.q 1 (.q 2 (.n false 3 (.q 4 (.q 5 .done)))))) ?_
  first | refine AtT.kloadOA tk25 ?_ | refine AtT.kloadA tk25 ?_ | refine AtT.kloadOP tk25 ?_
  refine AtT.kmove ?_
  refine AtT.kmove ?_
  refine AtT.kcall rfl rfl ok79 (planOf_f d ps sure (rowE_ok he').1 _ _ hs) ?_
  rintro v20 V20 hV20 hs20
  refine AtT.kassign ?_
  refine AtT.kassign ?_
  refine AtT.done ?_
  refine At.nrm ?_
  exact At.ret2 rfl (.tmp rfl) (.tmp rfl) ⟨_, by rw [he'], by rw [pnL, if_pos he']; exact hs20⟩
end Go.Proofs.Ytmnbkceiaifncaa
set_option linter.unusedSectionVars false
set_option linter.unusedSimpArgs false
set_option linter.unusedVariables false
namespace Go.Lw
open Go.RowKit

section
variable {α β : Type} [DecidableEq α] (f : α → β)
def mOf : List α → Nat → MM α β
  | [], _ => []
  | a :: l, i => (a, f a, i) :: mOf l (i + 1)
theorem mOf_snoc (a : α) : ∀ (l : List α) (i : Nat), mOf f (l ++ [a]) i = mOf f l i ++ [(a, f a, i + l.length)]
  | [], i => by simp [mOf]
  | b :: l, i => by simp [mOf, mOf_snoc a l (i + 1)]; omega
theorem mOf_mem {e : α × β × Nat} : ∀ {l : List α} {i : Nat}, e ∈ mOf f l i → e.1 ∈ l ∧ e.2.1 = f e.1 ∧ i ≤ e.2.2 ∧ e.2.2 < i + l.length
  | b :: l, i, h => by
    simp only [mOf, List.mem_cons] at h
    rcases h with rfl | h
    · simp
    · have := mOf_mem h
      simp only [List.mem_cons, List.length_cons]
      exact ⟨.inr this.1, this.2.1, by omega, by omega⟩
theorem mOf_has {a : α} : ∀ {l : List α} {i : Nat}, a ∈ l → ∃ j, (a, f a, j) ∈ mOf f l i
  | b :: l, i, h => by
    rcases List.mem_cons.1 h with rfl | h
    · exact ⟨i, by simp [mOf]⟩
    · obtain ⟨j, hj⟩ := mOf_has (l := l) (i := i + 1) h
      exact ⟨j, List.mem_cons_of_mem _ hj⟩
theorem mOf_born : ∀ (l : List α) (i : Nat), ((mOf f l i).map (·.2.2)).Nodup
  | [], _ => by simp [mOf]
  | b :: l, i => by
    simp only [mOf, List.map_cons, List.nodup_cons, mOf_born l (i + 1), and_true]
    intro h
    obtain ⟨e, he, h2⟩ := List.mem_map.1 h
    have := mOf_mem f he
    omega
theorem mOf_keys : ∀ (l : List α) (i : Nat), (mOf f l i).map (·.1) = l
  | [], _ => rfl
  | b :: l, i => by simp [mOf, mOf_keys l (i + 1)]
theorem mOf_length : ∀ (l : List α) (i : Nat), (mOf f l i).length = l.length
  | [], _ => rfl
  | b :: l, i => by simp [mOf, mOf_length l (i + 1)]
theorem fk_new {a : α} : ∀ {M : MM α β} {k : Nat}, (∀ e ∈ M, e.1 ≠ a) → fk a M k = none
  | [], _, _ => rfl
  | e :: M, k, h => by
    have : ¬ a = e.1 := fun he => h e (by simp) he.symm
    simp only [fk, this, if_false]
    exact fk_new fun e he => h e (List.mem_cons_of_mem _ he)
theorem mget_no {a : α} {z : β} : ∀ {M : MM α β}, (∀ e ∈ M, e.1 ≠ a) → mget a z M = z
  | [], _ => rfl
  | e :: M, h => by
    have : ¬ a = e.1 := fun he => h e (by simp) he.symm
    simp only [mget, this, if_false]
    exact mget_no fun e he => h e (List.mem_cons_of_mem _ he)
theorem mget_fn {a : α} {z : β} : ∀ {M : MM α β}, (∀ e ∈ M, e.2.1 = f e.1) → (∃ e ∈ M, e.1 = a) → mget a z M = f a
  | [], _, h => by obtain ⟨_, h, _⟩ := h; cases h
  | e :: M, h1, h2 => by
    by_cases c : a = e.1
    · simp only [mget, c, if_true]; exact h1 e (by simp)
    · simp only [mget, c, if_false]
      refine mget_fn (fun e he => h1 e (List.mem_cons_of_mem _ he)) ?_
      obtain ⟨e', h3, h4⟩ := h2
      rcases List.mem_cons.1 h3 with rfl | h3
      · exact absurd h4.symm c
      · exact ⟨e', h3, h4⟩
theorem mdel_eq {a : α} : ∀ {M : MM α β}, (M.map (·.1)).Nodup → mdel a M = M.filter fun e => !decide (e.1 = a)
  | [], _ => rfl
  | e :: M, h => by
    simp only [List.map_cons, List.nodup_cons] at h
    by_cases c : a = e.1
    · have : ∀ e' ∈ M, (!decide (e'.1 = a)) = true := fun e' he => by
        have : e'.1 ≠ a := fun hc => h.1 (by rw [← c, ← hc]; exact List.mem_map_of_mem he)
        simp [this]
      simp only [mdel, c, if_true, List.filter_cons, decide_true, Bool.not_true, Bool.false_eq_true, if_false]
      rw [← c]
      exact (List.filter_eq_self.2 this).symm
    · have c' : ¬ e.1 = a := fun h => c h.symm
      simp [mdel, c, c', mdel_eq h.2]
end

/-- What is left of a map: what is good, and what was not looked at yet. -/
def left {α β : Type} (g : α × β × Nat → Bool) (M : MM α β) (seen : Array Nat) : MM α β := M.filter fun e => g e || !seen.contains e.2.2
theorem left_nil {α β : Type} (g : α × β × Nat → Bool) (M : MM α β) : left g M #[] = M := by
  unfold left; rw [List.filter_eq_self.2]; intro e _; simp
theorem inj_of {γ δ : Type} (h : γ → δ) : ∀ {l : List γ} {x y : γ}, (l.map h).Nodup → x ∈ l → y ∈ l → h x = h y → x = y
  | b :: l, x, y, hn, hx, hy, e => by
    simp only [List.map_cons, List.nodup_cons] at hn
    rcases List.mem_cons.1 hx with hx' | hx' <;> rcases List.mem_cons.1 hy with hy' | hy'
    · rw [hx', hy']
    · exact absurd (by rw [← hx', e]; exact List.mem_map_of_mem hy') hn.1
    · exact absurd (by rw [← hy', ← e]; exact List.mem_map_of_mem hx') hn.1
    · exact inj_of h hn.2 hx' hy' e
theorem filter_lt {γ : Type} {p q : γ → Bool} : ∀ {l : List γ} {x : γ}, (∀ y ∈ l, p y = true → q y = true) → x ∈ l → q x = true → p x = false → (l.filter p).length < (l.filter q).length
  | b :: l, x, h, hx, hq, hp => by
    have mono : ∀ l : List γ, (∀ y ∈ l, p y = true → q y = true) → (l.filter p).length ≤ (l.filter q).length := by
      intro l
      induction l with
      | nil => intro _; simp
      | cons b l ih =>
        intro h
        have := ih fun y hy => h y (List.mem_cons_of_mem _ hy)
        by_cases c : p b = true
        · have d := h b (by simp) c
          simp [List.filter_cons, c, d, this]
        · simp only [List.filter_cons, c, if_false, Bool.false_eq_true]
          split
          · simp only [List.length_cons]; omega
          · exact this
    rcases List.mem_cons.1 hx with rfl | hx
    · have := mono l fun y hy => h y (List.mem_cons_of_mem _ hy)
      simp only [List.filter_cons, hp, hq, if_true, if_false, Bool.false_eq_true, List.length_cons]; omega
    · have ih := filter_lt (fun y hy => h y (List.mem_cons_of_mem _ hy)) hx hq hp
      by_cases c : p b = true
      · have d := h b (by simp) c
        simp only [List.filter_cons, c, d, if_true, List.length_cons]; omega
      · simp only [List.filter_cons, c, if_false, Bool.false_eq_true]
        split
        · simp only [List.length_cons]; omega
        · exact ih
theorem left_keep {α β : Type} {g : α × β × Nat → Bool} {M : MM α β} {seen : Array Nat} {e : α × β × Nat} (hb : (M.map (·.2.2)).Nodup) (he : e ∈ M) (hg : g e = true) : left g M (seen.push e.2.2) = left g M seen := by
  unfold left
  refine List.filter_congr fun x hx => ?_
  by_cases c : x.2.2 = e.2.2
  · have : x = e := inj_of (fun e : α × β × Nat => e.2.2) hb hx he c
    subst this; simp [hg]
  · have : ¬ e.2.2 = x.2.2 := fun h => c h.symm
    simp [Array.contains_push, c]
theorem left_del {α β : Type} [DecidableEq α] {g : α × β × Nat → Bool} {M : MM α β} {seen : Array Nat} {e : α × β × Nat} (hb : (M.map (·.2.2)).Nodup) (hk : (M.map (·.1)).Nodup) (he : e ∈ M) (hg : g e = false) :
    mdel e.1 (left g M seen) = left g M (seen.push e.2.2) := by
  have hkl : ((left g M seen).map (·.1)).Nodup := hk.sublist ((List.filter_sublist).map _)
  rw [mdel_eq hkl]
  unfold left
  rw [List.filter_filter]
  refine List.filter_congr fun x hx => ?_
  by_cases c : x.1 = e.1
  · have : x = e := inj_of (fun e : α × β × Nat => e.1) hk hx he c
    subst this; simp [hg]
  · have : ¬ x.2.2 = e.2.2 := fun h => c (by rw [inj_of (fun e : α × β × Nat => e.2.2) hb hx he h])
    simp [Array.contains_push, c, this]
theorem unseen_lt {α β : Type} {M : MM α β} {seen : Array Nat} {e : α × β × Nat} (he : e ∈ M) (hs : e.2.2 ∉ seen) :
    (M.filter fun x => !(seen.push e.2.2).contains x.2.2).length < (M.filter fun x => !seen.contains x.2.2).length := by
  refine filter_lt (x := e) (fun y _ h => ?_) he (by simpa using hs) (by simp)
  simp at h ⊢
  exact h.1
theorem left_end {α β : Type} {g : α × β × Nat → Bool} {M : MM α β} {seen : Array Nat} (h : ∀ e ∈ left g M seen, e.2.2 ∈ seen) : left g M seen = M.filter g := by
  unfold left at *
  refine List.filter_congr fun x hx => ?_
  cases hg : g x with
  | true => simp
  | false =>
    by_cases c : x.2.2 ∈ seen
    · simp [c]
    · have := h x (by rw [List.mem_filter]; exact ⟨hx, by simp [hg, c]⟩)
      exact absurd this c


theorem mhas_iff {α β : Type} [DecidableEq α] (a : α) : ∀ (M : MM α β), mhas a M = true ↔ ∃ e ∈ M, e.1 = a
  | [] => by simp [mhas]
  | e :: M => by
    by_cases c : a = e.1
    · simp [mhas, c]
    · have c' : ¬ e.1 = a := fun h => c h.symm
      simp [mhas, c, c', mhas_iff a M]
section
variable {α β : Type} [DecidableEq α] {P : Program} {kt et : TypeId} {ek : α → Value} {ev' : β → Value} {M : MM α β} {b c : Nat}
theorem fk_isSome (a : α) : ∀ (M : MM α β) (i : Nat), (fk a M i).isSome = mhas a M
  | [], _ => rfl
  | e :: M, i => by
    simp only [fk, mhas]
    by_cases c : a = e.1
    · simp [c]
    · simp only [c, if_false]; exact fk_isSome a M (i + 1)
theorem run_lookup2 {w : World} {X : TypeId} {zv : Value} (K : KeyL P kt ek) (hX : P.underlying X = some (.map kt et)) (hz : zeroB P et = some zv) (zb : β) (hzb : ev' zb = zv) (a : α) (hb : w.heap[b]? = some (mobj ek ev' M c)) :
    (Instr.lookup X (.map (some b)) (ek a) true).run P w = .ok (.tuple #[ev' (mget a zb M), .bool (mhas a M)]) w := by
  simp only [Instr.lookup, Sem.run_bind, run_underlying hX, Result.andThen_ok, run_getMap hb, mobj, Sem.run_pure, K.ck, K.find a M, List.toList_toArray]
  rw [← fk_get a zb M 0, ← fk_isSome a M 0]
  cases fk a M 0 with
  | none => simp [run_zero hz, hzb, Sem.run_bind, Sem.run_pure, Result.andThen_ok]
  | some p => simp [Sem.run_pure, Result.andThen_ok]
variable {cx : Cx} {n : Nat} {ks : List (Nat × Value)} {O O' R R' : List Own} {V : View} {ops : Array Oper} {Qn : Act → World → Prop} {t : Tr} {i d : Nat} {T : TypeId} {pos : String} {after : Array Edge} {gd : Option (Nat × Bool)} {x y z : Operand}
theorem AtT.lookup2V {X : TypeId} {zv : Value} (ho : ops[i]? = some ⟨some d, .lookup X x y true, T, pos, after, gd⟩) (hg : Gd ks ops gd) (K : KeyL P kt ek) (a : α) (zb : β) (hX : P.underlying X = some (.map kt et)) (hz : zeroB P et = some zv) (hzb : ev' zb = zv) (hx : ev ks x = some (.map (some b))) (hy : ev ks y = some (ek a)) (hV : V b = some (mobj ek ev' M c)) (hn : d < n)
    (next : AtT cx n ((d, .tuple #[ev' (mget a zb M), .bool (mhas a M)]) :: ks) O V P ops Qn t) : AtT cx n ks O V P ops Qn (.q i t) :=
  .q ho hg rfl hn (fun a w hk hm => by simp only [execOp, hk.ev hx, hk.ev hy, Sem.run_bind, run_lookup2 K hX hz zb hzb _ (hm.view _ _ hV), Result.andThen_ok, Sem.run_pure]) next
end
end Go.Lw
set_option linter.unusedVariables false
namespace Go.Proofs.Ytmnbkceiaifncaa
open Go.Lw Go.Gl Go.RowKit

abbrev ekS (x : Int) : Value := .agg #[iv x]
theorem key126 : KeyL Try.prog 126 ekS where
  eq a b w := (eqS126 a b).2 w
  ck e a w := by
    have u3 := Try.underlying3
    have a3 := Try.isAgg3
    have z3 := Try.sizeOf3
    have ci : ∀ (x : Int) (w : World), (Instr.checkKey e 9999 3 (.int .i64 x)).run Try.prog w = .ok () w := fun x w => by
      rw [show (9999 : Nat) = 9998 + 1 from rfl, Instr.checkKey]
      simp [run_underlying u3, Sem.run_bind, Result.andThen_ok, Sem.run_pure]
    rw [show (10000 : Nat) = 9999 + 1 from rfl, Instr.checkKey]
    simp only [Sem.run_bind, run_underlying Try.underlying126, Result.andThen_ok]
    rw [← Array.forIn_toList]
    simp only [List.forIn_cons, List.forIn_nil, Sem.run_bind, Sem.run_pure, Result.andThen_ok]
    generalize (9999 : Nat) = q at ci ⊢
    go_simp
  sb a := by simp [Instr.sameBits]
  now := ⟨_, Try.underlying126, .inl fun a b => rfl⟩
abbrev setV (B : Bn) (k : Nat) : List Value := [ekS (k : Int), smv (sumL B (bitL k B.each.length))]
abbrev ysS (B : Bn) : List (List Value) := (List.range (2 ^ B.each.length)).map (setV B)
theorem ysS_at {B : Bn} {k : Nat} (h : k < 2 ^ B.each.length) : (ysS B)[k]? = some (setV B k) := by
  simp only [ysS, List.getElem?_map, List.getElem?_range h]; rfl
theorem bitL_in (k : Nat) : ∀ n, ∀ i ∈ bitL k n, 0 ≤ i ∧ i < (n : Int) := by
  intro n
  induction n with
  | zero => intro i hi; cases hi
  | succ n ihn =>
    intro i hi
    simp only [bitL] at hi
    split at hi
    · rcases List.mem_append.1 hi with h | h
      · have := ihn i h; push_cast; omega
      · rw [List.mem_singleton] at h; subst h; push_cast; omega
    · have := ihn i hi; push_cast; omega
/-- The function that runs over all sets of panels. -/
theorem iterS_f (B : Bn) (hB : BnOk B) (V : View) (p q : Addr) (hq : Cells V q [.pointer (some p)]) (hb : BnV V p B) : It Try.prog 113 [.pointer (some q)] V (ysS B) := by
  have n10 := hB.n10
  have hpow : 2 ^ B.each.length ≤ 1024 := Nat.pow_le_pow_right (n := 2) (by decide) n10
  obtain ⟨ae, ce, hcel, hsel⟩ := hb.each
  have c2 : Cells V (p.add 2) [.slice ae B.each.length ce] := hcel.at (k := 2) fun j u hj => by
    match j, hj with
    | 0, hj => exact hj
  refine it_of Try.func113 rfl Try.ntmps113 (Nat.le_of_ble_eq_true rfl) rfl ?_
  intro l J E w0 H hJ
  refine At.nrm ?_
  refine At.ktext (.q 0 (.q 1 (.q 2 (.q 3 (.q 4 (.q 5 (.q 6 .done))))))) ?_
  first | refine AtT.kloadO tk68 ?_ | refine AtT.kload tk68 ?_
  refine AtT.knil ?_
  first | refine AtT.kfieldO fo97_1 ?_ | with_reducible refine AtT.kfield2 fo97_1 ?_ | refine AtT.kfield fo97_1 ?_
  first | refine AtT.kloadO tk83 ?_ | refine AtT.kload tk83 ?_
  first | refine AtT.klenS Try.underlying83 ?_ | refine AtT.klenR Try.underlying83 ?_
  refine AtT.shlN rfl trivial rfl rfl rfl (by omega) (by decide) (N := B.each.length) ?_
  refine AtT.kmove ?_
  refine AtT.done ?_
  refine At.nrm ?_
  refine At.lpY H (ι := Nat) (fun k => k ≤ 2 ^ B.each.length) (fun k => [(0, .func (.yield l) #[] #[]), (1, .pointer (some q)), (11, iv ((2 ^ B.each.length : Nat) : Int)), (12, iv k)]) (fun k => k) (fun k => 2 ^ B.each.length - k) 0 (Nat.zero_le _) ⟨rfl, rfl, rfl, rfl, trivial⟩ hJ ?_
  rintro k w ks' hkl hJ rfl
  refine At.nrm ?_
  refine At.ktext (.q 0 .done) ?_
  refine AtT.klss ?_
  refine AtT.done ?_
  refine At.nrm ?_
  refine At.condP rfl (fun hp => ?_) (fun hp => ?_)
  · have hkp : k < 2 ^ B.each.length := by omega
    refine At.nrm ?_
    refine At.ktext (.q 0 (.q 1 .done)) ?_
    refine AtT.kmove ?_
    refine AtT.kassign ?_
    refine AtT.done ?_
    refine At.nrm ?_
    refine At.ktext (.q 0 .done) ?_
    refine AtT.kassign ?_
    refine AtT.done ?_
    refine At.nrm ?_
    refine At.ktext (.q 0 (.q 1 (.q 2 (.q 3 (.q 4 (.q 5 .done)))))) ?_
    first | refine AtT.kloadO tk68 ?_ | refine AtT.kload tk68 ?_
    refine AtT.knil ?_
    first | refine AtT.kfieldO fo97_1 ?_ | with_reducible refine AtT.kfield2 fo97_1 ?_ | refine AtT.kfield fo97_1 ?_
    first | refine AtT.kloadO tk83 ?_ | refine AtT.kload tk83 ?_
    first | refine AtT.klenS Try.underlying83 ?_ | refine AtT.klenR Try.underlying83 ?_
    refine AtT.kmove ?_
    refine AtT.done ?_
    refine At.nrm ?_
    refine At.newRow 3 1 ?_
    refine At.lp (ι := Nat × Option Addr × Nat) (KS := fun g => [(0, .func (.yield l) #[] #[]), (1, .pointer (some q)), (11, iv ((2 ^ B.each.length : Nat) : Int)), (12, iv k), (3, iv k), (4, .slice g.2.1 (bitL k g.1).length g.2.2), (19, iv B.each.length), (20, iv g.1)]) (OS := fun g => [.row (.slice g.2.1 (bitL k g.1).length g.2.2) 3 1 (bitL k g.1).length (flat ei (bitL k g.1))]) (VS := fun g V' => Le V V' ∧ g.1 ≤ B.each.length) (μ := fun g => B.each.length - g.1) (0, none, 0) ?_ ?_ ?_ ?_
    · exact ⟨rfl, rfl, rfl, rfl, rfl, rfl, rfl, rfl, trivial⟩
    · exact Pt.auto
    · exact ⟨Le.refl _, Nat.zero_le _⟩
    · rintro ⟨i, ao, co⟩ V' ks' O' ⟨hVV, hil⟩ hk hO hl2
      dsimp only at hil hk hO
      subst hk hO
      have hkn := bitL_len k i
      refine At.nrm ?_
      refine At.ktext (.q 0 .done) ?_
      refine AtT.klss ?_
      refine AtT.done ?_
      refine At.nrm ?_
      refine At.condP rfl (fun hp2 => ?_) (fun hp2 => ?_)
      · have hsr : k >>> i < 9223372036854775808 := Nat.lt_of_le_of_lt (by rw [Nat.shiftRight_eq_div_pow]; exact Nat.div_le_self _ _) (by omega : k < 9223372036854775808)
        refine At.nrm ?_
        refine At.ktext (.q 0 (.q 1 .done)) ?_
        refine AtT.kmove ?_
        refine AtT.kassign ?_
        refine AtT.done ?_
        refine At.nrm ?_
        refine At.ktext (.q 0 (.q 1 (.q 2 (.q 3 (.q 4 .done))))) ?_
        refine AtT.kmove ?_
        refine AtT.kmove ?_
        refine AtT.shrN rfl trivial rfl rfl rfl rfl (by omega) (by decide) (A := k) (N := i) ?_
        refine AtT.andN rfl trivial rfl rfl rfl rfl hsr (by decide) (by decide) (A := k >>> i) (B := 1) ?_
        refine AtT.keqI ?_
        refine AtT.done ?_
        refine At.nrm ?_
        refine At.condP rfl (fun hc => ?_) (fun hc => ?_)
        · have hbt : k.testBit i = true := (bit_iff k i).1 hc
          have hn2 : bitL k (i + 1) = bitL k i ++ [(i : Int)] := by simp only [bitL, hbt, if_true]
          refine At.nrm ?_
          refine At.ktext (.q 0 (.q 1 (.n false 2 (.n true 3 (.q 4 .done))))) ?_
          refine AtT.kmove ?_
          refine AtT.kmove ?_
          refine AtT.kbsliceG (bs27_1_0 _) ?_
          intro q30 V30 hV30 hq30
          first | refine AtT.kappend Try.underlying27 rw3 ?_
          intro a31 c31
          refine AtT.kassign ?_
          refine AtT.done ?_
          refine At.nrm ?_
          refine At.ktext (.q 0 (.q 1 .done)) ?_
          first | refine AtT.kadd ?_ | refine AtT.kaddW ?_
          refine AtT.kmove ?_
          refine AtT.done ?_
          refine At.nrm ?_
          refine At.round (i + 1, a31, c31) ?_ ?_ ?_ ?_
          · show B.each.length - (i + 1) < B.each.length - i; omega
          · exact ⟨hVV.trans (by assumption), by dsimp only; omega⟩
          · dsimp only; rw [hn2, List.length_append]; exact ⟨rfl, rfl, rfl, rfl, rfl, rfl, rfl, ivs (by omega), trivial⟩
          dsimp only
          rw [hn2, flat_snoc, List.length_append]
          · exact Pt.auto
        · have hbt : ¬ k.testBit i = true := fun h => hc ((bit_iff k i).2 h)
          have hn2 : bitL k (i + 1) = bitL k i := by simp only [bitL, if_neg hbt]
          refine At.nrm ?_
          refine At.ktext (.q 0 (.q 1 .done)) ?_
          first | refine AtT.kadd ?_ | refine AtT.kaddW ?_
          refine AtT.kmove ?_
          refine AtT.done ?_
          refine At.nrm ?_
          refine At.round (i + 1, ao, co) ?_ ?_ ?_ ?_
          · show B.each.length - (i + 1) < B.each.length - i; omega
          · exact ⟨hVV, by dsimp only; omega⟩
          · dsimp only; rw [hn2]; exact ⟨rfl, rfl, rfl, rfl, rfl, rfl, rfl, ivs (by omega), trivial⟩
          dsimp only
          rw [hn2]
          · exact Pt.auto
      · obtain rfl : i = B.each.length := by omega
        refine At.nrm ?_
        refine At.giveSl Lw.ei_len rfl rfl Pick.auto (fun V4 hV4 hs4 => ?_)
        have hb4 := (hb.le hVV).le hV4
        have hq4 := (hq.le hVV).le hV4
        refine At.ktext (.q 0 (.q 1 (.q 2 (.q 3 (.q 4 (.n false 5 (.n true 6 (.q 7 .done)))))))) ?_
        refine AtT.kmove ?_
        refine AtT.kmove ?_
        refine AtT.kbuild (bd126_0 _) ?_
        first | refine AtT.kloadO tk68 ?_ | refine AtT.kload tk68 ?_
        refine AtT.kmove ?_
        refine AtT.kcallP rfl rfl ok58 (sum_f B hB (bitL k B.each.length) (bitL_in k _) (by omega) _ p hb4 _ hs4) ?_
        rintro _ rfl
        refine AtT.yield rfl trivial rfl rfl H ((ysS_at hkp)) (hJ) (by decide) ?_ ?_
        all_goals (intro w39 hJ39)
        all_goals (refine AtT.knot ?_)
        all_goals refine AtT.done ?_
        all_goals (refine At.nrm ?_)
        rotate_left
        · refine At.condT rfl rfl ?_
          refine At.nrm ?_
          exact At.itEnd H (.inr rfl) rfl (.inr hJ39)
        refine At.condF rfl rfl ?_
        refine At.nrm ?_
        refine At.ktext (.q 0 (.q 1 .done)) ?_
        first | refine AtT.kadd ?_ | refine AtT.kaddW ?_
        refine AtT.kmove ?_
        refine AtT.done ?_
        refine At.nrm ?_
        refine At.roundY H (k + 1) ?_ (by omega) ?_ hJ39
        · show 2 ^ B.each.length - (k + 1) < 2 ^ B.each.length - k; omega
        · exact ⟨rfl, rfl, rfl, ivs (by push_cast; omega), trivial⟩
  · obtain rfl : k = 2 ^ B.each.length := by omega
    refine At.nrm ?_
    exact At.itEnd H (.inl rfl) rfl (.inl (by rw [ysS, List.length_map, List.length_range]; exact hJ))
theorem sets_f (V : View) (p : Addr) : Fnc Try.prog 109 [.pointer (some p)] V fun r V' => ∃ b : Addr, r = .func (.func 113) #[] #[.pointer (some b)] ∧ Cells V' b [.pointer (some p)] := by
  refine fn_of Try.func109 rfl Try.ntmps109 (Nat.le_of_ble_eq_true rfl) ?_
  intro w0 hw0
  refine At.nrm ?_
  refine At.ktext (.n false 0 (.q 1 .done)) ?_
  refine AtT.kbox ?_
  intro b1
  refine AtT.kassign ?_
  refine AtT.done ?_
  refine At.nrm ?_
  refine At.giveB (b := b1) Pick.auto ?_
  intro V1 hV1 hb1
  refine At.ktext (.q 0 (.q 1 .done)) ?_
  refine AtT.kfn ?_
  refine AtT.kassign ?_
  refine AtT.done ?_
  refine At.nrm ?_
  exact At.ret1 rfl (.tmp rfl) ⟨_, rfl, cells_blk hb1⟩
end Go.Proofs.Ytmnbkceiaifncaa
set_option linter.unusedVariables false
namespace Go.Proofs.Ytmnbkceiaifncaa
open Go.Lw Go.Gl Go.RowKit

/-- What the sets have, by their numbers. -/
def hasK (B : Bn) (x : Int) : Sm := sumL B (bitL x.toNat B.each.length)
abbrev keysL (n : Nat) : List Int := (List.range (2 ^ n)).map fun (k : Nat) => (k : Int)
theorem keysL_len (n : Nat) : (keysL n).length = 2 ^ n := by simp [keysL]
theorem keysL_nodup (n : Nat) : (keysL n).Nodup := by
  unfold keysL
  exact (List.pairwise_map.2 ((List.nodup_range (n := 2 ^ n)).imp fun {a b} h e => h (Int.ofNat.inj e)))
theorem keysL_at {n k : Nat} (h : k < 2 ^ n) : (keysL n)[k]? = some (k : Int) := by simp only [keysL, List.getElem?_map, List.getElem?_range h]; rfl
/-- Which sets of panels share a batch. -/
structure CanV (B : Bn) (V : View) (b : Nat) : Prop where
  ex : ∃ (M : MM Int Sm) (c : Nat), V b = some (mobj ekS smv M c) ∧ ∀ k : Nat, k < 2 ^ B.each.length → mhas (k : Int) M = decide (fitE B (sm B k.testBit B.each.length) = 0)
theorem CanV.le {B : Bn} {V V' : View} {b : Nat} (h : CanV B V b) (hl : Le V V') : CanV B V' b := by
  obtain ⟨M, c, h1, h2⟩ := h.ex
  exact ⟨M, c, hl _ _ h1, h2⟩
theorem batches_f (B : Bn) (hB : BnOk B) (V : View) (p : Addr) (hb : BnV V p B) : Fnc Try.prog 100 [.pointer (some p)] V fun r V' => ∃ b, r = .map (some b) ∧ CanV B V' b := by
  have n10 := hB.n10
  have hpow : 2 ^ B.each.length ≤ 1024 := Nat.pow_le_pow_right (n := 2) (by decide) n10
  have hkl := keysL_len B.each.length
  have hnd := keysL_nodup B.each.length
  refine fn_ofM Try.func100 rfl Try.ntmps100 (Nat.le_of_ble_eq_true rfl) ?_
  intro w0 hw0
  refine At.nrm ?_
  refine At.ktext (.q 0 .done) ?_
  refine AtT.kassign ?_
  refine AtT.done ?_
  refine At.nrm ?_
  refine At.ktext (.n false 0 (.n false 1 (.n true 2 .done))) ?_
  refine AtT.makeMap rfl trivial ekS smv (by decide) ?_
  intro b8
  refine AtT.kalloc z113 ?_
  intro b3
  first | refine AtT.kstore1 tk113 ?_ | refine AtT.kstoreA tk113 ?_
  refine AtT.done ?_
  refine At.nrm ?_
  refine At.ktext (.q 0 (.n false 1 .done)) ?_
  refine AtT.kmove ?_
  refine AtT.kcall rfl rfl ok109 (sets_f _ p) ?_
  rintro _ V2 hV2 ⟨b, rfl, hbc⟩
  refine AtT.done ?_
  refine At.nrm ?_
  refine At.rangeFunc (Vi := V2) (ys := ysS B) (ι := Nat) (fun k => k)
    (fun k => [.blk b3 (LC [.map (some b8)] 113), .blk b8 (mobj ekS smv (mOf (hasK B) ((keysL B.each.length).take k) 0) k)])
    (fun k V' => Le V2 V') (fun _ _ _ => False) rfl ok113 0 rfl ?_ (Le.refl _) (iterS_f B hB V2 p b hbc (hb.le hV2)) (fun _ _ h => h) (by decide) (fun y hy => by obtain ⟨k, _, rfl⟩ := List.mem_map.1 hy; rfl) rfl ?_ ?_ (fun _ _ _ _ h => h.elim)
  · exact Pt.auto
  · rintro k y l D r V' ks' O' hy hVV hl rfl rfl
    dsimp only at hy ⊢
    have hk : k < 2 ^ B.each.length := by
      have := (List.getElem?_eq_some_iff.1 hy).1
      rwa [ysS, List.length_map, List.length_range] at this
    obtain rfl : y = setV B k := by rw [ysS_at hk] at hy; exact (Option.some.inj hy).symm
    have htk := take_snoc' (keysL_at hk)
    have htl : ((keysL B.each.length).take k).length = k := by rw [List.length_take]; omega
    have hpn : ∀ e ∈ mOf (hasK B) ((keysL B.each.length).take k) 0, e.1 ≠ (k : Int) := fun e he h => by
      have h1 := (mOf_mem _ he).1
      rw [h] at h1
      obtain ⟨j, hj, hje⟩ := List.mem_take_iff_getElem.1 h1
      simp only [keysL, List.getElem_map, List.getElem_range] at hje
      omega
    have eM : mOf (hasK B) ((keysL B.each.length).take (k + 1)) 0 = mOf (hasK B) ((keysL B.each.length).take k) 0 ++ [((k : Int), hasK B (k : Int), k)] := by
      rw [htk, mOf_snoc, htl, Nat.zero_add]
    have hhk : hasK B (k : Int) = sumL B (bitL k B.each.length) := by unfold hasK; rw [Int.toNat_natCast]
    rw [show setV B k = [ekS (k : Int), smv (hasK B (k : Int))] by rw [hhk]]
    show At _ _ ((12, smv (hasK B (k : Int))) :: (11, ekS (k : Int)) :: _) _ _ _
    refine At.nrm ?_
    refine At.ktext (.n false 0 (.n true 1 .done)) ?_
    refine AtT.kalloc z126 ?_
    intro b4
    refine AtT.kstoreA tk126 ?_
    refine AtT.done ?_
    refine At.nrm ?_
    refine At.ktext (.n false 0 (.n true 1 .done)) ?_
    refine AtT.kalloc z72 ?_
    intro b5
    refine AtT.kstoreA tk72 ?_
    refine AtT.done ?_
    refine At.nrm ?_
    refine At.begin Pick.auto ?_
    refine At.nrm ?_
    refine At.ktext (.q 0 (.q 1 (.q 2 (.n true 3 .done)))) ?_
    first | refine AtT.kloadO tk113 ?_ | refine AtT.kload tk113 ?_
    first | refine AtT.kloadOA tk126 ?_ | refine AtT.kloadA tk126 ?_ | refine AtT.kloadOP tk126 ?_
    first | refine AtT.kloadOA tk72 ?_ | refine AtT.kloadA tk72 ?_ | refine AtT.kloadOP tk72 ?_
    refine AtT.mapNew rfl trivial key126 (k : Int) (hasK B (k : Int))  Try.underlying113 rfl rfl rfl (fk_new hpn) (by repeat (first | exact Upd.here | apply Upd.there)) ?_
    refine AtT.done ?_
    refine At.nrm ?_
    refine At.roundN (k + 1) rfl hVV Pick.auto ?_
    rw [eM]
    · exact Pt.auto
  rintro k D V3 O' hk hVV hl rfl
  dsimp only at hk ⊢
  rw [ysS, List.length_map, List.length_range] at hk
  subst hk
  rw [List.take_of_length_le (by omega)]
  refine At.sub (ks' := [(0, .pointer (some p)), (3, .pointer (some ⟨b3, 0, none⟩))]) ⟨rfl, rfl, trivial⟩ ?_
  obtain ⟨M, hM⟩ : ∃ M, M = mOf (hasK B) (keysL B.each.length) 0 := ⟨_, rfl⟩
  rw [← hM]
  have hborn : (M.map (·.2.2)).Nodup := by rw [hM]; exact mOf_born _ _ _
  have hkeys : (M.map (·.1)).Nodup := by rw [hM, mOf_keys]; exact hnd
  have hlt : ∀ e ∈ M, e.2.2 < 2 ^ B.each.length := fun e he => by rw [hM] at he; have := (mOf_mem _ he).2.2; omega
  have hval : ∀ e ∈ M, e.1 ∈ keysL B.each.length ∧ e.2.1 = hasK B e.1 := fun e he => by rw [hM] at he; exact ⟨(mOf_mem _ he).1, (mOf_mem _ he).2.1⟩
  have hb3 := hb.le (hV2.trans hVV)
  refine At.nrm ?_
  refine At.ktext (.q 0 (.n false 1 .done)) ?_
  first | refine AtT.kloadO tk113 ?_ | refine AtT.kload tk113 ?_
  refine AtT.range rfl trivial Try.underlying113 rfl Pick.auto (by decide) ?_
  intro b17
  refine AtT.done ?_
  refine At.nrm ?_
  refine At.lp (ι := Array Nat) (KS := fun _ => [(0, .pointer (some p)), (3, .pointer (some ⟨b3, 0, none⟩)), (17, .pointer (some ⟨b17, 0, none⟩))])
    (OS := fun seen => [.blk b17 (.mapIter (some b8) (2 ^ B.each.length) seen (2 ^ B.each.length)), .blk D (.deferred (some [])), .blk b3 (LC [.map (some b8)] 113), .blk b8 (mobj ekS smv (left (fun e => decide (fitE B e.2.1 = 0)) M seen) (2 ^ B.each.length))])
    (VS := fun _ V' => V' = V3) (μ := fun seen => (M.filter fun e => !seen.contains e.2.2).length) #[] ?_ ?_ ?_ ?_
  · exact ⟨rfl, rfl, rfl, trivial⟩
  · rw [left_nil]
    · exact Pt.auto
  · rfl
  · rintro seen _ ks' O' rfl hk hO hl2
    subst hk hO
    have hsub : ∀ e ∈ left (fun e => decide (fitE B e.2.1 = 0)) M seen, e ∈ M := fun e he => (List.mem_filter.1 he).1
    refine At.nrm ?_
    refine At.ktext (.n true 0 (.q 1 .done)) ?_
    all_goals (refine AtT.next rfl trivial rfl Pick.auto Pick.auto (fun e he => hlt e (hsub e he)) (Nat.le_refl _) (by decide) (fun hall => ?_) (fun e he hns => ?_))
    all_goals (refine AtT.kextract ?_)
    all_goals refine AtT.done ?_
    all_goals (refine At.nrm ?_)
    · refine At.condF rfl rfl ?_
      rw [left_end hall]
      refine At.nrm ?_
      refine At.ktext (.q 0 (.q 1 .done)) ?_
      first | refine AtT.kloadO tk113 ?_ | refine AtT.kload tk113 ?_
      refine AtT.kassign ?_
      refine AtT.done ?_
      refine At.nrm ?_
      refine At.unmark (.inl rfl) rfl Pick.auto ?_
      refine At.giveB (b := b8) Pick.auto (fun V5 hV5 hb8 => ?_)
      refine At.ret1 rfl (.tmp rfl) ⟨b8, rfl, ⟨_, _, hb8, fun k hk => ?_⟩⟩
      rw [Bool.eq_iff_iff, mhas_iff, decide_eq_true_eq]
      have hh : hasK B (k : Int) = sm B k.testBit B.each.length := by unfold hasK; rw [Int.toNat_natCast, sum_bit]
      constructor
      · rintro ⟨e, he, hek⟩
        obtain ⟨h1, h2⟩ := List.mem_filter.1 he
        rw [decide_eq_true_eq, (hval e h1).2, hek, hh] at h2
        exact h2
      · intro hf
        have hm : (k : Int) ∈ keysL B.each.length := List.mem_of_getElem? (keysL_at hk)
        obtain ⟨j, hj⟩ := mOf_has (hasK B) (i := 0) hm
        rw [← hM] at hj
        exact ⟨_, List.mem_filter.2 ⟨hj, by simpa [hh] using hf⟩, rfl⟩
    · refine At.condT rfl rfl ?_
      have heM := hsub e he
      have hun := unseen_lt heM hns
      have hnd2 : ((left (fun e => decide (fitE B e.2.1 = 0)) M seen).map (·.2.2)).Nodup := hborn.sublist (List.filter_sublist.map _)
      refine At.nrm ?_
      refine At.ktext (.n false 0 (.q 1 (.q 2 (.n false 3 (.n false 4 (.n true 5 (.n true 6 .done))))))) ?_
      refine AtT.entry rfl trivial rfl Pick.auto Pick.auto he hnd2 (by decide) ?_
      refine AtT.kextract ?_
      refine AtT.kextract ?_
      refine AtT.kalloc z126 ?_
      intro b6
      refine AtT.kalloc z72 ?_
      intro b7
      refine AtT.kstoreA tk126 ?_
      refine AtT.kstoreA tk72 ?_
      refine AtT.done ?_
      refine At.nrm ?_
      refine At.ktext (.q 0 (.q 1 (.n false 2 (.q 3 .done)))) ?_
      refine AtT.kmove ?_
      first | refine AtT.kloadOA tk72 ?_ | refine AtT.kloadA tk72 ?_ | refine AtT.kloadOP tk72 ?_
      refine AtT.kcallP rfl rfl ok59 (fits_f B hB e.2.1 _ p hb3) ?_
      rintro _ rfl
      refine AtT.kneI ?_
      refine AtT.done ?_
      refine At.nrm ?_
      refine At.condP rfl (fun hm => ?_) (fun hm => ?_)
      · have hg : decide (fitE B e.2.1 = 0) = false := decide_eq_false hm
        have hdel := left_del (g := fun e : Int × Sm × Nat => decide (fitE B e.2.1 = 0)) (seen := seen) hborn hkeys heM hg
        refine At.nrm ?_
        refine At.ktext (.q 0 (.q 1 (.n true 2 .done))) ?_
        first | refine AtT.kloadO tk113 ?_ | refine AtT.kload tk113 ?_
        first | refine AtT.kloadOA tk126 ?_ | refine AtT.kloadA tk126 ?_ | refine AtT.kloadOP tk126 ?_
        refine AtT.mapDel rfl trivial key126 e.1 smv rfl Try.underlying113 rfl rfl (by repeat (first | exact Upd.here | apply Upd.there)) ?_
        refine AtT.done ?_
        refine At.nrm ?_
        refine At.round (seen.push e.2.2) hun rfl ⟨rfl, rfl, rfl, trivial⟩ ?_
        rw [hdel]
        · exact Pt.auto
      · have hg : decide (fitE B e.2.1 = 0) = true := decide_eq_true (Decidable.not_not.1 hm)
        have hkeep := left_keep (g := fun e : Int × Sm × Nat => decide (fitE B e.2.1 = 0)) (seen := seen) hborn heM hg
        refine At.nrm ?_
        refine At.round (seen.push e.2.2) hun rfl ⟨rfl, rfl, rfl, trivial⟩ ?_
        rw [hkeep]
        · exact Pt.auto
end Go.Proofs.Ytmnbkceiaifncaa
namespace Go.Gl
open Go.Lw
/-- Those panels that bits say are put into so many batches. -/
def GdS (B : Bn) (S : Nat) (f : Nat → Nat) (m : Nat) : Prop := (∀ i, i < B.each.length → S.testBit i = true → f i < m) ∧ ∀ k, fitE B (sm B (fun i => S.testBit i && decide (f i = k)) B.each.length) = 0
/-- So many batches are enough, and fewer are not. -/
structure Lst (B : Bn) (S : Nat) (v : Int) : Prop where
  nn : 0 ≤ v
  can : ∃ f, GdS B S f v.toNat
  least : ∀ f m, GdS B S f m → v ≤ (m : Int)
theorem lst_zero {B : Bn} (hB : BnOk B) : Lst B 0 0 := by
  refine ⟨Int.le_refl 0, ⟨id, fun i _ h => by simp at h, fun k => ?_⟩, fun f m _ => by omega⟩
  rw [sm_none B (fun i _ => by simp)]; exact fit0 hB
theorem gds_id {B : Bn} (hB : BnOk B) (hf : FineB B) (S : Nat) : GdS B S id B.each.length :=
  ⟨fun i hi _ => hi, fun k => fit_sub hB (fun i _ h => by rw [Bool.and_eq_true] at h; exact h.2) ((gd_single hB hf).2 k)⟩
theorem lst_le {B : Bn} (hB : BnOk B) (hf : FineB B) {S : Nat} {v : Int} (h : Lst B S v) : v ≤ (B.each.length : Int) := h.least _ _ (gds_id hB hf S)
/-- A set, by bits. -/
def mkM (q : Nat → Bool) : Nat → Nat
  | 0 => 0
  | k + 1 => if q k = true then mkM q k ||| 2 ^ k else mkM q k
theorem mkM_bit (q : Nat → Bool) : ∀ n i, (mkM q n).testBit i = (decide (i < n) && q i)
  | 0, i => by simp [mkM]
  | n + 1, i => by
    have ih := mkM_bit q n i
    simp only [mkM]
    by_cases c : q n = true
    · rw [if_pos c, Nat.testBit_or, ih, Nat.testBit_two_pow]
      by_cases d : n = i
      · subst d; simp [c]
      · have : decide (i < n + 1) = decide (i < n) := by rw [decide_eq_decide]; omega
        simp [d, this]
    · rw [if_neg c, ih]
      by_cases d : n = i
      · subst d; simp [c]
      · have : decide (i < n + 1) = decide (i < n) := by rw [decide_eq_decide]; omega
        rw [this]
theorem sub_bit {p S : Nat} (h : p &&& S = p) {i : Nat} (hi : p.testBit i = true) : S.testBit i = true := by
  rw [← h, Nat.testBit_and, Bool.and_eq_true] at hi; exact hi.2
theorem sub_of {p S : Nat} (h : ∀ i, p.testBit i = true → S.testBit i = true) : p &&& S = p := by
  refine Nat.eq_of_testBit_eq fun i => ?_
  rw [Nat.testBit_and]
  cases hp : p.testBit i with
  | false => rfl
  | true => rw [h i hp]; rfl
theorem low_ex {S n : Nat} (h0 : S ≠ 0) (hn : S < 2 ^ n) : ∃ i, i < n ∧ S.testBit i = true ∧ ∀ j, j < i → S.testBit j = false := by
  have ex : ∃ i, S.testBit i = true := by
    by_cases c : ∃ i, S.testBit i = true
    · exact c
    · exfalso
      exact h0 (Nat.eq_of_testBit_eq fun i => by
        cases hi : S.testBit i with
        | false => simp
        | true => exact absurd ⟨i, hi⟩ c)
  obtain ⟨i, hi⟩ := ex
  have key : ∀ m, (∃ i, i < m ∧ S.testBit i = true) → ∃ i, S.testBit i = true ∧ ∀ j, j < i → S.testBit j = false := by
    intro m
    induction m with
    | zero => rintro ⟨i, hi, _⟩; omega
    | succ m ih =>
      rintro ⟨i, hi, hb⟩
      by_cases c : ∃ i, i < m ∧ S.testBit i = true
      · exact ih c
      · refine ⟨i, hb, fun j hj => ?_⟩
        cases hj2 : S.testBit j with
        | false => rfl
        | true => exact absurd ⟨j, by omega, hj2⟩ c
  obtain ⟨i, h1, h2⟩ := key (i + 1) ⟨i, by omega, hi⟩
  refine ⟨i, ?_, h1, h2⟩
  by_cases c : i < n
  · exact c
  · rw [Nat.testBit_lt_two_pow (Nat.lt_of_lt_of_le hn (Nat.pow_le_pow_right (by decide) (by omega)))] at h1; cases h1
/-- The next smaller subset. -/
theorem sub_next : ∀ (q p S : Nat), p &&& S = p → q &&& S = q → p < q → p ≤ (q - 1) &&& S := by
  intro q
  induction q using Nat.strongRecOn with
  | _ q ih =>
    intro p S hp hq hlt
    have hdiv : ∀ a b : Nat, (a &&& b) / 2 = a / 2 &&& b / 2 := fun a b => by
      have := Nat.shiftRight_and_distrib (a := a) (b := b) (i := 1)
      simpa [Nat.shiftRight_eq_div_pow] using this
    have hp2 : p / 2 &&& S / 2 = p / 2 := by rw [← hdiv, hp]
    have hq2 : q / 2 &&& S / 2 = q / 2 := by rw [← hdiv, hq]
    have hd := hdiv (q - 1) S
    by_cases c : q % 2 = 1
    · have e : (q - 1) / 2 = q / 2 := by omega
      rw [e, hq2] at hd
      omega
    · have e : (q - 1) / 2 = q / 2 - 1 := by omega
      rw [e] at hd
      have h1 := ih (q / 2) (by omega) (p / 2) (S / 2) hp2 hq2 (by omega)
      rw [← hd] at h1
      have h2 : p % 2 ≤ ((q - 1) &&& S) % 2 := by
        by_cases d : p % 2 = 1
        · have b1 : p.testBit 0 = true := by rw [Nat.testBit_zero]; simpa using d
          have b2 := sub_bit hp b1
          have b3 : (q - 1).testBit 0 = true := by rw [Nat.testBit_zero]; simp; omega
          have b4 : ((q - 1) &&& S).testBit 0 = true := by rw [Nat.testBit_and, b3, b2]; rfl
          rw [Nat.testBit_zero] at b4
          have b4 : ((q - 1) &&& S) % 2 = 1 := by simpa using b4
          omega
        · omega
      omega
/-- A part that shares a batch, and those that are left. -/
theorem gds_part {B : Bn} {S p : Nat} (hps : p &&& S = p) (hfit : fitE B (sm B p.testBit B.each.length) = 0) (hS : S < 9223372036854775808) {w : Int} (hw : Lst B (clrB S p) w) : ∃ f, GdS B S f (1 + w).toNat := by
  obtain ⟨f, h1, h2⟩ := hw.can
  have hpb : p < 18446744073709551616 := Nat.lt_of_le_of_lt (by rw [← hps]; exact Nat.and_le_right) (by omega : S < 18446744073709551616)
  have hcb : ∀ i, (clrB S p).testBit i = (S.testBit i && !p.testBit i) := fun i => clrB_bit S p i hpb (by omega)
  have hnn := hw.nn
  refine ⟨fun i => if p.testBit i = true then w.toNat else f i, fun i hi hb => ?_, fun k => ?_⟩
  · show (if p.testBit i = true then w.toNat else f i) < _
    by_cases c : p.testBit i = true
    · rw [if_pos c]; omega
    · rw [if_neg c]
      have := h1 i hi (by rw [hcb, hb]; simpa using c)
      omega
  · by_cases c : k = w.toNat
    · rw [sm_congr B (q := p.testBit) (fun i hi => ?_)]
      · exact hfit
      · show (S.testBit i && decide ((if p.testBit i = true then w.toNat else f i) = k)) = p.testBit i
        by_cases d : p.testBit i = true
        · rw [if_pos d, d, sub_bit hps d]; simp [c]
        · rw [if_neg d]
          have d' : p.testBit i = false := by simpa using d
          rw [d', Bool.and_eq_false_iff]
          by_cases e : S.testBit i = true
          · right
            have := h1 i hi (by rw [hcb, e, d']; rfl)
            exact decide_eq_false (by omega)
          · left; simpa using e
    · rw [sm_congr B (q := fun i => (clrB S p).testBit i && decide (f i = k)) (fun i hi => ?_)]
      · exact h2 k
      · show (S.testBit i && decide ((if p.testBit i = true then w.toNat else f i) = k)) = ((clrB S p).testBit i && decide (f i = k))
        rw [hcb]
        by_cases d : p.testBit i = true
        · rw [if_pos d, d]
          have : decide (w.toNat = k) = false := decide_eq_false (fun h => c h.symm)
          rw [this]; simp
        · have d' : p.testBit i = false := by simpa using d
          rw [if_neg d, d']; simp
/-- The least of the tries is the fewest. -/
theorem lst_step {B : Bn} (hB : BnOk B) {S : Nat} (h0 : S ≠ 0) (hn : S < 2 ^ B.each.length) (hS : S < 9223372036854775808) {T : List Int} {v : Int} (h1 : ∀ u ∈ T, 0 ≤ u ∧ ∃ f, GdS B S f u.toNat)
    (h2 : ∀ p, p &&& S = p → p ≠ 0 → fitE B (sm B p.testBit B.each.length) = 0 → p &&& lowB S ≠ 0 → ∃ w, Lst B (clrB S p) w ∧ 1 + w ∈ T) (hv : v ∈ T) (hm : ∀ u ∈ T, v ≤ u) : Lst B S v := by
  refine ⟨(h1 v hv).1, (h1 v hv).2, fun f m hg => ?_⟩
  obtain ⟨i0, hi0, hb0, hlow⟩ := low_ex h0 hn
  let p := mkM (fun i => S.testBit i && decide (f i = f i0)) B.each.length
  have hpb : ∀ i, p.testBit i = (decide (i < B.each.length) && (S.testBit i && decide (f i = f i0))) := mkM_bit _ _
  have hp0 : p.testBit i0 = true := by rw [hpb]; simp [hi0, hb0]
  have hps : p &&& S = p := sub_of fun i hi => by rw [hpb] at hi; simp at hi; exact hi.2.1
  have hple : p ≤ S := by rw [← hps]; exact Nat.and_le_right
  have hne : p ≠ 0 := fun h => by rw [h] at hp0; simp at hp0
  have hfit : fitE B (sm B p.testBit B.each.length) = 0 := by
    rw [sm_congr B (q := fun i => S.testBit i && decide (f i = f i0)) (fun i hi => by rw [hpb]; simp [hi])]
    exact hg.2 _
  have hlb : p &&& lowB S ≠ 0 := fun h => by
    have : (p &&& lowB S).testBit i0 = true := by
      rw [Nat.testBit_and, hp0, lowB_bit S i0 hS, hb0]
      have : ¬ ∃ j, j < i0 ∧ S.testBit j = true := fun ⟨j, hj, hjb⟩ => by rw [hlow j hj] at hjb; cases hjb
      simp [this]
    rw [h] at this; simp at this
  obtain ⟨w, hw, hwT⟩ := h2 p hps hne hfit hlb
  have hcb : ∀ i, (clrB S p).testBit i = (S.testBit i && !p.testBit i) := fun i => clrB_bit S p i (by omega) (by omega)
  have hfm := hg.1 i0 hi0 hb0
  have hle := hw.least (fun i => swp (f i0) (m - 1) (f i)) (m - 1) ⟨fun i hi hb => ?_, fun k => ?_⟩
  · have := hm _ hwT
    omega
  · rw [hcb, Bool.and_eq_true, Bool.not_eq_true', hpb] at hb
    have hfi := hg.1 i hi hb.1
    have hne2 : f i ≠ f i0 := fun h => by
      have := hb.2
      rw [hb.1, h] at this; simp [hi] at this
    show swp (f i0) (m - 1) (f i) < m - 1
    have hlt : swp (f i0) (m - 1) (f i) < m := swp_lt hfm (by omega) hfi
    have : swp (f i0) (m - 1) (f i) ≠ m - 1 := fun h => hne2 (by rw [(swp_iff _ _ _ _).1 h, swp_r])
    omega
  · refine fit_sub hB (fun i hi h => ?_) (hg.2 (swp (f i0) (m - 1) k))
    rw [Bool.and_eq_true, decide_eq_true_eq] at h ⊢
    rw [hcb, Bool.and_eq_true] at h
    exact ⟨h.1.1, (swp_iff _ _ _ _).1 h.2⟩
theorem best_min : ∀ (l : List Int) (o : Int), bestOf (fun x y => decide (x < y)) o l ≤ o ∧ ∀ x ∈ l, bestOf (fun x y => decide (x < y)) o l ≤ x
  | [], o => ⟨Int.le_refl _, fun x hx => by cases hx⟩
  | y :: l, o => by
    have e : bestOf (fun x y => decide (x < y)) o (y :: l) = bestOf (fun x y => decide (x < y)) (if decide (y < o) = true then y else o) l := rfl
    obtain ⟨a, b⟩ := best_min l (if decide (y < o) = true then y else o)
    rw [e]
    have h1 : (if decide (y < o) = true then y else o) ≤ o ∧ (if decide (y < o) = true then y else o) ≤ y := by
      by_cases c : y < o
      · rw [if_pos (by simpa using c)]; omega
      · rw [if_neg (by simpa using c)]; omega
    refine ⟨by omega, fun x hx => ?_⟩
    rcases List.mem_cons.1 hx with rfl | hx
    · omega
    · exact b x hx
/-- A set of all panels, and those from one on. -/
theorem lst_full {B : Bn} {v : Int} (h : Lst B (2 ^ B.each.length - 1) v) {l : List Int} (hb : Best B l) : v = batN l := by
  have hbit : ∀ i, i < B.each.length → (2 ^ B.each.length - 1).testBit i = true := fun i hi => by rw [Nat.testBit_two_pow_sub_one]; simpa using hi
  have h0 := batN_pos l
  have a := h.least (fun i => (l.getD i 0).toNat) (batN l).toNat (by
    have hg := good_gd (plan_in hb.plan) hb.len hb.good (m := (batN l).toNat) (by omega)
    exact ⟨fun i hi _ => hg.1 i hi, fun k => by rw [sm_congr B (fun i hi => by rw [hbit i hi, Bool.true_and])]; exact hg.2 k⟩)
  obtain ⟨f, hf1, hf2⟩ := h.can
  have b := hb.least f v.toNat ⟨fun i hi => hf1 i hi (hbit i hi), fun k => by
    rw [sm_congr B (q := fun i => (2 ^ B.each.length - 1).testBit i && decide (f i = k)) (fun i hi => by rw [hbit i hi, Bool.true_and])]; exact hf2 k⟩
  have := h.nn
  omega
theorem lst_grow {B : Bn} (hB : BnOk B) {S S' : Nat} (hs : ∀ i, i < B.each.length → S.testBit i = true → S'.testBit i = true) {v v' : Int} (h : Lst B S v) (h' : Lst B S' v') : v ≤ v' := by
  obtain ⟨f, hf1, hf2⟩ := h'.can
  have := h.least f v'.toNat ⟨fun i hi hb => hf1 i hi (hs i hi hb), fun k => fit_sub hB (fun i hi hb => by
    rw [Bool.and_eq_true] at hb ⊢
    exact ⟨hs i hi hb.1, hb.2⟩) (hf2 k)⟩
  have := h'.nn
  omega
theorem ofK_app {l m : List Int} {b : Int} : ∀ {k : Nat}, k ≤ l.length → ofK (l ++ m) b k = ofK l b k
  | 0, _ => rfl
  | k + 1, h => by
    have ih := ofK_app (l := l) (m := m) (b := b) (k := k) (by omega)
    simp only [ofK, ih, getD_app (show k < l.length by omega)]
theorem outK_app (B : Bn) (l m : List Int) : outK B (l ++ m) l.length = outK B l l.length := by
  unfold outK
  rw [List.take_left, List.take_length]
  exact List.map_congr_left fun j _ => by rw [ofK_app (Nat.le_refl _)]
end Go.Gl
set_option linter.unusedVariables false
namespace Go.Proofs.Ytmnbkceiaifncaa
open Go.Lw Go.Gl Go.RowKit

theorem lt111_f (x y : Int) (V : View) : Fnc Try.prog 111 ([] ++ [iv x, iv y] ++ []) V fun r _ => r = .bool (decide (x < y)) := by
  refine fn_of Try.func111 rfl Try.ntmps111 (Nat.le_of_ble_eq_true rfl) ?_
  intro w0 hw0
  refine At.nrm ?_
  refine At.ktext (.q 0 .done) ?_
  refine AtT.kassign ?_
  refine AtT.done ?_
  refine At.nrm ?_
  refine At.ktext (.q 0 (.q 1 (.q 2 (.q 3 .done)))) ?_
  refine AtT.kmove ?_
  refine AtT.kmove ?_
  refine AtT.klss ?_
  refine AtT.kassign ?_
  refine AtT.done ?_
  refine At.nrm ?_
  exact At.ret1 rfl (.tmp rfl) rfl
theorem set_len {l : List Int} {i : Nat} {x : Int} : (l.set i x).length = l.length := List.length_set
theorem getD_set {l : List Int} {i j : Nat} {x : Int} (hi : i < l.length) : (l.set i x).getD j 0 = if j = i then x else l.getD j 0 := by
  by_cases c : j = i
  · subst c; rw [if_pos rfl]; simp [List.getD, hi]
  · rw [if_neg c]; simp only [List.getD, List.getElem?_set_ne (fun h => c h.symm)]
/-- What is known of the tries for a set, when those above a part have been looked at. -/
structure Trs (B : Bn) (S part : Nat) (T : List Int) : Prop where
  all : ∀ u ∈ T, 0 ≤ u ∧ u ≤ (B.each.length : Int) + 1 ∧ ∃ f, GdS B S f u.toNat
  seen : ∀ p, p &&& S = p → part < p → fitE B (sm B p.testBit B.each.length) = 0 → p &&& lowB S ≠ 0 → ∃ w, Lst B (clrB S p) w ∧ 1 + w ∈ T
theorem few_f (B : Bn) (hB : BnOk B) (hf : FineB B) (V : View) (p : Addr) (mb : Nat) (hb : BnV V p B) (hc : CanV B V mb) : Fnc Try.prog 101 [.pointer (some p), .map (some mb)] V fun r V' =>
    ∃ l : List Int, SlI V' r l ∧ l.length = 2 ^ B.each.length ∧ ∀ s, s < 2 ^ B.each.length → Lst B s (l.getD s 0) := by
  have n10 := hB.n10
  have hpow : 2 ^ B.each.length ≤ 1024 := Nat.pow_le_pow_right (n := 2) (by decide) n10
  have hpos : 0 < 2 ^ B.each.length := Nat.pow_pos (by decide)
  obtain ⟨ae, ce, hcel, hsel⟩ := hb.each
  have c2 : Cells V (p.add 2) [.slice ae B.each.length ce] := hcel.at (k := 2) fun j u hj => by
    match j, hj with
    | 0, hj => exact hj
  refine fn_of Try.func101 rfl Try.ntmps101 (Nat.le_of_ble_eq_true rfl) ?_
  intro w0 hw0
  refine At.nrm ?_
  refine At.ktext (.q 0 .done) ?_
  refine AtT.kassign ?_
  refine AtT.done ?_
  refine At.nrm ?_
  refine At.ktext (.q 0 (.q 1 (.q 2 (.q 3 (.q 4 (.q 5 (.n false 6 (.q 7 .done)))))))) ?_
  refine AtT.kmove ?_
  refine AtT.knil ?_
  first | refine AtT.kfieldO fo97_1 ?_ | with_reducible refine AtT.kfield2 fo97_1 ?_ | refine AtT.kfield fo97_1 ?_
  first | refine AtT.kloadO tk83 ?_ | refine AtT.kload tk83 ?_
  first | refine AtT.klenS Try.underlying83 ?_ | refine AtT.klenR Try.underlying83 ?_
  refine AtT.shlN rfl trivial rfl rfl rfl (by omega) (by decide) (N := B.each.length) ?_
  refine AtT.makeSl rfl trivial ei rfl Try.underlying27 rw3 rfl rfl (by decide) rfl rfl (by omega) (by omega) (by decide) (za := (0 : Int)) ?_
  intro b17
  refine AtT.kassign ?_
  refine AtT.done ?_
  refine At.nrm ?_
  refine At.ktext (.q 0 .done) ?_
  refine AtT.kassign ?_
  refine AtT.done ?_
  refine At.nrm ?_
  refine At.lp (ι := Nat × List Int) (KS := fun g => [(0, .pointer (some p)), (1, .map (some mb)), (5, .slice (some ⟨b17, 0, none⟩) (2 ^ B.each.length) (2 ^ B.each.length)), (6, iv g.1)]) (OS := fun g => [.blk b17 (LC (flat ei g.2) 3)])
    (VS := fun g V' => Le V V' ∧ 1 ≤ g.1 ∧ g.1 ≤ 2 ^ B.each.length ∧ g.2.length = 2 ^ B.each.length ∧ ∀ s, s < g.1 → Lst B s (g.2.getD s 0)) (μ := fun g => 2 ^ B.each.length - g.1) (1, List.replicate (2 ^ B.each.length) 0) ?_ ?_ ?_ ?_
  · exact ⟨rfl, rfl, rfl, rfl, trivial⟩
  · exact Pt.auto
  · refine ⟨Le.refl _, Nat.le_refl _, hpos, by simp, fun s hs => ?_⟩
    obtain rfl : s = 0 := by dsimp only at hs; omega
    have : (List.replicate (2 ^ B.each.length) (0 : Int)).getD 0 0 = 0 := by simp only [List.getD, List.getElem?_replicate]; split <;> rfl
    dsimp only
    rw [this]; exact lst_zero hB
  · rintro ⟨S, l⟩ V' ks' O' ⟨hVV, hS1, hS2, hll, hlst⟩ hk hO hl2
    dsimp only at hS1 hS2 hll hlst hk hO
    subst hk hO
    have hc' := hc.le hVV
    have c2' := c2.le hVV
    have hcel' := hcel.le hVV
    refine At.nrm ?_
    refine At.ktext (.q 0 (.q 1 (.q 2 (.q 3 .done)))) ?_
    refine AtT.kmove ?_
    refine AtT.kmove ?_
    first | refine AtT.klenS Try.underlying27 ?_ | refine AtT.klenR Try.underlying27 ?_
    refine AtT.klss ?_
    refine AtT.done ?_
    refine At.nrm ?_
    refine At.condP rfl (fun hp => ?_) (fun hp => ?_)
    · have hSn : S < 2 ^ B.each.length := by omega
      have hS63 : S < 9223372036854775808 := by omega
      refine At.nrm ?_
      refine At.ktext (.q 0 (.q 1 (.q 2 (.q 3 (.q 4 (.n false 5 (.q 6 .done))))))) ?_
      refine AtT.kmove ?_
      refine AtT.knil ?_
      first | refine AtT.kfieldO fo97_1 ?_ | with_reducible refine AtT.kfield2 fo97_1 ?_ | refine AtT.kfield fo97_1 ?_
      first | refine AtT.kloadO tk83 ?_ | refine AtT.kload tk83 ?_
      first | refine AtT.klenS Try.underlying83 ?_ | refine AtT.klenR Try.underlying83 ?_
      refine AtT.kbslice (bs27_1_0 _) ?_
      intro b29
      refine AtT.kassign ?_
      refine AtT.done ?_
      refine At.nrm ?_
      refine At.blkRow (b := b29) (m := 1) (cap := 1) (s := 1) (xs := flat ei [(B.each.length : Int)]) (rest := []) Pick.auto rfl rfl (Nat.le_refl _) (by unfold maxLen; omega) ?_
      refine At.nrm ?_
      refine At.ktext (.q 0 (.q 1 .done)) ?_
      refine AtT.kmove ?_
      refine AtT.kassign ?_
      refine AtT.done ?_
      refine At.nrm ?_
      refine At.lp (ι := Nat × List Int × Option Addr × Nat) (KS := fun g => [(0, .pointer (some p)), (1, .map (some mb)), (5, .slice (some ⟨b17, 0, none⟩) (2 ^ B.each.length) (2 ^ B.each.length)), (6, iv S), (7, .slice g.2.2.1 (g.2.1.length + 1) g.2.2.2), (8, iv g.1)])
        (OS := fun g => [.blk b17 (LC (flat ei l) 3), .row (.slice g.2.2.1 (g.2.1.length + 1) g.2.2.2) 3 1 (g.2.1.length + 1) (flat ei ((B.each.length : Int) :: g.2.1))])
        (VS := fun g V'' => Le V' V'' ∧ g.1 &&& S = g.1 ∧ g.2.1.length + g.1 ≤ S ∧ Trs B S g.1 ((B.each.length : Int) :: g.2.1)) (μ := fun g => g.1) (S, [], some ⟨b29, 0, none⟩, 1) ?_ ?_ ?_ ?_
      · exact ⟨rfl, rfl, rfl, rfl, rfl, rfl, trivial⟩
      · exact Pt.auto
      · refine ⟨Le.refl _, Nat.and_self _, by simp, ⟨fun u hu => ?_, fun q hq hlt => ?_⟩⟩
        · rw [List.mem_singleton] at hu
          subst hu
          exact ⟨by omega, by omega, _, by rw [Int.toNat_natCast]; exact gds_id hB hf S⟩
        · have : q ≤ S := by rw [← hq]; exact Nat.and_le_right
          dsimp only at hlt; omega
      · rintro ⟨q, T, aT, cT⟩ V2 ks' O' ⟨hV2, hqS, hTl, htr⟩ hk hO hl3
        dsimp only at hqS hTl htr hk hO
        subst hk hO
        have hqle : q ≤ S := by rw [← hqS]; exact Nat.and_le_right
        obtain ⟨M, mc, hM, hmh⟩ := (hc'.le hV2).ex
        have hlow := lowB_le S hS63
        have hqlow : q &&& lowB S ≤ q := Nat.and_le_left
        have hclr := clrB_le S q
        refine At.nrm ?_
        refine At.ktext (.q 0 (.q 1 .done)) ?_
        refine AtT.kmove ?_
        refine AtT.kgtr ?_
        refine AtT.done ?_
        refine At.nrm ?_
        refine At.condP rfl (fun hp2 => ?_) (fun hp2 => ?_)
        · have hmq := hmh q (by omega)
          have hq1 : ((q - 1 : Nat) : Int) = (q : Int) - 1 := by omega
          have hand : (q - 1) &&& S ≤ q - 1 := Nat.and_le_left
          have hnext : ∀ T', (∀ u ∈ T', 0 ≤ u ∧ u ≤ (B.each.length : Int) + 1 ∧ ∃ f, GdS B S f u.toNat) → (∀ r ∈ (B.each.length : Int) :: T, r ∈ T') → (fitE B (sm B q.testBit B.each.length) = 0 → q &&& lowB S ≠ 0 → ∃ w, Lst B (clrB S q) w ∧ 1 + w ∈ T') → Trs B S ((q - 1) &&& S) T' := fun T' h1 h2 h3 =>
            ⟨h1, fun r hr hlt hfit hlb => by
              by_cases c : q < r
              · obtain ⟨w, hw, hwT⟩ := htr.seen r hr c hfit hlb
                exact ⟨w, hw, h2 _ hwT⟩
              · by_cases d : r = q
                · subst d; exact h3 hfit hlb
                · have := sub_next q r S hr hqS (by omega)
                  omega⟩
          refine At.nrmB ?_
          refine At.cutG (ι := List Int × Option Addr × Nat) (fun g => [(0, .pointer (some p)), (1, .map (some mb)), (5, .slice (some ⟨b17, 0, none⟩) (2 ^ B.each.length) (2 ^ B.each.length)), (6, iv S), (7, .slice g.2.1 (g.1.length + 1) g.2.2), (8, iv q)])
            (fun g => [.blk b17 (LC (flat ei l) 3), .row (.slice g.2.1 (g.1.length + 1) g.2.2) 3 1 (g.1.length + 1) (flat ei ((B.each.length : Int) :: g.1))])
            (fun g V'' => Le V2 V'' ∧ g.1.length + (q - 1) ≤ S ∧ Trs B S ((q - 1) &&& S) ((B.each.length : Int) :: g.1)) ?_ ?_
          · refine At.nrm ?_
            refine At.ktext (.q 0 (.q 1 (.q 2 (.q 3 (.q 4 (.q 5 (.q 6 (.n false 7 (.n true 8 (.q 9 .done)))))))))) ?_
            refine AtT.kmove ?_
            refine AtT.kmove ?_
            refine AtT.kbuild (bd126_0 _) ?_
            refine AtT.lookup2V rfl trivial key126 (q : Int) sm0 Try.underlying113 z72 rfl rfl rfl hM (by decide) ?_
            refine AtT.kmove ?_
            refine AtT.kextract ?_
            refine AtT.kextract ?_
            refine AtT.kalloc z72 ?_
            intro b9
            refine AtT.kstoreA tk72 ?_
            refine AtT.kassign ?_
            refine AtT.done ?_
            refine At.nrm ?_
            by_cases h1 : fitE B (sm B q.testBit B.each.length) = 0
            rotate_left
            · have hms : mhas (q : Int) M = false := by rw [hmq]; exact decide_eq_false h1
              refine At.ktext (.q 0 (.q 1 (.q 2 (.q 3 (.q 4 (.q 5 (.q 6 (.q 7 (.q 8 (.q 9 (.q 10 .done))))))))))) ?_
              refine AtT.kmove ?_
              refine AtT.knot ?_
              refine AtT.setB (d := 45) rfl ((show (!mhas (q : Int) M) = true by rw [hms]; rfl)) ?_
              refine AtT.kmove ?_
              all_goals (first | refine AtT.kL 46 ?_ | refine AtT.pcase (d := 46) rfl (fun hg46 => ?_) (fun hg46 => ?_) | refine AtT.bcase (d := 46) rfl (fun hg46 => ?_) (fun hg46 => ?_))
              all_goals (first | refine AtT.kpass ?_ | refine AtT.kpassU ?_ | ((refine AtT.kmove ?_)))
              all_goals (first | refine AtT.kpass ?_ | refine AtT.kpassU ?_ | ((refine AtT.kmove ?_)))
              all_goals (first | refine AtT.kpass ?_ | refine AtT.kpassU ?_ | ((refine AtT.kmove ?_)))
              all_goals (first | refine AtT.kpass ?_ | refine AtT.kpassU ?_ | ((first | refine AtT.kneg ?_ | refine AtT.knegW ?_)))
              all_goals (first | refine AtT.kpass ?_ | refine AtT.kpassU ?_ | ((fail)))
              all_goals (first | refine AtT.kpass ?_ | refine AtT.kpassU ?_ | ((fail)))
              all_goals (first | refine AtT.kpass ?_ | refine AtT.kpassU ?_ | ((refine AtT.keqI ?_)))
              all_goals (refine AtT.kpick ?_)
              all_goals refine AtT.done ?_
              all_goals (refine At.nrm ?_)
              refine At.condT rfl rfl ?_
              refine At.nrm ?_
              exact At.meetG (T, aT, cT) ⟨Le.refl _, by dsimp only; omega, hnext _ htr.all (fun r hr => hr) (fun h => absurd h h1)⟩ ⟨rfl, rfl, rfl, rfl, rfl, rfl, trivial⟩ Pt.auto
            have hms : mhas (q : Int) M = true := by rw [hmq]; exact decide_eq_true h1
            by_cases h2 : q &&& lowB S = 0
            · refine At.ktext (.q 0 (.q 1 (.q 2 (.q 3 (.q 4 (.q 5 (.q 6 (.q 7 (.q 8 (.q 9 (.q 10 .done))))))))))) ?_
              refine AtT.kmove ?_
              refine AtT.knot ?_
              refine AtT.setB (d := 45) rfl ((show (!mhas (q : Int) M) = false by rw [hms]; rfl)) ?_
              refine AtT.kmove ?_
              all_goals (first | refine AtT.kL 46 ?_ | refine AtT.pcase (d := 46) rfl (fun hg46 => ?_) (fun hg46 => ?_) | refine AtT.bcase (d := 46) rfl (fun hg46 => ?_) (fun hg46 => ?_))
              all_goals (first | refine AtT.kpass ?_ | refine AtT.kpassU ?_ | ((refine AtT.kmove ?_)))
              all_goals (first | refine AtT.kpass ?_ | refine AtT.kpassU ?_ | ((refine AtT.kmove ?_)))
              all_goals (first | refine AtT.kpass ?_ | refine AtT.kpassU ?_ | ((refine AtT.kmove ?_)))
              all_goals (first | refine AtT.kpass ?_ | refine AtT.kpassU ?_ | ((first | refine AtT.kneg ?_ | refine AtT.knegW ?_)))
              all_goals (first | refine AtT.kpass ?_ | refine AtT.kpassU ?_ | ((refine AtT.lowN rfl ⟨_, _, rfl, rfl, rfl⟩ rfl rfl rfl rfl hS63 (by decide) (A := S) ?_)))
              all_goals (first | refine AtT.kpass ?_ | refine AtT.kpassU ?_ | ((refine AtT.andN rfl ⟨_, _, rfl, rfl, rfl⟩ rfl rfl rfl rfl (by omega) (by omega) (by decide) (A := q) (B := lowB S) ?_)))
              all_goals (first | refine AtT.kpass ?_ | refine AtT.kpassU ?_ | ((refine AtT.keqI ?_)))
              all_goals (refine AtT.setT (d := 53) rfl ((by omega)) ?_)
              all_goals (refine AtT.kpick ?_)
              all_goals refine AtT.done ?_
              all_goals (refine At.nrm ?_)
              refine At.condT rfl rfl ?_
              refine At.nrm ?_
              exact At.meetG (T, aT, cT) ⟨Le.refl _, by dsimp only; omega, hnext _ htr.all (fun r hr => hr) (fun _ h => absurd h2 h)⟩ ⟨rfl, rfl, rfl, rfl, rfl, rfl, trivial⟩ Pt.auto
            refine At.ktext (.q 0 (.q 1 (.q 2 (.q 3 (.q 4 (.q 5 (.q 6 (.q 7 (.q 8 (.q 9 (.q 10 .done))))))))))) ?_
            refine AtT.kmove ?_
            refine AtT.knot ?_
            refine AtT.setB (d := 45) rfl ((show (!mhas (q : Int) M) = false by rw [hms]; rfl)) ?_
            refine AtT.kmove ?_
            all_goals (first | refine AtT.kL 46 ?_ | refine AtT.pcase (d := 46) rfl (fun hg46 => ?_) (fun hg46 => ?_) | refine AtT.bcase (d := 46) rfl (fun hg46 => ?_) (fun hg46 => ?_))
            all_goals (first | refine AtT.kpass ?_ | refine AtT.kpassU ?_ | ((refine AtT.kmove ?_)))
            all_goals (first | refine AtT.kpass ?_ | refine AtT.kpassU ?_ | ((refine AtT.kmove ?_)))
            all_goals (first | refine AtT.kpass ?_ | refine AtT.kpassU ?_ | ((refine AtT.kmove ?_)))
            all_goals (first | refine AtT.kpass ?_ | refine AtT.kpassU ?_ | ((first | refine AtT.kneg ?_ | refine AtT.knegW ?_)))
            all_goals (first | refine AtT.kpass ?_ | refine AtT.kpassU ?_ | ((refine AtT.lowN rfl ⟨_, _, rfl, rfl, rfl⟩ rfl rfl rfl rfl hS63 (by decide) (A := S) ?_)))
            all_goals (first | refine AtT.kpass ?_ | refine AtT.kpassU ?_ | ((refine AtT.andN rfl ⟨_, _, rfl, rfl, rfl⟩ rfl rfl rfl rfl (by omega) (by omega) (by decide) (A := q) (B := lowB S) ?_)))
            all_goals (first | refine AtT.kpass ?_ | refine AtT.kpassU ?_ | ((refine AtT.keqI ?_)))
            all_goals (refine AtT.setF (d := 53) rfl ((by omega)) ?_)
            all_goals (refine AtT.kpick ?_)
            all_goals refine AtT.done ?_
            all_goals (refine At.nrm ?_)
            refine At.condF rfl rfl ?_
            have hclt : clrB S q < S := by
              have hne : clrB S q ≠ S := fun h => by
                obtain ⟨i, _, hi, _⟩ := low_ex (S := q) (n := B.each.length) (by omega) (by omega)
                have h3 := clrB_bit S q i (by omega) (by omega)
                rw [h, sub_bit hqS hi, hi] at h3; cases h3
              omega
            have hw := hlst (clrB S q) hclt
            obtain ⟨w, hwe⟩ : ∃ w, w = l.getD (clrB S q) 0 := ⟨_, rfl⟩
            rw [← hwe] at hw
            have hwn := hw.nn
            have hwl := lst_le hB hf hw
            have hgw : (flat ei l)[clrB S q * 1]? = some (iv w) := by
              rw [flat_ei, Nat.mul_one, List.getElem?_map, List.getElem?_eq_getElem (by omega), hwe]
              simp [List.getD, List.getElem?_eq_getElem (show clrB S q < l.length by omega)]
            refine At.nrm ?_
            refine At.ktext (.q 0 (.q 1 (.q 2 (.q 3 (.q 4 (.q 5 (.q 6 (.q 7 (.n false 8 (.n true 9 (.q 10 .done))))))))))) ?_
            refine AtT.kmove ?_
            refine AtT.kmove ?_
            refine AtT.kmove ?_
            refine AtT.kmove ?_
            refine AtT.clrN rfl trivial rfl rfl rfl rfl hS63 (by omega) (by decide) (A := S) (B := q) ?_
            refine AtT.idxZ rfl trivial Try.underlying27 tk3 rfl rfl (by omega) (by decide) ?_
            refine AtT.loadO rfl trivial rfl tk3 Pick.auto hgw (by decide) ?_
            first | refine AtT.kadd ?_ | refine AtT.kaddW ?_
            refine AtT.kbsliceG (bs27_1_0 _) ?_
            intro q63 V63 hV63 hq63
            have g63 : Le V V63 := by first | exact hV63 | exact Le.trans (by assumption) hV63
            first | refine AtT.kappend Try.underlying27 rw3 ?_
            intro a64 c64
            refine AtT.kassign ?_
            refine AtT.done ?_
            refine At.nrm ?_
            refine At.meetG (T ++ [1 + w], a64, c64) ⟨by assumption, by dsimp only; rw [List.length_append]; simp only [List.length_cons, List.length_nil]; omega, ?_⟩ ⟨rfl, rfl, rfl, rfl, by dsimp only; rw [List.length_append]; rfl, rfl, trivial⟩ ?_
            · refine hnext _ (fun u hu => ?_) (fun r hr => ?_) (fun _ _ => ⟨w, hw, by simp⟩)
              · rw [← List.cons_append] at hu
                rcases List.mem_append.1 hu with hu | hu
                · exact htr.all u hu
                · rw [List.mem_singleton] at hu
                  subst hu
                  exact ⟨by omega, by omega, gds_part hqS h1 hS63 hw⟩
              · rw [← List.cons_append]; exact List.mem_append_left _ hr
            · dsimp only
              rw [← List.cons_append, flat_snoc, List.length_append]
              · exact Pt.auto
          rintro ⟨T2, a2, cc2⟩ V3 ks' O' ⟨hV3, hTl3, htr3⟩ hk hO hl4
          dsimp only at hk hO hTl3 htr3
          subst hk hO
          refine At.nrm ?_
          refine At.ktext (.q 0 (.q 1 (.q 2 (.q 3 (.q 4 .done))))) ?_
          refine AtT.kmove ?_
          first | refine AtT.ksubt ?_ | refine AtT.ksubW ?_
          refine AtT.kmove ?_
          refine AtT.andN rfl trivial rfl rfl hq1.symm rfl (by omega) hS63 (by decide) (A := q - 1) (B := S) ?_
          refine AtT.kassign ?_
          refine AtT.done ?_
          refine At.nrm ?_
          refine At.round ((q - 1) &&& S, T2, a2, cc2) ?_ ?_ ?_ ?_
          · show (q - 1) &&& S < q; omega
          · refine ⟨hV2.trans hV3, ?_, by dsimp only; omega, htr3⟩
            dsimp only
            rw [Nat.and_assoc, Nat.and_self]
          · exact ⟨rfl, rfl, rfl, rfl, rfl, rfl, trivial⟩
          · exact Pt.auto
        · obtain rfl : q = 0 := by omega
          obtain ⟨v, hv⟩ : ∃ v, v = bestOf (fun x y => decide (x < y)) (B.each.length : Int) T := ⟨_, rfl⟩
          have hvm : v ∈ (B.each.length : Int) :: T := by rw [hv]; exact bestOf_in _ T _
          have hvl : ∀ u ∈ (B.each.length : Int) :: T, v ≤ u := by
            obtain ⟨m1, m2⟩ := best_min T (B.each.length : Int)
            intro u hu
            rw [hv]
            rcases List.mem_cons.1 hu with rfl | hu
            · exact m1
            · exact m2 u hu
          have hlv := lst_step hB (S := S) (by omega) hSn hS63 (fun u hu => ⟨(htr.all u hu).1, (htr.all u hu).2.2⟩) (fun r hr hr0 hfit hlb => htr.seen r hr (by omega) hfit hlb) hvm hvl
          obtain ⟨x, hx⟩ : ∃ x, l[S]? = some x := ⟨_, List.getElem?_eq_getElem (by omega)⟩
          have s2 := flat_set1 Lw.ei_len l S 0 x v (iv v) hx (by decide) rfl
          have hfl : (flat ei l).length = l.length * 1 := flat_len Lw.ei_len _
          refine At.nrm ?_
          refine At.giveSl (l := (B.each.length : Int) :: T) Lw.ei_len rfl rfl Pick.auto (fun V4 hV4 hs4 => ?_)
          refine At.ktext (.q 0 (.q 1 (.q 2 (.n false 3 (.q 4 (.n true 5 .done)))))) ?_
          refine AtT.kmove ?_
          refine AtT.kmove ?_
          refine AtT.kmove ?_
          refine AtT.kcallP rfl rfl ok110 (best_i 111 [] (fun x y => decide (x < y)) _ _ _ _ hs4 ok111 (fun x y _ _ => lt111_f x y _)) ?_
          rintro _ rfl
          rw [← hv]
          refine AtT.idxZ rfl trivial Try.underlying27 tk3 rfl rfl (by omega) (by decide) ?_
          refine AtT.store1 rfl trivial rfl rfl tk3 rfl rfl (by repeat (first | exact Upd.here | apply Upd.there)) (setAt_of (by omega) s2) ?_
          refine AtT.done ?_
          refine At.nrm ?_
          refine At.nrm ?_
          refine At.ktext (.q 0 (.q 1 (.q 2 .done))) ?_
          refine AtT.kmove ?_
          first | refine AtT.kadd ?_ | refine AtT.kaddW ?_
          refine AtT.kassign ?_
          refine AtT.done ?_
          refine At.nrm ?_
          refine At.round (S + 1, l.set S v) ?_ ?_ ?_ ?_
          · show 2 ^ B.each.length - (S + 1) < 2 ^ B.each.length - S; omega
          · refine ⟨(hVV.trans hV2).trans hV4, by dsimp only; omega, by dsimp only; omega, by dsimp only; rw [set_len]; exact hll, fun s hs => ?_⟩
            dsimp only at hs ⊢
            rw [getD_set (by omega)]
            by_cases c : s = S
            · rw [if_pos c, c]; exact hlv
            · rw [if_neg c]; exact hlst s (by omega)
          · exact ⟨rfl, rfl, rfl, ivs (by dsimp only; omega), trivial⟩
          · exact Pt.auto
    · obtain rfl : S = 2 ^ B.each.length := by omega
      refine At.nrm ?_
      refine At.ktext (.q 0 (.q 1 .done)) ?_
      refine AtT.kmove ?_
      refine AtT.kassign ?_
      refine AtT.done ?_
      refine At.nrm ?_
      refine At.giveB (b := b17) Pick.auto (fun V5 hV5 hb17 => ?_)
      refine At.ret1 rfl (.tmp rfl) ⟨l, ?_, hll, hlst⟩
      have hcc := cells_blk hb17
      have := Sl.of_cells (cap := 2 ^ B.each.length) Lw.ei_len hcc (by omega) (by unfold maxLen; omega)
      rw [hll] at this
      exact this
end Go.Proofs.Ytmnbkceiaifncaa
set_option linter.unusedVariables false
namespace Go.Lw
open Go.RowKit

section
variable {cx : Cx} {n : Nat} {ks : List (Nat × Value)} {O R : List Own} {V : View} {w : World} {K : Act → World → Prop}
/-- What is owned is handed over, and was not known when the call began. -/
theorem At.giveN {b : Nat} {o : Obj} (hp : Pick (.blk b o) O R) (h : ∀ V', Le V V' → V' b = some o → cx.V0 b = none → At cx n ks R V' K) : At cx n ks O V K := fun a w hk hm => by
  have hm1 := hm.pick hp
  have h0 : cx.V0 b = none := by
    obtain ⟨fp, ⟨f, g, rfl, ⟨rfl, hB, hb⟩, hl⟩, h2, h3⟩ := hm1.own
    have hv := h3 b (by simp)
    cases hc : cx.V0 b with
    | none => rfl
    | some o' => rw [hm1.le0 b o' hc] at hv; cases hv
  obtain ⟨V', h1, h2, h3⟩ := hm1.give
  exact h V' h1 h2 h0 a w hk h3
/-- What is known, and was not known when the call began, is owned; it is no longer known. -/
theorem Mem.reclaim {b : Nat} {o : Obj} (h : Mem cx O V w) (hb : V b = some o) (h0 : cx.V0 b = none) : Mem cx (.blk b o :: O) (fun k => if k = b then none else V k) w := by
  obtain ⟨fp, h1, h2, h3⟩ := h.own
  have hlow : cx.w0.heap.size ≤ b := by
    rcases h.fresh b o hb with h4 | h4
    · rw [h0] at h4; cases h4
    · exact h4
  refine ⟨h.below, fun k o2 hk => ?_, fun k o2 hk => ?_, fun k o2 hk => ?_, b :: fp, ⟨[b], fp, rfl, ⟨rfl, hlow, h.view b o hb⟩, h1⟩, List.nodup_cons.2 ⟨fun hm => ?_, h2⟩, fun k hk => ?_⟩
  · by_cases e : k = b
    · subst e; rw [h0] at hk; cases hk
    · simp [e, h.le0 k o2 hk]
  · by_cases e : k = b
    · subst e; simp at hk
    · simp [e] at hk; exact h.fresh k o2 hk
  · by_cases e : k = b
    · subst e; simp at hk
    · simp [e] at hk; exact h.view k o2 hk
  · rw [h3 b hm] at hb; cases hb
  · rcases List.mem_cons.1 hk with rfl | hk
    · simp
    · simp [h3 k hk]
theorem At.reclaim {b : Nat} {o : Obj} (hb : V b = some o) (h0 : cx.V0 b = none) (h : ∀ V'', (∀ W, Le W V → W b = none → Le W V'') → At cx n ks (.blk b o :: O) V'' K) : At cx n ks O V K := fun a w hk hm =>
  h _ (fun W hW hWb k o2 hk => by
    by_cases e : k = b
    · subst e; rw [hWb] at hk; cases hk
    · simp [e, hW k o2 hk]) a w hk (hm.reclaim hb h0)
/-- A row is nil, or a block. -/
theorem At.rowSplit {v : Value} {e : TypeId} {s m : Nat} {xs : List Value} (hp : Pick (.row v e s m xs) O R) (h0 : v = .slice none 0 0 → m = 0 → xs = [] → At cx n ks R V K)
    (h : ∀ b cap rest, v = .slice (some ⟨b, 0, none⟩) m cap → m ≤ cap → cap ≤ maxLen → (xs ++ rest).length = cap * s → At cx n ks (.blk b (LC (xs ++ rest) e) :: R) V K) : At cx n ks O V K := fun a w hk hmm => by
  have hm1 := hmm.pick hp
  obtain ⟨fp, ⟨f, g, rfl, ⟨rfl, hr⟩, hl⟩, h2, h3⟩ := hm1.own
  rcases hr.2 with ⟨rfl, hn0⟩ | ⟨b, cap, cur, rfl, hb, hh, hnc, hcm, hcs, htake⟩
  · refine h0 rfl hn0 ?_ a w hk hm1.drop
    have := hr.1
    rw [hn0] at this
    exact List.eq_nil_of_length_eq_zero (by simpa using this)
  · have hcat : xs ++ cur.toList.drop (m * s) = cur.toList := by rw [← htake, List.take_append_drop]
    have hcur : (LC (xs ++ cur.toList.drop (m * s)) e : Obj) = .cells cur e (0, 0) := by
      show Obj.cells _ e (0, 0) = Obj.cells cur e (0, 0)
      congr 1
      rw [hcat]
    refine h b cap (cur.toList.drop (m * s)) rfl hnc hcm (by rw [hcat]; simpa using hcs) a w hk ?_
    rw [hcur]
    exact ⟨hm1.below, hm1.le0, hm1.fresh, hm1.view, [b] ++ g, ⟨[b], g, rfl, ⟨rfl, hb, hh⟩, hl⟩, by simpa [Value.ownBlock] using h2, by simpa [Value.ownBlock] using h3⟩
/-- A row is lent to what stays as it is; it will be owned again. -/
def Lent (V V2 : View) (ao : Option Addr) (co : Nat) (e : TypeId) (s m : Nat) (xs : List Value) : Prop :=
  (ao = none ∧ m = 0 ∧ co = 0 ∧ xs = []) ∨ ∃ b rest, ao = some ⟨b, 0, none⟩ ∧ m ≤ co ∧ co ≤ maxLen ∧ (xs ++ rest).length = co * s ∧ xs.length = m * s ∧ V b = none ∧ V2 b = some (LC (xs ++ rest) e)
theorem At.giveM {b : Nat} {o : Obj} (hp : Pick (.blk b o) O R) (h : ∀ V', Le V V' → V' b = some o → V b = none → At cx n ks R V' K) : At cx n ks O V K := fun a w hk hm => by
  have hm1 := hm.pick hp
  have h0 : V b = none := by
    obtain ⟨fp, ⟨f, g, rfl, ⟨rfl, hB, hb⟩, hl⟩, h2, h3⟩ := hm1.own
    exact h3 b (by simp)
  obtain ⟨V', h1, h2, h3⟩ := hm1.give
  exact h V' h1 h2 h0 a w hk h3
theorem At.lend {ao : Option Addr} {co : Nat} {e : TypeId} {s m : Nat} {xs : List Value} (hp : Pick (.row (.slice ao m co) e s m xs) O R) (h : ∀ V2, Le V V2 → Lent V V2 ao co e s m xs → At cx n ks R V2 K) : At cx n ks O V K := fun a w hk hm => by
  have hm1 := hm.pick hp
  obtain ⟨f1, f2, f3, f4⟩ := hm1.rowFacts
  refine At.rowSplit (O := .row (.slice ao m co) e s m xs :: R) Pick.here (fun hv hm0 hx => ?_) (fun b cap rest hv h1 h2 h3 => ?_) a w hk hm1
  · cases hv
    exact h V (Le.refl _) (.inl ⟨rfl, rfl, rfl, hx⟩)
  · cases hv
    exact At.giveM Pick.here fun V' hV hb h0 => h V' hV (.inr ⟨b, rest, rfl, h1, h2, h3, f3, h0, hb⟩)
theorem At.regain {V3 V1 : View} {ao : Option Addr} {co : Nat} {e : TypeId} {s m : Nat} {xs : List Value} (hL : Lent V1 V ao co e s m xs) (hV1 : Le V1 V) (hV : Le V V3) (h0 : Le cx.V0 V1)
    (h : ∀ V4, Le V1 V4 → At cx n ks (.row (.slice ao m co) e s m xs :: O) V4 K) : At cx n ks O V3 K := by
  rcases hL with ⟨rfl, rfl, rfl, rfl⟩ | ⟨b, rest, rfl, h1, h2, h3, h4, h5, h6⟩
  · exact At.newRow e s (h V3 (hV1.trans hV))
  · have hcx : cx.V0 b = none := by
      cases hc : cx.V0 b with
      | none => rfl
      | some o => rw [h0 b o hc] at h5; cases h5
    refine At.reclaim (hV b _ h6) hcx fun V4 hV4 => ?_
    exact At.blkRow Pick.here h3 h4 h1 h2 (h V4 (hV4 V1 (hV1.trans hV) h5))
theorem Lent.sl {α : Type} {enc : α → List Value} {V1 V2 : View} {ao : Option Addr} {co : Nat} {e : TypeId} {s : Nat} {l : List α} (he : ∀ x, (enc x).length = s) (h : Lent V1 V2 ao co e s l.length (flat enc l)) : Sl V2 enc s (.slice ao l.length co) l := by
  rcases h with ⟨rfl, h1, rfl, h2⟩ | ⟨b, rest, rfl, h1, h2, h3, h4, h5, h6⟩
  · obtain rfl : l = [] := List.eq_nil_of_length_eq_zero h1
    exact Sl.nil _ _ _
  · exact Sl.of_cells he (cells_pre h6) h1 h2
theorem none_of {V W : View} {b : Nat} (h : Le W V) (hb : V b = none) : W b = none := by
  cases c : W b with
  | none => rfl
  | some o => rw [h b o c] at hb; cases hb
end
section
variable {cx : Cx} {n : Nat} {ks : List (Nat × Value)} {O R : List Own} {V : View} {P : Program} {ops : Array Oper} {Qn : Act → World → Prop} {t : Tr} {i d : Nat} {T X Y E : TypeId} {pos : String} {after : Array Edge} {gd : Option (Nat × Bool)} {x y : Operand}
theorem AtT.eqNil {a : Option Addr} {m c : Nat} (ho : ops[i]? = some ⟨some d, .binOp .eql X x y Y, T, pos, after, gd⟩) (hg : Gd ks ops gd) (hX : P.underlying X = some (.slice E)) (hx : ev ks x = some (.slice a m c)) (hy : ev ks y = some (.slice none 0 0)) (hn : d < n)
    (next : AtT cx n ((d, .bool a.isNone) :: ks) O V P ops Qn t) : AtT cx n ks O V P ops Qn (.q i t) :=
  .q ho hg rfl hn (fun q w hk _ => by simp only [execOp, hk.ev hx, hk.ev hy, eqGuard_at_slice, Sem.run_bind, Sem.run_pure, Result.andThen_ok, Go.Lib.run_eql_slice_nil w X E a m c 0 0 hX]) next
end
end Go.Lw
