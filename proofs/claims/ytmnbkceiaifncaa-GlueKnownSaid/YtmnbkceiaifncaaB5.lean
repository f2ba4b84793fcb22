/- Texts that the last one of this claim imports. -/
import Derived.Test.YtmnbkceiaifncaaB4
set_option linter.unusedVariables false
set_option linter.unusedSimpArgs false
set_option linter.unusedSectionVars false
set_option linter.unusedVariables false
namespace Go.Proofs.Ytmnbkceiaifncaa
open Go.Lw Go.Gl Go.RowKit

/-- A copy of a list of sums, made anew. -/
theorem clone_f (l : List Sm) (hl : l.length ≤ 1000) (V : View) (v : Value) (hs : Sl V sme 2 v l) : Fnc Try.prog 112 [v] V fun r V' =>
    (r = .slice none 0 0 ∧ l = []) ∨ ∃ g cap rest, r = .slice (some ⟨g, 0, none⟩) l.length cap ∧ l.length ≤ cap ∧ cap ≤ maxLen ∧ (flat sme l ++ rest).length = cap * 2 ∧ V g = none ∧ V' g = some (LC (flat sme l ++ rest) 72) := by
  obtain ⟨a, c, rfl, k1, k2, k3, k4⟩ := id hs
  refine fn_of Try.func112 rfl Try.ntmps112 (Nat.le_of_ble_eq_true rfl) ?_
  intro w0 hw0
  refine At.nrm ?_
  refine At.ktext (.q 0 .done) ?_
  refine AtT.kassign ?_
  refine AtT.done ?_
  refine At.nrm ?_
  refine At.ktext (.q 0 (.q 1 .done)) ?_
  refine AtT.kmove ?_
  refine AtT.eqNil rfl trivial Try.underlying83 rfl rfl (by decide) ?_
  refine AtT.done ?_
  refine At.nrm ?_
  refine At.cond rfl (fun hc => ?_) (fun hc => ?_)
  · have hl0 : l = [] := by
      cases l with
      | nil => rfl
      | cons x l => have := k3 (by simp); rw [Option.isNone_iff_eq_none] at hc; rw [hc] at this; cases this
    refine At.nrm ?_
    refine At.ktext (.q 0 .done) ?_
    refine AtT.kassign ?_
    refine AtT.done ?_
    refine At.nrm ?_
    exact At.ret1 rfl (.tmp rfl) (.inl ⟨rfl, hl0⟩)
  · refine At.nrm ?_
    refine At.ktext (.n false 0 (.q 1 (.n true 2 (.q 3 .done)))) ?_
    refine AtT.bsliceR0 rfl trivial rfl bs83_0 (by decide) (s := 2) (fun b5 => ?_)
    refine AtT.kmove ?_
    refine AtT.appendRS rfl trivial Try.underlying83 rw72 rfl (by decide) rfl rfl Pick.auto hs sme_len (fun _ => rfl) (by unfold maxLen; omega) (by omega) (by decide) (fun a7 c7 => ?_)
    rw [Nat.zero_add, List.nil_append]
    refine AtT.kassign ?_
    refine AtT.done ?_
    refine At.nrm ?_
    refine At.rowSplit Pick.auto (fun hv hm hx => ?_) (fun g cap rest hv h1 h2 h3 => ?_)
    · refine At.ret1 rfl (.tmp rfl) (.inl ⟨hv, List.eq_nil_of_length_eq_zero hm⟩)
    · refine At.giveN (b := g) Pick.auto (fun V2 hV2 hg h0 => ?_)
      exact At.ret1 rfl (.tmp rfl) (.inr ⟨g, cap, rest, hv, h1, h2, h3, h0, hg⟩)

theorem goOn_f (B : Bn) (hB : BnOk B) (hf : FineB B) (few : List Int) (hfl : few.length = 2 ^ B.each.length) (hfw : ∀ s, s < 2 ^ B.each.length → Lst B s (few.getD s 0)) (most : Int) (hmost : most = few.getD (2 ^ B.each.length - 1) 0) :
    ∀ (t : Nat) (begun : List Int) (V : View) (p : Addr) (vb vh vf : Value), begun.length + t = B.each.length → planB begun false = true → BnV V p B → SlI V vb begun → Sl V sme 2 vh (outK B begun begun.length) → SlI V vf few →
    Fnc Try.prog 102 [.pointer (some p), vb, vh, vf, iv most] V fun r V' => ∃ u, r = .tuple #[u, .bool (goL B t begun most).isSome] ∧ SlI V' u ((goL B t begun most).getD []) := by
  have n10 := hB.n10
  have hpow : 2 ^ B.each.length ≤ 1024 := Nat.pow_le_pow_right (n := 2) (by decide) n10
  have hpos : 0 < 2 ^ B.each.length := Nat.pow_pos (by decide)
  have hml := hfw (2 ^ B.each.length - 1) (by omega)
  rw [← hmost] at hml
  have hm0 := hml.nn
  have hmn := lst_le hB hf hml
  intro t
  induction t with
  | zero =>
    intro begun V p vb vh vf hlen hpl hb hvb hvh hvf
    obtain ⟨al, cl, rfl, k3, k4, _⟩ := id hvb
    clear k3 k4
    obtain ⟨ae, ce, hcel, hsel⟩ := hb.each
    have c2 : Cells V (p.add 2) [.slice ae B.each.length ce] := hcel.at (k := 2) fun j u hj => by
      match j, hj with
      | 0, hj => exact hj
    refine fn_of Try.func102 rfl Try.ntmps102 (Nat.le_of_ble_eq_true rfl) ?_
    intro w0 hw0
    refine At.nrm ?_
    refine At.ktext (.q 0 (.q 1 .done)) ?_
    refine AtT.kassign ?_
    refine AtT.kassign ?_
    refine AtT.done ?_
    refine At.nrm ?_
    refine At.ktext (.q 0 (.q 1 (.q 2 .done))) ?_
    refine AtT.kmove ?_
    first | refine AtT.klenS Try.underlying27 ?_ | refine AtT.klenR Try.underlying27 ?_
    refine AtT.kassign ?_
    refine AtT.done ?_
    refine At.nrm ?_
    refine At.ktext (.q 0 (.q 1 (.q 2 (.q 3 (.q 4 (.q 5 (.q 6 .done))))))) ?_
    refine AtT.kmove ?_
    refine AtT.kmove ?_
    refine AtT.knil ?_
    first | refine AtT.kfieldO fo97_1 ?_ | with_reducible refine AtT.kfield2 fo97_1 ?_ | refine AtT.kfield fo97_1 ?_
    first | refine AtT.kloadO tk83 ?_ | refine AtT.kload tk83 ?_
    first | refine AtT.klenS Try.underlying83 ?_ | refine AtT.klenR Try.underlying83 ?_
    refine AtT.keqI ?_
    refine AtT.done ?_
    refine At.nrm ?_
    refine At.condT rfl (decide_eq_true (by omega)) ?_
    refine At.nrm ?_
    refine At.ktext (.q 0 (.q 1 (.q 2 .done))) ?_
    refine AtT.kmove ?_
    refine AtT.kassign ?_
    refine AtT.kassign ?_
    refine AtT.done ?_
    refine At.nrm ?_
    exact At.ret2 rfl (.tmp rfl) (.tmp rfl) ⟨_, rfl, hvb⟩
  | succ t ih =>
    intro begun V p vb vh vf hlen hpl hb hvb hvh hvf
    obtain ⟨al, cl, rfl, k3, k4, _⟩ := id hvb
    obtain ⟨ah, ch, rfl, k5, k6, _⟩ := id hvh
    obtain ⟨af, cf, rfl, k7, k8, _⟩ := id hvf
    clear k3 k4 k5 k6 k7 k8
    obtain ⟨hbl, hbx⟩ := plan_bat hpl
    have hb0 := batN_pos begun
    have hol := outK_len B begun begun.length
    rw [List.take_length] at hol
    obtain ⟨ae, ce, hcel, hsel⟩ := hb.each
    have c2 : Cells V (p.add 2) [.slice ae B.each.length ce] := hcel.at (k := 2) fun j u hj => by
      match j, hj with
      | 0, hj => exact hj
    have hpi : 2 ^ begun.length < 2 ^ B.each.length := Nat.pow_lt_pow_right (by decide) (by omega)
    have hpi0 : 0 < 2 ^ begun.length := Nat.pow_pos (by decide)
    obtain ⟨A, hA⟩ : ∃ A, A = 2 ^ B.each.length - 2 ^ begun.length := ⟨_, rfl⟩
    have hAi : (few.length : Int) - ((2 ^ begun.length : Nat) : Int) = (A : Int) := by omega
    have hBi : (few.length : Int) - 1 = ((2 ^ B.each.length - 1 : Nat) : Int) := by omega
    have hAnd : A &&& (2 ^ B.each.length - 1) = A := by rw [Nat.and_two_pow_sub_one_eq_mod]; exact Nat.mod_eq_of_lt (by omega)
    have hcut : ¬ most < few.getD A 0 := by
      have := lst_grow hB (fun i hi _ => by rw [Nat.testBit_two_pow_sub_one]; simpa using hi) (hfw A (by omega)) hml
      omega
    refine fn_of Try.func102 rfl Try.ntmps102 (Nat.le_of_ble_eq_true rfl) ?_
    intro w0 hw0
    refine At.nrm ?_
    refine At.ktext (.q 0 (.q 1 .done)) ?_
    refine AtT.kassign ?_
    refine AtT.kassign ?_
    refine AtT.done ?_
    refine At.nrm ?_
    refine At.ktext (.q 0 (.q 1 (.q 2 .done))) ?_
    refine AtT.kmove ?_
    first | refine AtT.klenS Try.underlying27 ?_ | refine AtT.klenR Try.underlying27 ?_
    refine AtT.kassign ?_
    refine AtT.done ?_
    refine At.nrm ?_
    refine At.ktext (.q 0 (.q 1 (.q 2 (.q 3 (.q 4 (.q 5 (.q 6 .done))))))) ?_
    refine AtT.kmove ?_
    refine AtT.kmove ?_
    refine AtT.knil ?_
    first | refine AtT.kfieldO fo97_1 ?_ | with_reducible refine AtT.kfield2 fo97_1 ?_ | refine AtT.kfield fo97_1 ?_
    first | refine AtT.kloadO tk83 ?_ | refine AtT.kload tk83 ?_
    first | refine AtT.klenS Try.underlying83 ?_ | refine AtT.klenR Try.underlying83 ?_
    refine AtT.keqI ?_
    refine AtT.done ?_
    refine At.nrm ?_
    refine At.condF rfl (decide_eq_false (by omega)) ?_
    refine At.nrm ?_
    refine At.ktext (.q 0 (.q 1 (.q 2 (.q 3 (.q 4 (.q 5 .done)))))) ?_
    refine AtT.kmove ?_
    first | refine AtT.klenS Try.underlying27 ?_ | refine AtT.klenR Try.underlying27 ?_
    refine AtT.kmove ?_
    refine AtT.shlN rfl trivial rfl rfl rfl (by omega) (by decide) (N := begun.length) ?_
    first | refine AtT.ksubt ?_ | refine AtT.ksubW ?_
    rw [hAi]
    refine AtT.kassign ?_
    refine AtT.done ?_
    refine At.nrm ?_
    refine At.ktext (.q 0 (.q 1 (.q 2 (.q 3 (.q 4 (.q 5 (.q 6 (.q 7 (.q 8 (.q 9 .done)))))))))) ?_
    refine AtT.kmove ?_
    refine AtT.kmove ?_
    refine AtT.kmove ?_
    first | refine AtT.klenS Try.underlying27 ?_ | refine AtT.klenR Try.underlying27 ?_
    first | refine AtT.ksubt ?_ | refine AtT.ksubW ?_
    rw [hBi]
    refine AtT.andN rfl trivial rfl rfl rfl rfl (by omega) (by omega) (by decide) (A := A) (B := 2 ^ B.each.length - 1) ?_
    rw [hAnd]
    refine AtT.kidx Try.underlying27 tk3 ?_
    intro p39 e39 he39 hc39
    obtain rfl : e39 = few.getD A 0 := by have : few[A]? = some e39 := (by simpa using he39); simp [List.getD, this]
    first | refine AtT.kloadO tk3 ?_ | refine AtT.kload tk3 ?_
    refine AtT.kmove ?_
    refine AtT.kgtr ?_
    refine AtT.setF (d := 42) rfl (hcut) ?_
    refine AtT.done ?_
    refine At.nrm ?_
    refine At.condF rfl rfl ?_
    refine At.nrm ?_
    refine At.ktext (.q 0 (.q 1 (.q 2 (.q 3 (.q 4 (.q 5 .done)))))) ?_
    refine AtT.kmove ?_
    first | refine AtT.klenS Try.underlying83 ?_ | refine AtT.klenR Try.underlying83 ?_
    first | refine AtT.kadd ?_ | refine AtT.kaddW ?_
    refine AtT.kmove ?_
    refine AtT.kmin2 ?_
    refine AtT.kmove ?_
    refine AtT.done ?_
    refine At.nrm ?_
    refine At.lp (ι := Nat) (KS := fun k => [(0, .pointer (some p)), (1, .slice al begun.length cl), (2, .slice ah (outK B begun begun.length).length ch), (3, .slice af few.length cf), (4, iv most), (12, iv begun.length), (47, iv (min (((outK B begun begun.length).length : Int) + 1) most)), (48, iv k)]) (OS := fun _ => [])
      (VS := fun k V' => Le V V' ∧ k ≤ (min (batN begun + 1) most).toNat ∧ ∀ j, j < k → goF B t begun most j = none) (μ := fun k => (min (batN begun + 1) most).toNat - k) 0 ?_ ?_ ?_ ?_
    · exact ⟨rfl, rfl, rfl, rfl, rfl, rfl, rfl, rfl, trivial⟩
    · exact Pt.auto
    · exact ⟨Le.refl _, Nat.zero_le _, fun j hj => absurd hj (Nat.not_lt_zero j)⟩
    · rintro k V' ks' O' ⟨hVV, hkl, hok⟩ hk2 hO hl2
      subst hk2 hO
      have hb' := hb.le hVV
      have hvb' := hvb.le hVV
      have hvh' := hvh.le hVV
      have hvf' := hvf.le hVV
      have hend : ¬ k < (min (batN begun + 1) most).toNat → goL B (t + 1) begun most = none := fun h => by
        rw [goL_succ]; exact fs_none fun j hj => hok j (by omega)
      refine At.nrm ?_
      refine At.ktext (.q 0 .done) ?_
      refine AtT.klss ?_
      refine AtT.done ?_
      refine At.nrm ?_
      refine At.condP rfl (fun hp => ?_) (fun hp => ?_)
      rotate_left
      · refine At.nrm ?_
        refine At.ktext (.q 0 (.q 1 .done)) ?_
        refine AtT.kassign ?_
        refine AtT.kassign ?_
        refine AtT.done ?_
        refine At.nrm ?_
        exact At.ret2 rfl (.tmp rfl) (.tmp rfl) ⟨_, by rw [hend (by omega)]; rfl, by rw [hend (by omega)]; exact Sl.nil _ _ _⟩
      have hhit : ∀ l, goF B t begun most k = some l → goL B (t + 1) begun most = some l := fun l h => by
        rw [goL_succ]; exact fs_hit (by omega) hok h
      obtain ⟨L, hL⟩ : ∃ L, L = begun ++ [(k : Int)] := ⟨_, rfl⟩
      have hpn : planB L false = true := by rw [hL]; exact plan_snoc hpl (by omega) (by omega)
      have hnl : L.length = begun.length + 1 := by rw [hL]; simp
      have hgx : L.getD begun.length 0 = (k : Int) := by rw [hL]; exact getD_last _ _
      have hLt : L.take begun.length = begun := by rw [hL]; exact List.take_left
      have hLt2 : L.take (begun.length + 1) = L := by rw [← hnl]; exact List.take_length
      have hLo : outK B L begun.length = outK B begun begun.length := by rw [hL]; exact outK_app B begun _
      have hjl : L.getD begun.length 0 ≤ batN (L.take begun.length) := by rw [hgx, hLt]; omega
      have hlb := base_len (B := B) (l := L) (k := begun.length) (by omega) hjl
      have hba := base_at (B := B) (l := L) (k := begun.length) (by omega) hgx hjl
      have hos := outK_succ (B := B) (l := L) (k := begun.length) (by omega) hgx hjl
      rw [hLt2] at hlb
      have hjb : k < (batN L).toNat := by rw [← hlb]; exact (List.getElem?_eq_some_iff.1 hba).1
      have hgf : goF B t begun most k = if fitE B (sumL B (ofL L (k : Int))) ≠ 0 then none else goL B t L most := by unfold goF; rw [hL]
      refine At.nrmB ?_
      refine At.cutG (ι := Unit) (fun _ => [(0, .pointer (some p)), (1, .slice al begun.length cl), (2, .slice ah (outK B begun begun.length).length ch), (3, .slice af few.length cf), (4, iv most), (12, iv begun.length), (47, iv (min (((outK B begun begun.length).length : Int) + 1) most)), (48, iv k)]) (fun _ => [])
        (fun _ V'' => Le V' V'' ∧ goF B t begun most k = none) ?_ ?_
      · refine At.nrm ?_
        refine At.ktext (.q 0 (.q 1 .done)) ?_
        refine AtT.kmove ?_
        refine AtT.kassign ?_
        refine AtT.done ?_
        refine At.nrm ?_
        refine At.cutG (ι := Option Addr × Nat) (fun g => [(0, .pointer (some p)), (1, .slice al begun.length cl), (2, .slice ah (outK B begun begun.length).length ch), (3, .slice af few.length cf), (4, iv most), (12, iv begun.length), (47, iv (min (((outK B begun begun.length).length : Int) + 1) most)), (48, iv k), (14, iv k), (15, .slice g.1 (outK B begun begun.length).length g.2)])
          (fun g => [.row (.slice g.1 (outK B begun begun.length).length g.2) 72 2 (outK B begun begun.length).length (flat sme (outK B begun begun.length))]) (fun _ V'' => Le V' V'') ?_ ?_
        · refine At.ktext (.q 0 (.n false 1 (.q 2 .done))) ?_
          refine AtT.kmove ?_
          refine AtT.kcall rfl rfl ok112 (clone_f (outK B begun begun.length) (by omega) _ _ hvh') ?_
          rintro v52 V52 hV52 hR
          refine AtT.kassign ?_
          refine AtT.done ?_
          refine At.nrm ?_
          rcases hR with ⟨rfl, h0⟩ | ⟨g, cap, rest, rfl, g1, g2, g3, g4, g5⟩
          · refine At.newRow 72 2 ?_
            rw [h0]
            exact At.meetG (none, 0) hV52 ⟨rfl, rfl, rfl, rfl, rfl, rfl, rfl, rfl, rfl, rfl, trivial⟩ Pt.auto
          · refine At.reclaim g5 (none_of hl2 g4) (fun V2 hV2 => ?_)
            refine At.blkRow (m := (outK B begun begun.length).length) Pick.auto g3 (flat_len sme_len _) g1 g2 ?_
            exact At.meetG (some ⟨g, 0, none⟩, cap) (hV2 V' hV52 g4) ⟨rfl, rfl, rfl, rfl, rfl, rfl, rfl, rfl, rfl, rfl, trivial⟩ Pt.auto
        rintro ⟨a15, c15⟩ V2 ks' O' hV2 hk2 hO hl3
        dsimp only at hk2 hO
        subst hk2 hO
        refine At.nrm ?_
        refine At.ktext (.q 0 (.q 1 (.q 2 (.q 3 .done)))) ?_
        refine AtT.kmove ?_
        refine AtT.kmove ?_
        first | refine AtT.klenS Try.underlying83 ?_ | refine AtT.klenR Try.underlying83 ?_
        refine AtT.keqI ?_
        refine AtT.done ?_
        refine At.nrm ?_
        refine At.cutG (ι := Option Addr × Nat) (fun g => [(0, .pointer (some p)), (1, .slice al begun.length cl), (2, .slice ah (outK B begun begun.length).length ch), (3, .slice af few.length cf), (4, iv most), (12, iv begun.length), (47, iv (min (((outK B begun begun.length).length : Int) + 1) most)), (48, iv k), (14, iv k), (15, .slice g.1 (batN L).toNat g.2)])
          (fun g => [.row (.slice g.1 (batN L).toNat g.2) 72 2 (batN L).toNat (flat sme (baseK B L begun.length))]) (fun _ V'' => Le V2 V'') ?_ ?_
        · refine At.condP rfl (fun hm => ?_) (fun hm => ?_)
          · have hbe : baseK B L begun.length = outK B begun begun.length ++ [sm0] := by unfold baseK; rw [hLt, hgx, if_pos (by omega), hLo]
            have hlb' : (batN L).toNat = (outK B begun begun.length).length + 1 := by rw [← hlb, hbe, List.length_append]; rfl
            refine At.nrm ?_
            refine At.ktext (.q 0 (.q 1 (.n false 2 (.n true 3 (.q 4 .done))))) ?_
            refine AtT.kmove ?_
            refine AtT.kbuild (bd72) ?_
            refine AtT.kbsliceG (bs83_1_0 _ _) ?_
            intro q59 V59 hV59 hq59
            first | refine AtT.kappend Try.underlying83 rw72 ?_
            intro a60 c60
            refine AtT.kassign ?_
            refine AtT.done ?_
            refine At.nrm ?_
            rw [hbe, flat_snoc, hlb']
            exact At.meetG (a60, c60) (by assumption) ⟨rfl, rfl, rfl, rfl, rfl, rfl, rfl, rfl, rfl, rfl, trivial⟩ Pt.auto
          · have hbe : baseK B L begun.length = outK B begun begun.length := by unfold baseK; rw [hLt, hgx, if_neg (by omega), hLo]
            have hlb' : (batN L).toNat = (outK B begun begun.length).length := by rw [← hlb, hbe]
            refine At.nrm ?_
            rw [hbe, hlb']
            exact At.meetG (a15, c15) (Le.refl _) ⟨rfl, rfl, rfl, rfl, rfl, rfl, rfl, rfl, rfl, rfl, trivial⟩ Pt.auto
        rintro ⟨a15, c15⟩ V3 ks' O' hV3 hk2 hO hl4
        dsimp only at hk2 hO
        subst hk2 hO
        have hVV3 := hV2.trans hV3
        have hb3 := hb'.le hVV3
        have c23 := (c2.le hVV).le hVV3
        have hsel3 := (hsel.le hVV).le hVV3
        have hsb := sumL_bd hB (ofK L (k : Int) begun.length)
        have hkl2 := ofK_len L (k : Int) begun.length
        have hxe := eachP_bd hB (begun.length : Int)
        refine At.rowBlk2 (v := .slice a15 (batN L).toNat c15) Pick.auto (by omega) (fun bb cap rest hbb hcap hcm hrl => ?_)
        cases hbb
        have hu := flat_cut sme_len (baseK B L begun.length) k _ rest hba
        have hst := flat_setR sme_len (baseK B L begun.length) k ((sumL B (ofK L (k : Int) begun.length)).and (eachP B (begun.length : Int))) rest (by omega)
        have hflb := flat_len sme_len (baseK B L begun.length)
        have hoa := outK_at B L (begun.length + 1) (j := k) (by rw [hLt2]; exact hjb)
        have hu2 := flat_cut sme_len (outK B L (begun.length + 1)) k _ rest hoa
        have hofl : ofK L (k : Int) (begun.length + 1) = ofL L (k : Int) := by unfold ofL; rw [hnl]
        rw [hofl] at hu2
        refine At.nrm ?_
        refine At.draw (.q 0 (.q 1 (.q 2 (.q 3 (.q 4 (.q 5 (.q 6 (.q 7 (.q 8 (.q 9 (.q 10 (.q 11 (.q 12 (.n false 13 (.q 14 (.n true 15 .done)))))))))))))))) ffm (by kernel_rfl) ?_
        refine AtT.kmove ?_
        refine AtT.kmove ?_
        refine AtT.kmove ?_
        refine AtT.kmove ?_
        refine AtT.idxZ rfl trivial Try.underlying83 tk72 rfl rfl hjb (by decide) ?_
        refine AtT.loadOP rfl trivial rfl tk72 Pick.auto hu rfl (by decide) ?_
        refine AtT.kmove ?_
        refine AtT.knil ?_
        first | refine AtT.kfieldO fo97_1 ?_ | with_reducible refine AtT.kfield2 fo97_1 ?_ | refine AtT.kfield fo97_1 ?_
        first | refine AtT.kloadO tk83 ?_ | refine AtT.kload tk83 ?_
        refine AtT.kmove ?_
        refine AtT.kidx Try.underlying83 tk72 ?_
        intro p72 e72 he72 hc72
        obtain rfl : e72 = eachP B (begun.length : Int) := eachP_some he72
        first | refine AtT.kloadOA tk72 ?_ | refine AtT.kloadA tk72 ?_ | refine AtT.kloadOP tk72 ?_
        refine AtT.kcallP rfl rfl ok91 (and_f (sumL B (ofK L (k : Int) begun.length)) (eachP B (begun.length : Int)) _ (Fit.of (by omega) (by omega)) (Fit.of (by omega) (by omega))) ?_
        rintro _ rfl
        refine AtT.idxZ rfl trivial Try.underlying83 tk72 rfl rfl hjb (by decide) ?_
        refine AtT.store rfl trivial rfl rfl tk72 rfl rfl (by rw [List.length_append]; simp only [List.length_cons, List.length_nil]; omega) rfl hst (by repeat (first | exact Upd.here | apply Upd.there)) ?_
        refine AtT.done ?_
        refine At.nrm ?_
        rw [← hos]
        refine At.ktext (.q 0 (.q 1 (.q 2 (.q 3 (.q 4 (.n false 5 (.q 6 .done))))))) ?_
        refine AtT.kmove ?_
        refine AtT.kmove ?_
        refine AtT.kmove ?_
        refine AtT.idxZ rfl trivial Try.underlying83 tk72 rfl rfl hjb (by decide) ?_
        refine AtT.loadOP rfl trivial rfl tk72 Pick.auto hu2 rfl (by decide) ?_
        refine AtT.kcallP rfl rfl ok59 (fits_f B hB _ _ p hb3) ?_
        rintro _ rfl
        refine AtT.kneI ?_
        refine AtT.done ?_
        refine At.nrm ?_
        refine At.condP rfl (fun hc => ?_) (fun hc => ?_)
        · rw [if_pos hc] at hgf
          refine At.nrm ?_
          exact At.meetG () ⟨hVV3, hgf⟩ ⟨rfl, rfl, rfl, rfl, rfl, rfl, rfl, rfl, trivial⟩ Pt.auto
        · rw [if_neg hc] at hgf
          refine At.giveB (b := bb) Pick.auto (fun V4 hV4 hb4 => ?_)
          have hnx : Sl V4 sme 2 (.slice (some ⟨bb, 0, none⟩) (outK B L L.length).length c15) (outK B L L.length) := by
            rw [hnl]
            refine Sl.of_cells sme_len (cells_pre hb4) ?_ hcm
            rw [outK_len, hLt2]; exact hcap
          have hol2 : (outK B L L.length).length = (batN L).toNat := by rw [outK_len, List.take_length]
          rw [hol2] at hnx
          have hvb4 := (hvb'.le hVV3).le hV4
          have hb44 := hb3.le hV4
          have hvf4 := (hvf'.le hVV3).le hV4
          refine At.nrm ?_
          refine At.ktext (.q 0 (.q 1 (.q 2 (.q 3 (.q 4 (.q 5 (.n false 6 (.n false 7 (.q 8 (.q 9 (.q 10 (.n false 11 (.q 12 (.q 13 (.q 14 (.q 15 (.q 16 .done))))))))))))))))) ?_
          refine AtT.kmove ?_
          refine AtT.kmove ?_
          refine AtT.kmove ?_
          refine AtT.kmove ?_
          first | refine AtT.kclipAll Try.underlying27 tk3 ?_ | refine AtT.kclip Try.underlying27 tk3 ?_
          intro a88 hs88
          refine AtT.kmove ?_
          refine AtT.kbsliceG (bs27_1_0 _) ?_
          intro q90 V90 hV90 hq90
          refine AtT.appendC rfl trivial Try.underlying27 rw3 rfl (by decide) rfl (by first | assumption | exact Sl.le (by assumption) (by assumption)) rfl rfl (by first | assumption | exact Cells.le (by assumption) (by assumption)) (fun _ => rfl) (by simp) (by unfold maxLen; simp only [List.length_cons, List.length_nil]; omega) (by simp only [List.length_cons, List.length_nil]; omega) (by decide) (enc := ei) (m := [(k : Int)]) ?_
          intro a91 c91 V91 hV91 hs91
          refine AtT.kmove ?_
          refine AtT.kmove ?_
          refine AtT.kmove ?_
          refine AtT.kcall rfl rfl ok102 (ih L _ p _ _ _ (by omega) hpn (hb44.le (hV90.trans hV91)) (by rw [hL]; exact hs91) (hnx.le (hV90.trans hV91)) (hvf4.le (hV90.trans hV91))) ?_
          rintro _ V95 hV95 ⟨u95, rfl, hs95⟩
          refine AtT.kmove ?_
          refine AtT.kextract ?_
          refine AtT.kextract ?_
          refine AtT.kassign ?_
          refine AtT.kassign ?_
          refine AtT.done ?_
          refine At.nrm ?_
          refine At.ktext (.q 0 .done) ?_
          refine AtT.kmove ?_
          refine AtT.done ?_
          refine At.nrm ?_
          have hVV5 := (hVV3.trans hV4).trans ((hV90.trans hV91).trans hV95)
          refine At.cond rfl (fun hm => ?_) (fun hm => ?_)
          · obtain ⟨l, hl⟩ := Option.isSome_iff_exists.1 hm
            have hh := hhit l (by rw [hgf, hl])
            rw [hl] at hs95
            refine At.nrm ?_
            refine At.ktext (.q 0 (.q 1 (.q 2 .done))) ?_
            refine AtT.kmove ?_
            refine AtT.kassign ?_
            refine AtT.kassign ?_
            refine AtT.done ?_
            refine At.nrm ?_
            exact At.ret2 rfl (.tmp rfl) (.tmp rfl) ⟨_, by rw [hh]; rfl, by rw [hh]; exact hs95⟩
          · have hno : goL B t L most = none := by
              cases hh : goL B t L most with
              | none => rfl
              | some l => rw [hh] at hm; cases hm
            refine At.nrm ?_
            exact At.meetG () ⟨hVV5, by rw [hgf, hno]⟩ ⟨rfl, rfl, rfl, rfl, rfl, rfl, rfl, rfl, trivial⟩ Pt.auto
      rintro _ V3 ks' O' ⟨hV3, hgn⟩ hk2 hO hl3
      subst hk2 hO
      refine At.nrm ?_
      refine At.ktext (.q 0 (.q 1 .done)) ?_
      first | refine AtT.kadd ?_ | refine AtT.kaddW ?_
      refine AtT.kmove ?_
      refine AtT.done ?_
      refine At.nrm ?_
      refine At.round (k + 1) ?_ ?_ ?_ ?_
      · show (min (batN begun + 1) most).toNat - (k + 1) < (min (batN begun + 1) most).toNat - k; omega
      · refine ⟨hVV.trans hV3, by omega, fun j hj => ?_⟩
        by_cases hjk : j = k
        · subst hjk; exact hgn
        · exact hok j (by omega)
      · exact ⟨rfl, rfl, rfl, rfl, rfl, rfl, rfl, ivs (by omega), trivial⟩
      · exact Pt.auto
theorem bplan_f (B : Bn) (hB : BnOk B) (hf : FineB B) (V : View) (p : Addr) (hb : BnV V p B) : Fnc Try.prog 78 [.pointer (some p)] V fun r V' => SlI V' r (planL B) := by
  have hpos : 0 < 2 ^ B.each.length := Nat.pow_pos (by decide)
  have n10 := hB.n10
  have hpow : 2 ^ B.each.length ≤ 1024 := Nat.pow_le_pow_right (n := 2) (by decide) n10
  have hbest := plan_best hB hf
  refine fn_of Try.func78 rfl Try.ntmps78 (Nat.le_of_ble_eq_true rfl) ?_
  intro w0 hw0
  refine At.nrm ?_
  refine At.ktext (.q 0 .done) ?_
  refine AtT.kassign ?_
  refine AtT.done ?_
  refine At.nrm ?_
  refine At.ktext (.q 0 (.n false 1 (.q 2 .done))) ?_
  refine AtT.kmove ?_
  refine AtT.kcall rfl rfl ok100 (batches_f B hB _ p hb) ?_
  rintro _ V1 hV1 ⟨mb, rfl, hc⟩
  refine AtT.kassign ?_
  refine AtT.done ?_
  refine At.nrm ?_
  refine At.ktext (.q 0 (.q 1 (.n false 2 (.q 3 .done)))) ?_
  refine AtT.kmove ?_
  refine AtT.kmove ?_
  refine AtT.kcall rfl rfl ok101 (few_f B hB hf _ p mb (hb.le hV1) hc) ?_
  rintro v11 V2 hV2 ⟨few, hs11, hfl, hfw⟩
  refine AtT.kassign ?_
  refine AtT.done ?_
  refine At.nrm ?_
  obtain ⟨af, cf, rfl, k7, k8, _⟩ := id hs11
  have hBi : (few.length : Int) - 1 = ((2 ^ B.each.length - 1 : Nat) : Int) := by omega
  have hml := hfw (2 ^ B.each.length - 1) (by omega)
  have hme := lst_full hml hbest
  have hgo := hbest.go
  rw [← hme] at hgo
  refine At.ktext (.q 0 (.q 1 (.q 2 (.q 3 (.q 4 (.q 5 (.q 6 (.q 7 (.n false 8 (.q 9 (.q 10 (.q 11 (.q 12 (.q 13 .done)))))))))))))) ?_
  refine AtT.kmove ?_
  refine AtT.kmove ?_
  refine AtT.kmove ?_
  refine AtT.kmove ?_
  first | refine AtT.klenS Try.underlying27 ?_ | refine AtT.klenR Try.underlying27 ?_
  first | refine AtT.ksubt ?_ | refine AtT.ksubW ?_
  rw [hBi]
  refine AtT.kidx Try.underlying27 tk3 ?_
  intro p19 e19 he19 hc19
  obtain rfl : e19 = few.getD (2 ^ B.each.length - 1) 0 := by have : few[2 ^ B.each.length - 1]? = some e19 := (by rw [Int.toNat_natCast] at he19; exact he19); simp [List.getD, this]
  first | refine AtT.kloadO tk3 ?_ | refine AtT.kload tk3 ?_
  refine AtT.kcall rfl rfl ok102 (goOn_f B hB hf few hfl hfw _ rfl B.each.length [] _ p _ _ _ (by simp) (plan_nil false) ((hb.le hV1).le hV2) (Sl.nil _ _ _) (Sl.nil _ _ _) hs11) ?_
  rintro _ V3 hV3 ⟨u, rfl, hsu⟩
  refine AtT.kmove ?_
  refine AtT.kextract ?_
  refine AtT.kextract ?_
  refine AtT.kassign ?_
  refine AtT.kassign ?_
  refine AtT.done ?_
  refine At.nrm ?_
  refine At.ktext (.q 0 (.q 1 .done)) ?_
  refine AtT.kmove ?_
  refine AtT.kassign ?_
  refine AtT.done ?_
  refine At.nrm ?_
  refine At.ret1 rfl (.tmp rfl) ?_
  rw [hgo] at hsu
  exact hsu
theorem plan_f (d : Dy) (ps : List Pn) (sure : Bool) (V : View) (v : Value) (hs : Sl V pne 3 v ps) : Fnc Try.prog 36 [dyv d, v, .bool sure] V fun r V' => ∃ u, r = .tuple #[u, iv (rowE d ps sure)] ∧ SlI V' u (pnL d ps sure) := by
  refine fn_of Try.func36 rfl Try.ntmps36 (Nat.le_of_ble_eq_true rfl) ?_
  intro w0 hw0
  refine At.nrm ?_
  refine At.ktext (.n false 0 (.q 1 (.q 2 .done))) ?_
  refine AtT.kbox ?_
  intro b3
  refine AtT.kassign ?_
  refine AtT.kassign ?_
  refine AtT.done ?_
  refine At.nrm ?_
  by_cases he : rowE d ps sure = 0
  rotate_left
  · refine At.ktext (.q 0 (.q 1 (.q 2 (.n false 3 (.q 4 (.q 5 (.q 6 (.q 7 (.q 8 .done))))))))) ?_
    first | refine AtT.kloadOA tk25 ?_ | refine AtT.kloadA tk25 ?_ | refine AtT.kloadOP tk25 ?_
    refine AtT.kmove ?_
    refine AtT.kmove ?_
    refine AtT.kcallP rfl rfl ok71 (laid_no hs he) ?_
    rintro _ rfl
    refine AtT.kmove ?_
    refine AtT.kextract ?_
    refine AtT.kextract ?_
    refine AtT.kassign ?_
    refine AtT.kassign ?_
    refine AtT.done ?_
    refine At.nrm ?_
    refine At.ktext (.q 0 (.q 1 .done)) ?_
    refine AtT.kmove ?_
    refine AtT.kneI ?_
    refine AtT.done ?_
    refine At.nrm ?_
    refine At.condT rfl (decide_eq_true he) ?_
    refine At.nrm ?_
    refine At.ktext (.q 0 (.q 1 (.q 2 .done))) ?_
    refine AtT.kmove ?_
    refine AtT.kassign ?_
    refine AtT.kassign ?_
    refine AtT.done ?_
    refine At.nrm ?_
    exact At.ret2 rfl (.tmp rfl) (.tmp rfl) ⟨_, rfl, by rw [pnL, if_neg he]; exact Sl.nil _ _ _⟩
  obtain ⟨hb0, hf⟩ := rowE_ok he
  have hk := bothE_ok hb0
  have hB := bn_ok hk sure
  refine At.ktext (.q 0 (.q 1 (.q 2 (.n false 3 (.q 4 (.q 5 (.q 6 (.q 7 (.q 8 .done))))))))) ?_
  first | refine AtT.kloadOA tk25 ?_ | refine AtT.kloadA tk25 ?_ | refine AtT.kloadOP tk25 ?_
  refine AtT.kmove ?_
  refine AtT.kmove ?_
  refine AtT.kcall rfl rfl ok71 (laid_yes hs he) ?_
  rintro _ V1 hV1 ⟨p, rfl, hpb⟩
  refine AtT.kmove ?_
  refine AtT.kextract ?_
  refine AtT.kextract ?_
  refine AtT.kassign ?_
  refine AtT.kassign ?_
  refine AtT.done ?_
  refine At.nrm ?_
  refine At.ktext (.q 0 (.q 1 .done)) ?_
  refine AtT.kmove ?_
  refine AtT.kneI ?_
  refine AtT.done ?_
  refine At.nrm ?_
  refine At.condF rfl rfl ?_
  refine At.nrm ?_
  refine At.ktext (.q 0 (.n false 1 (.q 2 (.q 3 .done)))) ?_
  refine AtT.kmove ?_
  refine AtT.kcall rfl rfl ok78 (bplan_f _ hB hf _ p hpb) ?_
  rintro v21 V21 hV21 hs21
  refine AtT.kassign ?_
  refine AtT.kassign ?_
  refine AtT.done ?_
  refine At.nrm ?_
  exact At.ret2 rfl (.tmp rfl) (.tmp rfl) ⟨_, by rw [he], by rw [pnL, if_pos he]; exact hs21⟩
end Go.Proofs.Ytmnbkceiaifncaa
set_option linter.unusedVariables false
namespace Go.Gl
def dW : Dy := ⟨30, 40, 10⟩
def pW : List Pn := [⟨10, 12, 3⟩, ⟨8, 10, 3⟩, ⟨15, 20, 4⟩, ⟨5, 6, 2⟩, ⟨9, 11, 3⟩]
def pn3 (p : Pn) : List Int := [p.lo, p.hi, p.sp]
theorem pn3_len (l : List Pn) : (l.flatMap pn3).length = 3 * l.length := by
  induction l with
  | nil => rfl
  | cons p l ih => simp only [List.flatMap_cons, List.length_append, ih, List.length_cons]; simp only [pn3, List.length_cons, List.length_nil]; omega
theorem pn3_at : ∀ {l : List Pn} {k : Nat} {p : Pn}, l[k]? = some p → (l.flatMap pn3)[3 * k]? = some p.lo ∧ (l.flatMap pn3)[3 * k + 1]? = some p.hi ∧ (l.flatMap pn3)[3 * k + 2]? = some p.sp
  | [], _, _, h => by simp at h
  | q :: l, 0, p, h => by
    obtain rfl : q = p := by simpa using h
    simp [pn3]
  | q :: l, k + 1, p, h => by
    obtain ⟨a, b, c⟩ := pn3_at (l := l) (k := k) (p := p) (by simpa using h)
    have e : (q :: l).flatMap pn3 = [q.lo, q.hi, q.sp] ++ l.flatMap pn3 := rfl
    rw [e, show 3 * (k + 1) = 3 * k + 3 by omega, show 3 * k + 3 + 1 = (3 * k + 1) + 3 by omega, show 3 * k + 3 + 2 = (3 * k + 2) + 3 by omega]
    refine ⟨?_, ?_, ?_⟩
    · rw [List.getElem?_append_right (by simp)]; simpa using a
    · rw [List.getElem?_append_right (by simp)]; simpa using b
    · rw [List.getElem?_append_right (by simp)]; simpa using c
end Go.Gl
namespace Go.Proofs.Ytmnbkceiaifncaa
open Go.Lw Go.Gl Go.RowKit

theorem day53_f (a b c : Int) (V : View) : Fnc Try.prog 53 [iv a, iv b, iv c] V fun r _ => r = dyv ⟨a, b, c⟩ := by
  refine fn_of Try.func53 rfl Try.ntmps53 (Nat.le_of_ble_eq_true rfl) ?_
  intro w0 hw0
  refine At.nrm ?_
  refine At.ktext (.n false 0 .done) ?_
  refine AtT.kalloc z25 ?_
  intro b6
  refine AtT.done ?_
  refine At.nrm ?_
  refine At.ktext (.q 0 (.q 1 (.q 2 (.q 3 (.q 4 (.n true 5 .done)))))) ?_
  refine AtT.kmove ?_
  refine AtT.kmove ?_
  refine AtT.kbuild (bd23_0_1 _ _) ?_
  refine AtT.kmove ?_
  refine AtT.kbuild (bd25_0_1 _ _ _) ?_
  refine AtT.kstoreA tk25 ?_
  refine AtT.done ?_
  refine At.nrm ?_
  exact At.ret1 rfl (.agg rfl tk25 Pick.auto rfl) rfl
theorem warm_f (V : View) : Fnc Try.prog 54 [] V fun r _ => r = dyv dW := by
  refine fn_of Try.func54 rfl Try.ntmps54 (Nat.le_of_ble_eq_true rfl) ?_
  intro w0 hw0
  refine At.nrm ?_
  refine At.ktext (.n false 0 .done) ?_
  refine AtT.kalloc z25 ?_
  intro b0
  refine AtT.done ?_
  refine At.nrm ?_
  refine At.ktext (.n false 0 (.n true 1 .done)) ?_
  refine AtT.kcallP rfl rfl ok53 (day53_f 30 40 10 _) ?_
  rintro _ rfl
  refine AtT.kstoreA tk25 ?_
  refine AtT.done ?_
  refine At.nrm ?_
  exact At.ret1 rfl (.agg rfl tk25 Pick.auto rfl) rfl
theorem of56_f (v : Value) (V : View) : Fnc Try.prog 56 [v] V fun r _ => r = v := by
  refine fn_of Try.func56 rfl Try.ntmps56 (Nat.le_of_ble_eq_true rfl) ?_
  intro w0 hw0
  refine At.nrm ?_
  refine At.ktext (.q 0 .done) ?_
  refine AtT.kassign ?_
  refine AtT.done ?_
  refine At.nrm ?_
  refine At.ktext (.q 0 (.q 1 .done)) ?_
  refine AtT.kmove ?_
  refine AtT.kassign ?_
  refine AtT.done ?_
  refine At.nrm ?_
  exact At.ret1 rfl (.tmp rfl) rfl
theorem panels90_f (l : List Pn) (h1 : l.length ≤ 1000) (V : View) (v : Value) (hs : SlI V v (l.flatMap pn3)) : Fnc Try.prog 90 [v] V fun r V' => Sl V' pne 3 r l := by
  have hlen := pn3_len l
  obtain ⟨a, c, rfl, k1, k2, _⟩ := id hs
  clear k1 k2
  refine fn_of Try.func90 rfl Try.ntmps90 (Nat.le_of_ble_eq_true rfl) ?_
  intro w0 hw0
  refine At.nrm ?_
  refine At.ktext (.q 0 .done) ?_
  refine AtT.kassign ?_
  refine AtT.done ?_
  refine At.nrm ?_
  refine At.ktext (.q 0 .done) ?_
  refine AtT.kassign ?_
  refine AtT.done ?_
  refine At.nrm ?_
  refine At.ktext (.q 0 .done) ?_
  refine AtT.kassign ?_
  refine AtT.done ?_
  refine At.nrm ?_
  refine At.newRow 60 3 ?_
  refine At.lp (ι := Nat × Option Addr × Nat) (KS := fun g => [(0, .slice a (l.flatMap pn3).length c), (3, .slice g.2.1 g.1 g.2.2), (4, iv ((3 * g.1 : Nat) : Int))])
    (OS := fun g => [.row (.slice g.2.1 g.1 g.2.2) 60 3 g.1 (flat pne (l.take g.1))]) (VS := fun g V' => Le V V' ∧ g.1 ≤ l.length) (μ := fun g => l.length - g.1) (0, none, 0) ?_ ?_ ?_ ?_
  · exact ⟨rfl, rfl, rfl, trivial⟩
  · exact Pt.auto
  · exact ⟨Le.refl _, Nat.zero_le _⟩
  · rintro ⟨k, ao, co⟩ V' ks' O' ⟨hVV, hkl⟩ hk hO hl2
    dsimp only at hkl hk hO
    subst hk hO
    have hs' := hs.le hVV
    refine At.nrm ?_
    refine At.ktext (.q 0 (.q 1 (.q 2 (.q 3 (.q 4 .done))))) ?_
    refine AtT.kmove ?_
    first | refine AtT.kadd ?_ | refine AtT.kaddW ?_
    refine AtT.kmove ?_
    first | refine AtT.klenS Try.underlying105 ?_ | refine AtT.klenR Try.underlying105 ?_
    refine AtT.klss ?_
    refine AtT.done ?_
    refine At.nrm ?_
    refine At.condP rfl (fun hp => ?_) (fun hp => ?_)
    · obtain ⟨x, hx⟩ : ∃ x, l[k]? = some x := ⟨_, List.getElem?_eq_getElem (by omega)⟩
      obtain ⟨g0, g1, g2⟩ := pn3_at hx
      have hnx := take_snoc' hx
      have t0 : (((3 * k : Nat) : Int)).toNat = 3 * k := Int.toNat_natCast _
      have t1 : (((3 * k : Nat) : Int) + 1).toNat = 3 * k + 1 := by omega
      have t2 : (((3 * k : Nat) : Int) + 2).toNat = 3 * k + 2 := by omega
      refine At.nrm ?_
      refine At.draw (.q 0 (.q 1 (.q 2 (.q 3 (.q 4 (.q 5 (.q 6 (.q 7 (.q 8 (.q 9 (.q 10 (.q 11 (.q 12 (.q 13 (.q 14 (.q 15 (.q 16 (.n false 17 (.n true 18 (.q 19 .done)))))))))))))))))))) ffm (by kernel_rfl) ?_
      refine AtT.kmove ?_
      refine AtT.kmove ?_
      refine AtT.kmove ?_
      refine AtT.kidx Try.underlying105 tk2 ?_
      intro p15 e15 he15 hc15
      obtain rfl : e15 = x.lo := by rw [t0, g0] at he15; exact (Option.some.inj he15).symm
      first | refine AtT.kloadO tk2 ?_ | refine AtT.kload tk2 ?_
      refine AtT.kmove ?_
      refine AtT.kmove ?_
      first | refine AtT.kadd ?_ | refine AtT.kaddW ?_
      refine AtT.kidx Try.underlying105 tk2 ?_
      intro p20 e20 he20 hc20
      obtain rfl : e20 = x.hi := by rw [t1, g1] at he20; exact (Option.some.inj he20).symm
      first | refine AtT.kloadO tk2 ?_ | refine AtT.kload tk2 ?_
      refine AtT.kbuild (bd23_0_1 _ _) ?_
      refine AtT.kmove ?_
      refine AtT.kmove ?_
      first | refine AtT.kadd ?_ | refine AtT.kaddW ?_
      refine AtT.kidx Try.underlying105 tk2 ?_
      intro p26 e26 he26 hc26
      obtain rfl : e26 = x.sp := by rw [t2, g2] at he26; exact (Option.some.inj he26).symm
      first | refine AtT.kloadO tk2 ?_ | refine AtT.kload tk2 ?_
      refine AtT.kbuild (bd60_0_1 _ _ _) ?_
      refine AtT.kbsliceG (bs26_1_0 _ _ _) ?_
      intro q29 V29 hV29 hq29
      have g29 : Le V V29 := by first | exact hV29 | exact Le.trans (by assumption) hV29
      first | refine AtT.kappend Try.underlying26 rw60 ?_
      intro a30 c30
      refine AtT.kassign ?_
      refine AtT.done ?_
      refine At.nrm ?_
      refine At.ktext (.q 0 (.q 1 (.q 2 .done))) ?_
      refine AtT.kmove ?_
      first | refine AtT.kadd ?_ | refine AtT.kaddW ?_
      refine AtT.kassign ?_
      refine AtT.done ?_
      refine At.nrm ?_
      refine At.round (k + 1, a30, c30) ?_ ?_ ?_ ?_
      · show l.length - (k + 1) < l.length - k; omega
      · exact ⟨hVV.trans (by assumption), by dsimp only; omega⟩
      · exact ⟨rfl, rfl, ivs (by dsimp only; omega), trivial⟩
      dsimp only
      rw [hnx, flat_snoc]
      · exact Pt.auto
    · obtain rfl : k = l.length := by omega
      rw [List.take_length]
      refine At.nrm ?_
      refine At.ktext (.q 0 (.q 1 .done)) ?_
      refine AtT.kmove ?_
      refine AtT.kassign ?_
      refine AtT.done ?_
      refine At.nrm ?_
      refine At.giveSl pne_len rfl rfl Pick.auto (fun V4 hV4 hs4 => ?_)
      exact At.ret1 rfl (.tmp rfl) hs4
theorem five_f (V : View) : Fnc Try.prog 55 [] V fun r V' => ∃ a c, r = .slice a pW.length c ∧ Sl V' pne 3 (.slice a pW.length c) pW := by
  refine fn_of Try.func55 rfl Try.ntmps55 (Nat.le_of_ble_eq_true rfl) ?_
  intro w0 hw0
  refine At.nrm ?_
  refine At.ktext (.q 0 .done) ?_
  refine AtT.kassign ?_
  refine AtT.done ?_
  refine At.nrm ?_
  refine At.ktext (.n false 0 (.n false 1 (.q 2 .done))) ?_
  refine AtT.kbsliceG (bs105_15_0_1_2_3_4_5_6_7_8_9_10_11_12_13_14 _ _ _ _ _ _ _ _ _ _ _ _ _ _ _) ?_
  intro q1 V1 hV1 hq1
  have g1 : Le V V1 := by first | exact hV1 | exact Le.trans (by assumption) hV1
  refine AtT.kcall rfl rfl ok90 (panels90_f pW (by decide) _ _ (Sl.lit hq1 rfl (by decide))) ?_
  rintro v2 V2 hV2 hs2
  refine AtT.kassign ?_
  refine AtT.done ?_
  refine At.nrm ?_
  obtain ⟨a, c, rfl, h⟩ := id hs2
  exact At.ret1 rfl (.tmp rfl) ⟨a, c, rfl, hs2⟩
end Go.Proofs.Ytmnbkceiaifncaa
