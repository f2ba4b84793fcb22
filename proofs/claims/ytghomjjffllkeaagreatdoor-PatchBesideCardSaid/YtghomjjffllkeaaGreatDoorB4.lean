/- Texts that the last one of this claim imports. -/
import Derived.Test.YtghomjjffllkeaaGreatDoorB3
set_option linter.unusedVariables false
set_option linter.unusedSimpArgs false
set_option linter.unusedSectionVars false
set_option linter.unusedVariables false
namespace Go.Pm
open Go.Gl Go.Lw
theorem sel_all (K : List Cl) (k : Cl) : k ∈ sel K (2 ^ K.length - 1) ↔ k ∈ K := by
 rw [jd]
 constructor
 ·rintro ⟨i, h, _⟩; exact List.mem_of_getElem? h
 ·intro h
  obtain ⟨i, hi⟩ := List.getElem?_of_mem h
  exact ⟨i, hi, by rw [Nat.testBit_two_pow_sub_one, decide_eq_true_eq]; exact (List.getElem?_eq_some_iff.1 hi).1⟩
theorem set_same {l : List Int} {j : Nat} {x : Int} (h : l[j]? = some x) : l.set j x = l := by
 apply List.ext_getElem?
 intro k
 rw [List.getElem?_set]
 by_cases e : j = k
 ·subst e; rw [if_pos rfl, if_pos (List.getElem?_eq_some_iff.1 h).1, h]
 ·rw [if_neg e]
theorem fl_get {l : List Int} {j : Nat} {x : Int} (h : l[j]? = some x) : (flat ei l)[j * 1]? = some (iv x) := by rw [Nat.mul_one, jK, List.getElem?_map, h]; rfl
theorem fl_set {l : List Int} {j : Nat} (x : Int) (h : j < l.length) : SetAt (flat ei l) (j * 1) (iv x) (flat ei (l.set j x)) :=
 setAt_of (by rw [qX Lw.ei_len, Nat.mul_one, Nat.mul_one]; exact h) (by rw [Nat.mul_one, jK, jK, List.map_set])
theorem fl_set2 {l : List Int} {j : Nat} (y x : Int) (h : j < l.length) : SetAt (flat ei (l.set j y)) (j * 1) (iv x) (flat ei (l.set j x)) := by
 have := fl_set (l := l.set j y) (j := j) x (by rw [List.length_set]; exact h)
 rwa [List.set_set] at this
end Go.Pm
namespace Go.Proofs.YtghomjjffllkeaaGreatDoor
open Go.Lw Go.Gl Go.Pm Go.RowKit
theorem fewestOf_f (s : Sh) (hok : jH s) (V : View) (v : Value) (hv : ShV V v s) : Fnc Tryz.prog 62 [v] V fun r _ => ∃ (n : Nat) (c : Int), r = .tuple #[iv n, iv c] ∧ jA (gdS s) (knL s) n c := by
 obtain ⟨a, c, rfl, hs⟩ := id hv
 have hkn := hok.kn
 have hn6 := hok.n
 have hw6 := hok.w
 have hg := sh_gok hok
 have hon := kn_on hok
 have hfg := kn_fig hok
 have hp0 : 0 < 2 ^ (knL s).length := Nat.two_pow_pos _
 have hp10 : 2 ^ (knL s).length ≤ 1024 := Nat.pow_le_pow_right (n := 2) (by decide) hkn
 refine qc Tryz.func62 rfl Tryz.ntmps62 (Nat.le_of_ble_eq_true rfl) ?_
 intro w0 hw0
 refine At.nrm ?_
 refine At.zi (.n false 0 (.q 1 (.q 2 .done))) ?_
 refine AtT.qV ?_
 intro b1
 refine AtT.zh ?_
 refine AtT.zh ?_
 refine AtT.done ?_
 refine At.nrm ?_
 refine At.zi (.q 0 (.n false 1 (.q 2 .done))) ?_
 first | refine AtT.zu zx ?_ | refine AtT.zC zx ?_ | refine AtT.zt zx ?_
 refine AtT.qg rfl rfl ok44 (jr s (by omega) (fun r hr => by have := hok.sz r hr; omega) _ _ hv) ?_
 rintro v13 V13 hV13 hs13; obtain ⟨ak, ck, rfl, _⟩ := id hs13
 refine AtT.zh ?_
 refine AtT.done ?_
 refine At.nrm ?_
 have hv13 := hv.le hV13
 refine At.nrm ?_
 refine At.jo (ι := Nat × Nat) (fun g => [(1, .pointer (some ⟨b1, 0, none⟩)), (4, .slice ak (knL s).length ck), (5, .slice (some ⟨g.1, 0, none⟩) (2 ^ (knL s).length) (2 ^ (knL s).length)), (6, .slice (some ⟨g.2, 0, none⟩) (2 ^ (knL s).length) (2 ^ (knL s).length))])
  (fun g => [.blk b1 (LC [.slice a s.rows.length c, iv s.most] 24), .blk g.1 (LC (flat ei (List.replicate (2 ^ (knL s).length) 0)) 3), .blk g.2 (LC (flat ei (List.replicate (2 ^ (knL s).length) 0)) 3)]) (fun _ V'' => V13 = V'') ?_ ?_
 ·refine At.draw (.q 0 (.q 1 (.q 2 (.q 4 (.q 5 (.q 6 (.two 3 (.q 8 (.n false 7 (.q 9 .done))) 7 (.n false 3 (.q 8 (.q 9 .done)))))))))) ffm (by kernel_rfl) ?_
  refine AtT.zf ?_
  first | refine AtT.zU Tryz.underlying58 ?_ | refine AtT.zV Tryz.underlying58 ?_
  refine AtT.shlN rfl trivial rfl rfl rfl (by omega) (by decide) (N := (knL s).length) ?_
  refine AtT.zf ?_
  first | refine AtT.zU Tryz.underlying58 ?_ | refine AtT.zV Tryz.underlying58 ?_
  refine AtT.shlN rfl trivial rfl rfl rfl (by omega) (by decide) (N := (knL s).length) ?_
  refine AtT.two ?_ ?_
  focus
   refine AtT.makeSl rfl trivial ei rfl Tryz.underlying39 rw3 rfl rfl (by decide) rfl rfl (by omega) (by omega) (by decide) (za := (0 : Int)) ?_
   intro b17
   refine AtT.zh ?_
   refine AtT.makeSl rfl trivial ei rfl Tryz.underlying39 rw3 rfl rfl (by decide) rfl rfl (by omega) (by omega) (by decide) (za := (0 : Int)) ?_
   intro b21
   refine AtT.zh ?_
   refine AtT.done ?_
  rotate_right
  focus
   refine AtT.makeSl rfl trivial ei rfl Tryz.underlying39 rw3 rfl rfl (by decide) rfl rfl (by omega) (by omega) (by decide) (za := (0 : Int)) ?_
   intro b21
   refine AtT.makeSl rfl trivial ei rfl Tryz.underlying39 rw3 rfl rfl (by decide) rfl rfl (by omega) (by omega) (by decide) (za := (0 : Int)) ?_
   intro b17
   refine AtT.zh ?_
   refine AtT.zh ?_
   refine AtT.done ?_
  all_goals (refine At.nrm ?_)
  all_goals (exact At.qf (b17, b21) rfl ⟨rfl, rfl, rfl, rfl, trivial⟩ Pt.zI)
 rintro ⟨b17, b21⟩ _ ks' O' rfl hk hO hl2
 dsimp only at hk hO
 subst hk hO
 refine At.nrm ?_
 refine At.zi (.q 0 .done) ?_
 refine AtT.zh ?_
 refine AtT.done ?_
 refine At.nrm ?_
 refine At.lp (ι := Nat × List Int × List Int) (KS := fun g => [(1, .pointer (some ⟨b1, 0, none⟩)), (4, .slice ak (knL s).length ck), (5, .slice (some ⟨b17, 0, none⟩) (2 ^ (knL s).length) (2 ^ (knL s).length)), (6, .slice (some ⟨b21, 0, none⟩) (2 ^ (knL s).length) (2 ^ (knL s).length)), (7, iv g.1)])
  (OS := fun g => [.blk b1 (LC [.slice a s.rows.length c, iv s.most] 24), .blk b17 (LC (flat ei g.2.1) 3), .blk b21 (LC (flat ei g.2.2) 3)])
  (VS := fun g V' => Le V13 V' ∧ 1 ≤ g.1 ∧ g.1 ≤ 2 ^ (knL s).length ∧ DpI (gdS s) (knL s) g.2.1 g.2.2 g.1) (μ := fun g => 2 ^ (knL s).length - g.1) (1, List.replicate (2 ^ (knL s).length) 0, List.replicate (2 ^ (knL s).length) 0) ?_ ?_ ?_ ?_
 ·exact ⟨rfl, rfl, rfl, rfl, rfl, trivial⟩
 ·exact Pt.zI
 ·exact ⟨Le.refl _, Nat.le_refl _, hp0, dp_start⟩
 rintro ⟨b, F, C⟩ V' ks' O' ⟨hVV, hb1, hbl, hdp⟩ hk hO hl3
 dsimp only at hb1 hbl hdp hk hO
 subst hk hO
 have hv2 := hv13.le hVV
 have hsk := hs13.le hVV
 refine At.nrm ?_
 refine At.zi (.q 0 (.q 1 (.q 2 (.q 3 (.q 4 .done))))) ?_
 refine AtT.zf ?_
 refine AtT.zf ?_
 first | refine AtT.zU Tryz.underlying58 ?_ | refine AtT.zV Tryz.underlying58 ?_
 refine AtT.shlN rfl trivial rfl rfl rfl (by omega) (by decide) (N := (knL s).length) ?_
 refine AtT.zY ?_
 refine AtT.done ?_
 refine At.nrm ?_
 refine At.zX rfl (fun hp => ?_) (fun hp => ?_)
 rotate_left
 ·obtain rfl : b = 2 ^ (knL s).length := by omega
  obtain ⟨h1, h2, h3⟩ := dp_w hdp (r := 2 ^ (knL s).length - 1) (by omega) (by omega)
  have h4 := best_mem h3 (K' := knL s) (sel_all (knL s))
  have hm1 : ((2 ^ (knL s).length : Nat) : Int) - 1 = ((2 ^ (knL s).length - 1 : Nat) : Int) := by omega
  have hfl1 := fl_get h1
  have hfl2 := fl_get h2
  refine At.nrm ?_
  refine At.draw (.q 0 (.q 1 (.q 2 (.q 3 (.q 4 (.q 5 (.q 6 (.q 7 (.q 8 (.q 9 (.q 10 (.q 11 (.q 12 (.q 13 .done)))))))))))))) ffm (by kernel_rfl) ?_
  refine AtT.zf ?_
  refine AtT.zf ?_
  first | refine AtT.zU Tryz.underlying39 ?_ | refine AtT.zV Tryz.underlying39 ?_
  first | refine AtT.qz ?_ | refine AtT.qA ?_
  rw [hm1]
  refine AtT.idxZ rfl trivial Tryz.underlying39 tk3 rfl rfl (by omega) (by decide) ?_
  refine AtT.loadO rfl trivial rfl tk3 zZ.zI hfl1 (by decide) ?_
  refine AtT.zf ?_
  refine AtT.zf ?_
  first | refine AtT.zU Tryz.underlying39 ?_ | refine AtT.zV Tryz.underlying39 ?_
  first | refine AtT.qz ?_ | refine AtT.qA ?_
  rw [hm1]
  refine AtT.idxZ rfl trivial Tryz.underlying39 tk3 rfl rfl (by omega) (by decide) ?_
  refine AtT.loadO rfl trivial rfl tk3 zZ.zI hfl2 (by decide) ?_
  refine AtT.zh ?_
  refine AtT.zh ?_
  refine AtT.done ?_
  refine At.nrm ?_
  all_goals (exact At.jb rfl (.tmp rfl) (.tmp rfl) ⟨_, _, rfl, h4⟩)
 obtain ⟨i, hi1, hi2⟩ := low_at (b := b) (by omega)
 have hW : ∀ r, r < b → jA (gdS s) (sel (knL s) r) (wOf F C r).1 (wOf F C r).2 := fun r hr => (dp_w hdp hr (by omega)).2.2
 have hlF := hdp.lf
 have hlC := hdp.lc
 have hC0 := hdp.rest b (Nat.le_refl _) (by omega)
 refine At.nrm ?_
 refine At.zi (.q 0 (.q 1 (.q 2 (.n true 3 .done)))) ?_
 refine AtT.zf ?_
 refine AtT.zf ?_
 refine AtT.idxZ rfl trivial Tryz.underlying39 tk3 rfl rfl (by omega) (by decide) ?_
 refine AtT.jk tk3 ?_ (hs := fl_set 99 (by omega))
 refine AtT.done ?_
 refine At.nrm ?_
 refine At.nrm ?_
 refine At.zi (.q 0 (.q 1 .done)) ?_
 refine AtT.zf ?_
 refine AtT.zh ?_
 refine AtT.done ?_
 refine At.nrm ?_
 refine At.lp (ι := Nat × Int × Int × Nat) (KS := fun g => [(1, .pointer (some ⟨b1, 0, none⟩)), (4, .slice ak (knL s).length ck), (5, .slice (some ⟨b17, 0, none⟩) (2 ^ (knL s).length) (2 ^ (knL s).length)), (6, .slice (some ⟨b21, 0, none⟩) (2 ^ (knL s).length) (2 ^ (knL s).length)), (7, iv b), (8, iv g.1)])
  (OS := fun g => [.blk b1 (LC [.slice a s.rows.length c, iv s.most] 24), .blk b17 (LC (flat ei (F.set b g.2.1)) 3), .blk b21 (LC (flat ei (C.set b g.2.2.1)) 3)])
  (VS := fun g V'' => Le V' V'' ∧ SubB g.1 b ∧ InI (gdS s) (knL s) b i (wOf F C) 99 g.1 g.2.1 g.2.2.1 g.2.2.2) (μ := fun g => g.1) (b, 99, 0, 0) ?_ ?_ ?_ ?_
 ·exact ⟨rfl, rfl, rfl, rfl, rfl, rfl, trivial⟩
 ·dsimp only; rw [set_same hC0]; exact Pt.zI
 ·exact ⟨Le.refl _, fun j hj => hj, in_start⟩
 rintro ⟨part, f, cc, q0⟩ V2 ks' O' ⟨hV2, hsub, hin⟩ hk hO hl4
 dsimp only at hsub hin hk hO
 subst hk hO
 have hv3 := hv2.le hV2
 have hsk3 := hsk.le hV2
 have hple := sub_le hsub
 refine At.nrm ?_
 refine At.zi (.q 0 (.q 1 .done)) ?_
 refine AtT.zf ?_
 refine AtT.qy ?_
 refine AtT.done ?_
 refine At.nrm ?_
 refine At.zX rfl (fun hp2 => ?_) (fun hp2 => ?_)
 rotate_left
 ·obtain rfl : part = 0 := by omega
  obtain ⟨_, n, rfl, hB, _⟩ := in_end hg hon hfg hkn (by omega) hi1 hW (by omega) hin
  refine At.nrm ?_
  refine At.zi (.q 0 (.q 1 (.q 2 .done))) ?_
  refine AtT.zf ?_
  first | refine AtT.qh ?_ | refine AtT.zT ?_
  refine AtT.zh ?_
  refine AtT.done ?_
  refine At.nrm ?_
  refine At.round (b + 1, F.set b (n : Int), C.set b cc) ?_ ?_ ?_ ?_
  ·show 2 ^ (knL s).length - (b + 1) < 2 ^ (knL s).length - b; omega
  ·exact ⟨hVV.trans hV2, by dsimp only; omega, by dsimp only; omega, dp_step hdp (by omega) hB⟩
  ·exact ⟨rfl, rfl, rfl, rfl, ivs (by dsimp only; omega), trivial⟩
  ·exact Pt.zI
 refine At.nrmB ?_
 refine At.jo (ι := Int × Int × Nat) (fun g => [(1, .pointer (some ⟨b1, 0, none⟩)), (4, .slice ak (knL s).length ck), (5, .slice (some ⟨b17, 0, none⟩) (2 ^ (knL s).length) (2 ^ (knL s).length)), (6, .slice (some ⟨b21, 0, none⟩) (2 ^ (knL s).length) (2 ^ (knL s).length)), (7, iv b), (8, iv part)])
  (fun g => [.blk b1 (LC [.slice a s.rows.length c, iv s.most] 24), .blk b17 (LC (flat ei (F.set b g.1)) 3), .blk b21 (LC (flat ei (C.set b g.2.1)) 3)])
  (fun g V'' => Le V2 V'' ∧ InI (gdS s) (knL s) b i (wOf F C) 99 ((part - 1) &&& b) g.1 g.2.1 g.2.2) ?_ ?_
 ·have hlb := low_and (p := part) (show b < 1024 by omega) hi1 hi2
  have hlow := lowB_le b (by omega)
  cases hbit : part.testBit i with
  | false =>
   have hz := hlb.2 hbit
   refine At.nrm ?_
   refine At.zi (.q 0 (.q 1 (.q 2 (.q 3 (.q 4 (.q 5 (.q 6 .done))))))) ?_
   refine AtT.zf ?_
   refine AtT.zf ?_
   refine AtT.zf ?_
   first | refine AtT.kneg ?_ | refine AtT.knegW ?_
   refine AtT.lowN rfl trivial rfl rfl rfl rfl (by omega) (by decide) (A := b) ?_
   refine AtT.andN rfl trivial rfl rfl rfl rfl (by omega) (by omega) (by decide) (A := part) (B := lowB b) ?_
   refine AtT.qK ?_
   refine AtT.qp (d := 45) rfl ((show ((part &&& lowB b : Nat) : Int) = 0 by rw [hz]; rfl)) ?_
   refine AtT.done ?_
   refine At.nrm ?_
   refine At.qB rfl rfl ?_
   refine At.nrm ?_
   exact At.qf (f, cc, q0) ⟨Le.refl _, in_skip hin hsub fun h => by have := h.low; rw [hbit] at this; cases this⟩ ⟨rfl, rfl, rfl, rfl, rfl, rfl, trivial⟩ Pt.zI
  | true =>
   have hz : ¬ ((part &&& lowB b : Nat) : Int) = 0 := fun h => by
    have := hlb.1 (by omega); rw [hbit] at this; cases this
   refine At.nrm ?_
   refine At.zi (.q 0 (.q 1 (.q 2 (.q 3 (.q 4 (.q 5 (.q 6 .done))))))) ?_
   refine AtT.zf ?_
   refine AtT.zf ?_
   refine AtT.zf ?_
   first | refine AtT.kneg ?_ | refine AtT.knegW ?_
   refine AtT.lowN rfl trivial rfl rfl rfl rfl (by omega) (by decide) (A := b) ?_
   refine AtT.andN rfl trivial rfl rfl rfl rfl (by omega) (by omega) (by decide) (A := part) (B := lowB b) ?_
   refine AtT.qK ?_
   refine AtT.qj (d := 45) rfl (hz) ?_
   refine AtT.done ?_
   refine At.nrm ?_
   refine At.qE rfl rfl ?_
   refine At.nrm ?_
   refine At.zi (.q 0 (.q 1 (.n false 2 (.n false 3 (.n true 4 .done))))) ?_
   refine AtT.zf ?_
   refine AtT.zf ?_
   refine AtT.zq rfl rfl ok49 (rleast_f (knL s) (kn_bd hok) (by omega) part (by omega) _ _ hsk3) ?_
   rintro _ rfl
   refine AtT.qw z26 ?_
   intro b9
   refine AtT.zW zQ ?_
   refine AtT.done ?_
   refine At.nrm ?_
   refine At.nrm ?_
   refine At.zi (.q 0 (.q 1 (.n false 2 (.q 3 .done)))) ?_
   first | refine AtT.zu zx ?_ | refine AtT.zC zx ?_ | refine AtT.zt zx ?_
   first | refine AtT.zu zQ ?_ | refine AtT.zC zQ ?_ | refine AtT.zt zQ ?_
   refine AtT.zq rfl rfl ok51 (rpe_f s hok _ _ _ hv3) ?_
   rintro _ rfl
   refine AtT.qC ?_
   refine AtT.done ?_
   refine At.nrm ?_
   refine At.zX rfl (fun he => ?_) (fun he => ?_)
   ·refine At.nrm ?_
    exact At.qf (f, cc, q0) ⟨Le.refl _, in_skip hin hsub fun h => he (jB.2 h.lies)⟩ ⟨rfl, rfl, rfl, rfl, rfl, rfl, trivial⟩ Pt.zI
   have hpl := jB.1 (Classical.not_not.1 he)
   have hcand : Cand (gdS s) (knL s) b i part := ⟨hsub, hbit, hpl⟩
   have hrl := rest_lt (b := b) (p := part) (by omega) (by omega) hsub (by omega)
   have hre := rest_eq (b := b) (p := part) (by omega) (by omega) hsub
   have hsb : (b : Int) - part = ((qF b part : Nat) : Int) := by omega
   obtain ⟨w1, w2, w3⟩ := dp_w hdp (r := qF b part) hrl (by omega)
   have hbd := best_bd hg (fun k hk => hon k (sel_in hk)) (fun k hk => hfg k (sel_in hk)) w3
   have hsl := sel_len (K := knL s) (qF b part)
   have hfl1 : (flat ei (F.set b f))[qF b part * 1]? = some (iv ((wOf F C (qF b part)).1 : Int)) := fl_get (by rw [List.getElem?_set, if_neg (by omega)]; exact w1)
   have hfl2 : (flat ei (C.set b cc))[qF b part * 1]? = some (iv (wOf F C (qF b part)).2) := fl_get (by rw [List.getElem?_set, if_neg (by omega)]; exact w2)
   have hfb : (flat ei (F.set b f))[b * 1]? = some (iv f) := fl_get (by rw [List.getElem?_set, if_pos rfl, if_pos (by omega)])
   have hcb : (flat ei (C.set b cc))[b * 1]? = some (iv cc) := fl_get (by rw [List.getElem?_set, if_pos rfl, if_pos (by omega)])
   obtain ⟨n1, hn1⟩ : ∃ n1 : Int, n1 = ((wOf F C (qF b part)).1 : Int) + 1 := ⟨_, rfl⟩
   obtain ⟨c1, hc1⟩ : ∃ c1 : Int, c1 = (wOf F C (qF b part)).2 + (bbx (sel (knL s) part)).h * (bbx (sel (knL s) part)).w := ⟨_, rfl⟩
   have hpm := hpl.most
   have hpp := ar_pos hpl
   have hgm := hg.most
   have hap : arP (bbx (sel (knL s) part)) = (bbx (sel (knL s) part)).h * (bbx (sel (knL s) part)).w := rfl
   have hfit : Fit ((bbx (sel (knL s) part)).h * (bbx (sel (knL s) part)).w) := Fit.of (by omega) (by omega)
   have hfit2 : Fit ((wOf F C (qF b part)).2 + (bbx (sel (knL s) part)).h * (bbx (sel (knL s) part)).w) := Fit.of (by omega) (by omega)
   refine At.nrm ?_
   refine At.jo (ι := Unit) (fun _ => [(1, .pointer (some ⟨b1, 0, none⟩)), (4, .slice ak (knL s).length ck), (5, .slice (some ⟨b17, 0, none⟩) (2 ^ (knL s).length) (2 ^ (knL s).length)), (6, .slice (some ⟨b21, 0, none⟩) (2 ^ (knL s).length) (2 ^ (knL s).length)), (7, iv b), (8, iv part), (10, iv n1), (11, iv c1)])
    (fun _ => [.blk b1 (LC [.slice a s.rows.length c, iv s.most] 24), .blk b17 (LC (flat ei (F.set b f)) 3), .blk b21 (LC (flat ei (C.set b cc)) 3)]) (fun _ V'' => V2 = V'') ?_ ?_
   ·rw [hn1, hc1]
    refine At.draw (.q 0 (.q 1 (.q 2 (.q 3 (.q 4 (.q 5 (.q 6 (.q 7 (.q 8 (.q 9 (.q 10 (.q 11 (.q 12 (.q 13 (.q 14 (.q 15 (.q 16 (.q 17 (.q 18 (.q 19 (.q 20 .done))))))))))))))))))))) ffm (by kernel_rfl) ?_
    refine AtT.zf ?_
    refine AtT.zf ?_
    refine AtT.zf ?_
    first | refine AtT.qz ?_ | refine AtT.qA ?_
    rw [hsb]
    refine AtT.idxZ rfl trivial Tryz.underlying39 tk3 rfl rfl (by omega) (by decide) ?_
    refine AtT.loadO rfl trivial rfl tk3 zZ.zI hfl1 (by decide) ?_
    first | refine AtT.qh ?_ | refine AtT.zT ?_
    refine AtT.zf ?_
    refine AtT.zf ?_
    refine AtT.zf ?_
    first | refine AtT.qz ?_ | refine AtT.qA ?_
    rw [hsb]
    refine AtT.idxZ rfl trivial Tryz.underlying39 tk3 rfl rfl (by omega) (by decide) ?_
    refine AtT.loadO rfl trivial rfl tk3 zZ.zI hfl2 (by decide) ?_
    first | refine AtT.zk zG ?_ | with_reducible refine AtT.zl zG ?_ | refine AtT.zn zG ?_
    first | refine AtT.zm tk3 ?_ | refine AtT.zo tk3 ?_
    first | refine AtT.zk zH ?_ | with_reducible refine AtT.zl zH ?_ | refine AtT.zn zH ?_
    first | refine AtT.zm tk3 ?_ | refine AtT.zo tk3 ?_
    first | refine AtT.kmul ?_ | refine AtT.kmulW ?_
    first | refine AtT.qh ?_ | refine AtT.zT ?_
    refine AtT.zh ?_
    refine AtT.zh ?_
    refine AtT.done ?_
    refine At.nrm ?_
    all_goals (exact At.qf () rfl ⟨rfl, rfl, rfl, rfl, rfl, rfl, rfl, rfl, trivial⟩ Pt.zI)
   rintro _ _ ks' O' rfl hk hO hl5
   subst hk hO
   have hst1 := fl_set2 (l := F) (j := b) f n1 (by omega)
   have hst2 := fl_set2 (l := C) (j := b) cc c1 (by omega)
   have hnew : n1 < f ∨ n1 = f ∧ c1 < cc → InI (gdS s) (knL s) b i (wOf F C) 99 ((part - 1) &&& b) n1 c1 part := fun h => by
    rw [hn1, hc1] at h ⊢; exact in_new hin hsub hcand h
   have hkeep : ¬ (n1 < f ∨ n1 = f ∧ c1 < cc) → InI (gdS s) (knL s) b i (wOf F C) 99 ((part - 1) &&& b) f cc q0 := fun h => by
    rw [hn1, hc1] at h; exact in_keep hin hsub h
   refine At.nrm ?_
   refine At.jo (ι := Unit) (fun _ => [(1, .pointer (some ⟨b1, 0, none⟩)), (4, .slice ak (knL s).length ck), (5, .slice (some ⟨b17, 0, none⟩) (2 ^ (knL s).length) (2 ^ (knL s).length)), (6, .slice (some ⟨b21, 0, none⟩) (2 ^ (knL s).length) (2 ^ (knL s).length)), (7, iv b), (8, iv part), (10, iv n1), (11, iv c1), (93, .bool (decide (n1 < f ∨ n1 = f ∧ c1 < cc)))])
    (fun _ => [.blk b1 (LC [.slice a s.rows.length c, iv s.most] 24), .blk b17 (LC (flat ei (F.set b f)) 3), .blk b21 (LC (flat ei (C.set b cc)) 3)]) (fun _ V'' => V2 = V'') ?_ ?_
   ·by_cases k1 : n1 < f
    ·rw [decide_eq_true (.inl k1)]
     refine At.zi (.q 0 (.q 1 (.q 2 (.q 3 (.q 4 (.q 5 (.q 6 (.q 7 (.q 8 (.q 9 (.q 10 (.q 11 (.q 12 (.q 13 (.q 14 (.q 15 (.q 16 (.q 17 (.q 18 (.q 19 (.q 20 (.q 21 .done)))))))))))))))))))))) ?_
     refine AtT.zf ?_
     refine AtT.zf ?_
     refine AtT.zf ?_
     refine AtT.idxZ rfl trivial Tryz.underlying39 tk3 rfl rfl (by omega) (by decide) ?_
     refine AtT.loadO rfl trivial rfl tk3 zZ.zI hfb (by decide) ?_
     refine AtT.zY ?_
     refine AtT.qp (d := 77) rfl (k1) ?_
     refine AtT.zf ?_
     all_goals (first | refine AtT.kL 78 ?_ | refine AtT.zA (d := 78) rfl (fun hg78 => ?_) (fun hg78 => ?_) | refine AtT.zz (d := 78) rfl (fun hg78 => ?_) (fun hg78 => ?_))
     all_goals first|refine AtT.zg ?_|refine AtT.ze ?_|(refine AtT.zf ?_)
     all_goals first|refine AtT.zg ?_|refine AtT.ze ?_|(refine AtT.zf ?_)
     all_goals first|refine AtT.zg ?_|refine AtT.ze ?_|(refine AtT.zf ?_)
     all_goals first|refine AtT.zg ?_|refine AtT.ze ?_|(refine AtT.qi Tryz.underlying39 tk3 ?_) ; (intro p82 e82 he82 hc82)
     all_goals first|refine AtT.zg ?_|refine AtT.ze ?_|(first | refine AtT.zm tk3 ?_ | refine AtT.zo tk3 ?_)
     all_goals first|refine AtT.zg ?_|refine AtT.ze ?_|(refine AtT.qK ?_)
     all_goals first|refine AtT.zg ?_|refine AtT.ze ?_|(refine AtT.zf ?_)
     all_goals (first | refine AtT.kL 85 ?_ | refine AtT.zA (d := 85) rfl (fun hg85 => ?_) (fun hg85 => ?_) | refine AtT.zz (d := 85) rfl (fun hg85 => ?_) (fun hg85 => ?_))
     all_goals first|refine AtT.zg ?_|refine AtT.ze ?_|(refine AtT.zf ?_)
     all_goals first|refine AtT.zg ?_|refine AtT.ze ?_|(refine AtT.zf ?_)
     all_goals first|refine AtT.zg ?_|refine AtT.ze ?_|(refine AtT.zf ?_)
     all_goals first|refine AtT.zg ?_|refine AtT.ze ?_|(refine AtT.qi Tryz.underlying39 tk3 ?_) ; (intro p89 e89 he89 hc89)
     all_goals first|refine AtT.zg ?_|refine AtT.ze ?_|(first | refine AtT.zm tk3 ?_ | refine AtT.zo tk3 ?_)
     all_goals first|refine AtT.zg ?_|refine AtT.ze ?_|(refine AtT.zY ?_)
     all_goals first|refine AtT.zg ?_|refine AtT.ze ?_|(refine AtT.zy ?_)
     all_goals (refine AtT.zy ?_)
     all_goals refine AtT.done ?_
     all_goals (refine At.nrm ?_)
     all_goals (exact At.qf () rfl ⟨rfl, rfl, rfl, rfl, rfl, rfl, rfl, rfl, rfl, trivial⟩ Pt.zI)
    by_cases k2 : n1 = f
    ·have e : decide (n1 < f ∨ n1 = f ∧ c1 < cc) = decide (c1 < cc) := by simp [k1, k2]
     rw [e]
     refine At.zi (.q 0 (.q 1 (.q 2 (.q 3 (.q 4 (.q 5 (.q 6 (.q 7 (.q 8 (.q 9 (.q 10 (.q 11 (.q 12 (.q 13 (.q 14 (.q 15 (.q 16 (.q 17 (.q 18 (.q 19 (.q 20 (.q 21 .done)))))))))))))))))))))) ?_
     refine AtT.zf ?_
     refine AtT.zf ?_
     refine AtT.zf ?_
     refine AtT.idxZ rfl trivial Tryz.underlying39 tk3 rfl rfl (by omega) (by decide) ?_
     refine AtT.loadO rfl trivial rfl tk3 zZ.zI hfb (by decide) ?_
     refine AtT.zY ?_
     refine AtT.qj (d := 77) rfl (k1) ?_
     refine AtT.zf ?_
     all_goals (first | refine AtT.kL 78 ?_ | refine AtT.zA (d := 78) rfl (fun hg78 => ?_) (fun hg78 => ?_) | refine AtT.zz (d := 78) rfl (fun hg78 => ?_) (fun hg78 => ?_))
     all_goals first|refine AtT.zg ?_|refine AtT.ze ?_|(refine AtT.zf ?_)
     all_goals first|refine AtT.zg ?_|refine AtT.ze ?_|(refine AtT.zf ?_)
     all_goals first|refine AtT.zg ?_|refine AtT.ze ?_|(refine AtT.zf ?_)
     all_goals first|refine AtT.zg ?_|refine AtT.ze ?_|(refine AtT.idxZ rfl ⟨_, _, rfl, rfl, rfl⟩ Tryz.underlying39 tk3 rfl rfl (by omega) (by decide) ?_)
     all_goals first|refine AtT.zg ?_|refine AtT.ze ?_|(refine AtT.loadO rfl ⟨_, _, rfl, rfl, rfl⟩ rfl tk3 zZ.zI hfb (by decide) ?_)
     all_goals first|refine AtT.zg ?_|refine AtT.ze ?_|(refine AtT.qK ?_)
     all_goals (refine AtT.qp (d := 84) rfl (k2) ?_)
     all_goals first|refine AtT.zg ?_|refine AtT.ze ?_|(refine AtT.zf ?_)
     all_goals (first | refine AtT.kL 85 ?_ | refine AtT.zA (d := 85) rfl (fun hg85 => ?_) (fun hg85 => ?_) | refine AtT.zz (d := 85) rfl (fun hg85 => ?_) (fun hg85 => ?_))
     all_goals first|refine AtT.zg ?_|refine AtT.ze ?_|(refine AtT.zf ?_)
     all_goals first|refine AtT.zg ?_|refine AtT.ze ?_|(refine AtT.zf ?_)
     all_goals first|refine AtT.zg ?_|refine AtT.ze ?_|(refine AtT.zf ?_)
     all_goals first|refine AtT.zg ?_|refine AtT.ze ?_|(refine AtT.idxZ rfl ⟨_, _, rfl, rfl, rfl⟩ Tryz.underlying39 tk3 rfl rfl (by omega) (by decide) ?_)
     all_goals first|refine AtT.zg ?_|refine AtT.ze ?_|(refine AtT.loadO rfl ⟨_, _, rfl, rfl, rfl⟩ rfl tk3 zZ.zI hcb (by decide) ?_)
     all_goals first|refine AtT.zg ?_|refine AtT.ze ?_|(refine AtT.zY ?_)
     all_goals first|refine AtT.zg ?_|refine AtT.ze ?_|(refine AtT.zy ?_)
     all_goals (refine AtT.zy ?_)
     all_goals refine AtT.done ?_
     all_goals (refine At.nrm ?_)
     all_goals (exact At.qf () rfl ⟨rfl, rfl, rfl, rfl, rfl, rfl, rfl, rfl, rfl, trivial⟩ Pt.zI)
    ·rw [decide_eq_false (by omega)]
     refine At.zi (.q 0 (.q 1 (.q 2 (.q 3 (.q 4 (.q 5 (.q 6 (.q 7 (.q 8 (.q 9 (.q 10 (.q 11 (.q 12 (.q 13 (.q 14 (.q 15 (.q 16 (.q 17 (.q 18 (.q 19 (.q 20 (.q 21 .done)))))))))))))))))))))) ?_
     refine AtT.zf ?_
     refine AtT.zf ?_
     refine AtT.zf ?_
     refine AtT.idxZ rfl trivial Tryz.underlying39 tk3 rfl rfl (by omega) (by decide) ?_
     refine AtT.loadO rfl trivial rfl tk3 zZ.zI hfb (by decide) ?_
     refine AtT.zY ?_
     refine AtT.qj (d := 77) rfl (k1) ?_
     refine AtT.zf ?_
     all_goals (first | refine AtT.kL 78 ?_ | refine AtT.zA (d := 78) rfl (fun hg78 => ?_) (fun hg78 => ?_) | refine AtT.zz (d := 78) rfl (fun hg78 => ?_) (fun hg78 => ?_))
     all_goals first|refine AtT.zg ?_|refine AtT.ze ?_|(refine AtT.zf ?_)
     all_goals first|refine AtT.zg ?_|refine AtT.ze ?_|(refine AtT.zf ?_)
     all_goals first|refine AtT.zg ?_|refine AtT.ze ?_|(refine AtT.zf ?_)
     all_goals first|refine AtT.zg ?_|refine AtT.ze ?_|(refine AtT.idxZ rfl ⟨_, _, rfl, rfl, rfl⟩ Tryz.underlying39 tk3 rfl rfl (by omega) (by decide) ?_)
     all_goals first|refine AtT.zg ?_|refine AtT.ze ?_|(refine AtT.loadO rfl ⟨_, _, rfl, rfl, rfl⟩ rfl tk3 zZ.zI hfb (by decide) ?_)
     all_goals first|refine AtT.zg ?_|refine AtT.ze ?_|(refine AtT.qK ?_)
     all_goals (refine AtT.qj (d := 84) rfl (k2) ?_)
     all_goals first|refine AtT.zg ?_|refine AtT.ze ?_|(refine AtT.zf ?_)
     all_goals (first | refine AtT.kL 85 ?_ | refine AtT.zA (d := 85) rfl (fun hg85 => ?_) (fun hg85 => ?_) | refine AtT.zz (d := 85) rfl (fun hg85 => ?_) (fun hg85 => ?_))
     all_goals first|refine AtT.zg ?_|refine AtT.ze ?_|(refine AtT.zf ?_)
     all_goals first|refine AtT.zg ?_|refine AtT.ze ?_|(refine AtT.zf ?_)
     all_goals first|refine AtT.zg ?_|refine AtT.ze ?_|(refine AtT.zf ?_)
     all_goals first|refine AtT.zg ?_|refine AtT.ze ?_|(refine AtT.qi Tryz.underlying39 tk3 ?_) ; (intro p89 e89 he89 hc89)
     all_goals first|refine AtT.zg ?_|refine AtT.ze ?_|(first | refine AtT.zm tk3 ?_ | refine AtT.zo tk3 ?_)
     all_goals first|refine AtT.zg ?_|refine AtT.ze ?_|(refine AtT.zY ?_)
     all_goals first|refine AtT.zg ?_|refine AtT.ze ?_|(refine AtT.zy ?_)
     all_goals (refine AtT.zy ?_)
     all_goals refine AtT.done ?_
     all_goals (refine At.nrm ?_)
     all_goals (exact At.qf () rfl ⟨rfl, rfl, rfl, rfl, rfl, rfl, rfl, rfl, rfl, trivial⟩ Pt.zI)
   rintro _ _ ks' O' rfl hk hO hl6
   subst hk hO
   refine At.zX rfl (fun hbt => ?_) (fun hbt => ?_)
   ·refine At.nrm ?_
    refine At.zi (.q 0 (.q 1 (.q 2 (.q 3 (.q 4 (.q 5 (.q 6 (.n true 7 (.q 8 (.n true 9 .done)))))))))) ?_
    refine AtT.zf ?_
    refine AtT.zf ?_
    refine AtT.zf ?_
    refine AtT.zf ?_
    refine AtT.zf ?_
    refine AtT.zf ?_
    refine AtT.idxZ rfl trivial Tryz.underlying39 tk3 rfl rfl (by omega) (by decide) ?_
    refine AtT.jk tk3 ?_ (hs := hst1)
    refine AtT.idxZ rfl trivial Tryz.underlying39 tk3 rfl rfl (by omega) (by decide) ?_
    refine AtT.jk tk3 ?_ (hs := hst2)
    refine AtT.done ?_
    refine At.nrm ?_
    all_goals (exact At.qf (n1, c1, part) ⟨Le.refl _, hnew hbt⟩ ⟨rfl, rfl, rfl, rfl, rfl, rfl, trivial⟩ Pt.zI)
   ·refine At.nrm ?_
    exact At.qf (f, cc, q0) ⟨Le.refl _, hkeep hbt⟩ ⟨rfl, rfl, rfl, rfl, rfl, rfl, trivial⟩ Pt.zI
 rintro ⟨f2, cc2, q2⟩ V3 ks' O' ⟨hV3, hin3⟩ hk hO hl5
 dsimp only at hin3 hk hO
 subst hk hO
 have hq1 : ((part - 1 : Nat) : Int) = (part : Int) - 1 := by omega
 have hand : (part - 1) &&& b ≤ part - 1 := Nat.and_le_left
 refine At.nrm ?_
 refine At.zi (.q 0 (.q 1 (.q 2 (.q 3 (.q 4 .done))))) ?_
 refine AtT.zf ?_
 first | refine AtT.qz ?_ | refine AtT.qA ?_
 refine AtT.zf ?_
 refine AtT.andN rfl trivial rfl rfl hq1.symm rfl (by omega) (by omega) (by decide) (A := part - 1) (B := b) ?_
 refine AtT.zh ?_
 refine AtT.done ?_
 refine At.nrm ?_
 refine At.round ((part - 1) &&& b, f2, cc2, q2) ?_ ?_ ?_ ?_
 ·show (part - 1) &&& b < part; omega
 ·exact ⟨hV2.trans hV3, and_sub _ _, hin3⟩
 ·exact ⟨rfl, rfl, rfl, rfl, rfl, rfl, trivial⟩
 ·exact Pt.zI
end Go.Proofs.YtghomjjffllkeaaGreatDoor
set_option linter.unusedVariables false
namespace Go.Pm
open Go.Gl Go.Lw
def arK (K : List Cl) (x : Int) : Int := arP (bbx (sel K x.toNat))
abbrev ksL (n : Nat) : List Int := (List.range (2 ^ n - 1)).map fun (k : Nat) => ((k + 1 : Nat) : Int)
theorem ksL_len (n : Nat) : (ksL n).length = 2 ^ n - 1 := by simp [ksL]
theorem ksL_nodup (n : Nat) : (ksL n).Nodup := by
 unfold ksL
 exact (List.pairwise_map.2 ((List.nodup_range (n := 2 ^ n - 1)).imp fun {a b} h e => h (by have := Int.ofNat.inj e; omega)))
theorem ksL_at {n k : Nat} (h : k < 2 ^ n - 1) : (ksL n)[k]? = some ((k + 1 : Nat) : Int) := by simp only [ksL, List.getElem?_map, List.getElem?_range h]; rfl
theorem ksL_mem {n : Nat} {x : Int} (h : x ∈ ksL n) : 1 ≤ x ∧ x < (2 ^ n : Nat) := by
 obtain ⟨k, hk, rfl⟩ := List.mem_map.1 h
 have := List.mem_range.1 hk
 omega
theorem bbx_bd {K : List Cl} (hK : ∀ k ∈ K, 0 ≤ k.r ∧ k.r ≤ 99 ∧ 0 ≤ k.c ∧ k.c ≤ 99) (hne : K ≠ []) : 1 ≤ (bbx K).h ∧ (bbx K).h ≤ 100 ∧ 1 ≤ (bbx K).w ∧ (bbx K).w ≤ 100 ∧ 1 ≤ arP (bbx K) ∧ arP (bbx K) ≤ 10000 := by
 have b1 := mnL_bd (f := (·.r)) (l := K) fun k hk => (hK k hk).1
 have b2 := mnL_bd (f := (·.c)) (l := K) fun k hk => (hK k hk).2.2.1
 have b3 := mxL_bd (f := (·.r)) (l := K) fun k hk => (hK k hk).2.1
 have b4 := mxL_bd (f := (·.c)) (l := K) fun k hk => (hK k hk).2.2.2
 have hp := bbx_pos hne
 have hh : (bbx K).h = mxL (·.r) K - mnL (·.r) K + 1 := rfl
 have hw : (bbx K).w = mxL (·.c) K - mnL (·.c) K + 1 := rfl
 have h1 : (bbx K).h * (bbx K).w ≤ 100 * 100 := Int.mul_le_mul (by omega) (by omega) (by omega) (by omega)
 have h2 : (1 : Int) * 1 ≤ (bbx K).h * (bbx K).w := Int.mul_le_mul (by omega) (by omega) (by omega) (by omega)
 unfold arP
 omega
end Go.Pm
namespace Go.Proofs.YtghomjjffllkeaaGreatDoor
open Go.Lw Go.Gl Go.Pm Go.RowKit
abbrev ekS (x : Int) : Value := .agg #[iv x]
theorem key129 : KeyL Tryz.prog 129 ekS where
 eq a b w := (eqS129 a b).2 w
 ck e a w := by
  have u3 := Tryz.underlying3
  have a3 := Tryz.isAgg3
  have z3 := Tryz.sizeOf3
  have ci : ∀ (x : Int) (w : World), (Instr.checkKey e 9999 3 (.int .i64 x)).run Tryz.prog w = .ok () w := fun x w => by
   rw [show (9999 : Nat) = 9998 + 1 from rfl, Instr.checkKey]
   simp [run_underlying u3, Sem.run_bind, Result.andThen_ok, Sem.run_pure]
  rw [show (10000 : Nat) = 9999 + 1 from rfl, Instr.checkKey]
  simp only [Sem.run_bind, run_underlying Tryz.underlying129, Result.andThen_ok]
  rw [← Array.forIn_toList]
  simp only [List.forIn_cons, List.forIn_nil, Sem.run_bind, Sem.run_pure, Result.andThen_ok]
  generalize (9999 : Nat) = q at ci ⊢
  go_simp
 sb a := by simp [Instr.sameBits]
 now := ⟨_, Tryz.underlying129, .inl fun a b => rfl⟩
structure UnV (s : Sh) (V : View) (b : Nat) : Prop where
 ex : ∃ (M : MM Int Int) (c : Nat), V b = some (mobj ekS iv M c) ∧ (∀ e ∈ M, e.2.1 = arK (knL s) e.1) ∧ ∀ k : Nat, 1 ≤ k → k < 2 ^ (knL s).length → mhas (k : Int) M = decide (peE (gdS s) (bbx (sel (knL s) k)) = 0)
theorem UnV.le {s : Sh} {V V' : View} {b : Nat} (h : UnV s V b) (hl : Le V V') : UnV s V' b := by
 obtain ⟨M, c, h1, h2, h3⟩ := h.ex
 exact ⟨M, c, hl _ _ h1, h2, h3⟩
theorem under_f (s : Sh) (hok : jH s) (V : View) (b : Nat) (hb : BnV V b s) : Fnc Tryz.prog 90 [.pointer (some ⟨b, 0, none⟩)] V fun r V' => ∃ mb, r = .map (some mb) ∧ UnV s V' mb := by
 obtain ⟨a, c, ak, ck, hc0, hc1, hc2, hc3, hs, hsk⟩ := bn_get hb
 have hkn := hok.kn
 have hp0 : 0 < 2 ^ (knL s).length := Nat.two_pow_pos _
 have hp10 : 2 ^ (knL s).length ≤ 1024 := Nat.pow_le_pow_right (n := 2) (by decide) hkn
 have hkl := ksL_len (knL s).length
 have hnd := ksL_nodup (knL s).length
 have hsn : ∀ k : Nat, 1 ≤ k → k < 2 ^ (knL s).length → sel (knL s) k ≠ [] := fun k h1 h2 => sel_ne (by omega) h2
 have hsb : ∀ k : Nat, ∀ x ∈ sel (knL s) k, 0 ≤ x.r ∧ x.r ≤ 99 ∧ 0 ≤ x.c ∧ x.c ≤ 99 := fun k x hx => kn_bd hok x (sel_in hx)
 refine qc Tryz.func90 rfl Tryz.ntmps90 (Nat.le_of_ble_eq_true rfl) ?_
 intro w0 hw0
 refine At.nrm ?_
 refine At.zi (.q 0 .done) ?_
 refine AtT.zh ?_
 refine AtT.done ?_
 refine At.nrm ?_
 refine At.zi (.n false 0 (.q 1 .done)) ?_
 refine AtT.makeMap rfl trivial ekS iv (by decide) ?_
 intro b7
 refine AtT.zh ?_
 refine AtT.done ?_
 refine At.nrm ?_
 refine At.zi (.q 0 .done) ?_
 refine AtT.zh ?_
 refine AtT.done ?_
 refine At.nrm ?_
 refine At.lp (ι := Nat) (KS := fun k => [(0, .pointer (some ⟨b, 0, none⟩)), (3, .map (some b7)), (4, iv (k + 1))]) (OS := fun k => [.blk b7 (mobj ekS iv (mOf (arK (knL s)) ((ksL (knL s).length).take k) 0) k)])
  (VS := fun k V' => V = V' ∧ k + 1 ≤ 2 ^ (knL s).length) (μ := fun k => 2 ^ (knL s).length - k) 0 ?_ ?_ ?_ ?_
 ·exact ⟨rfl, rfl, rfl, trivial⟩
 ·exact Pt.zI
 ·exact ⟨rfl, hp0⟩
 rintro k _ ks' O' ⟨rfl, hkl2⟩ hk hO hl2
 subst hk hO
 refine At.nrm ?_
 refine At.zi (.q 0 (.q 1 (.q 2 (.q 3 (.q 4 (.q 5 (.q 6 (.q 7 .done)))))))) ?_
 refine AtT.zf ?_
 refine AtT.zf ?_
 refine AtT.knil ?_
 first | refine AtT.zk qG ?_ | with_reducible refine AtT.zl qG ?_ | refine AtT.zn qG ?_
 first | refine AtT.zm tk84 ?_ | refine AtT.zo tk84 ?_
 first | refine AtT.zU Tryz.underlying84 ?_ | refine AtT.zV Tryz.underlying84 ?_
 refine AtT.shlN rfl trivial rfl rfl rfl (by omega) (by decide) (N := (knL s).length) ?_
 refine AtT.zY ?_
 refine AtT.done ?_
 refine At.nrm ?_
 refine At.zX rfl (fun hp => ?_) (fun hp => ?_)
 ·have hk : k < 2 ^ (knL s).length - 1 := by omega
  have htk := take_snoc' (ksL_at hk)
  have htl : ((ksL (knL s).length).take k).length = k := by rw [List.length_take]; omega
  have hpn : ∀ e ∈ mOf (arK (knL s)) ((ksL (knL s).length).take k) 0, e.1 ≠ ((k + 1 : Nat) : Int) := fun e he h => by
   have h1 := (mOf_mem _ he).1
   rw [h] at h1
   obtain ⟨j, hj, hje⟩ := List.mem_take_iff_getElem.1 h1
   simp only [ksL, List.getElem_map, List.getElem_range] at hje
   omega
  have eM : mOf (arK (knL s)) ((ksL (knL s).length).take (k + 1)) 0 = mOf (arK (knL s)) ((ksL (knL s).length).take k) 0 ++ [(((k + 1 : Nat) : Int), arK (knL s) ((k + 1 : Nat) : Int), k)] := by
   rw [htk, mOf_snoc, htl, Nat.zero_add]
  have hak : arK (knL s) ((k + 1 : Nat) : Int) = (bbx (sel (knL s) (k + 1))).h * (bbx (sel (knL s) (k + 1))).w := by unfold arK; rw [Int.toNat_natCast]; rfl
  have hbb := bbx_bd (hsb (k + 1)) (hsn (k + 1) (by omega) (by omega))
  have hap : arP (bbx (sel (knL s) (k + 1))) = (bbx (sel (knL s) (k + 1))).h * (bbx (sel (knL s) (k + 1))).w := rfl
  have hfit : Fit ((bbx (sel (knL s) (k + 1))).h * (bbx (sel (knL s) (k + 1))).w) := Fit.of (by omega) (by omega)
  have hkk : ((k : Int) + 1) = ((k + 1 : Nat) : Int) := by omega
  rw [hkk]
  refine At.nrm ?_
  refine At.zi (.q 0 (.q 1 (.q 2 (.n false 3 (.n false 4 (.n true 5 .done)))))) ?_
  refine AtT.zf ?_
  refine AtT.zf ?_
  refine AtT.qU (bd129_0 _) ?_
  refine AtT.zq rfl rfl ok93 (least_f s hok hkn (k + 1) (by omega) (hsn (k + 1) (by omega) (by omega)) _ b hb) ?_
  rintro _ rfl
  refine AtT.qw z26 ?_
  intro b5
  refine AtT.zW zQ ?_
  refine AtT.done ?_
  refine At.nrm ?_
  refine At.nrm ?_
  refine At.zi (.q 0 (.q 1 (.q 2 (.q 3 (.q 4 (.q 5 (.q 6 (.q 7 (.n true 8 .done))))))))) ?_
  refine AtT.zf ?_
  refine AtT.zf ?_
  refine AtT.qU (bd129_0 _) ?_
  first | refine AtT.zk zG ?_ | with_reducible refine AtT.zl zG ?_ | refine AtT.zn zG ?_
  first | refine AtT.zm tk3 ?_ | refine AtT.zo tk3 ?_
  first | refine AtT.zk zH ?_ | with_reducible refine AtT.zl zH ?_ | refine AtT.zn zH ?_
  first | refine AtT.zm tk3 ?_ | refine AtT.zo tk3 ?_
  first | refine AtT.kmul ?_ | refine AtT.kmulW ?_
  rw [← hak]
  refine AtT.mapNew rfl trivial key129 ((k + 1 : Nat) : Int) (arK (knL s) ((k + 1 : Nat) : Int))  Tryz.underlying125 rfl rfl rfl (fk_new hpn) (by repeat first|exact Upd.here|apply Upd.there) ?_
  refine AtT.done ?_
  refine At.nrm ?_
  refine At.nrm ?_
  refine At.zi (.q 0 (.q 1 (.q 2 .done))) ?_
  refine AtT.zf ?_
  first | refine AtT.qh ?_ | refine AtT.zT ?_
  refine AtT.zh ?_
  refine AtT.done ?_
  refine At.nrm ?_
  refine At.round (k + 1) ?_ ?_ ?_ ?_
  ·show 2 ^ (knL s).length - (k + 1) < 2 ^ (knL s).length - k; omega
  ·exact ⟨rfl, by omega⟩
  ·exact ⟨rfl, rfl, by congr 2, trivial⟩
  rw [eM]
  ·exact Pt.zI
 obtain rfl : k = 2 ^ (knL s).length - 1 := by omega
 rw [List.take_of_length_le (by omega)]
 obtain ⟨M, hM⟩ : ∃ M, M = mOf (arK (knL s)) (ksL (knL s).length) 0 := ⟨_, rfl⟩
 rw [← hM]
 have hborn : (M.map (·.2.2)).Nodup := by rw [hM]; exact mOf_born _ _ _
 have hkeys : (M.map (·.1)).Nodup := by rw [hM, mOf_keys]; exact hnd
 have hlt : ∀ e ∈ M, e.2.2 < 2 ^ (knL s).length - 1 := fun e he => by rw [hM] at he; have := (mOf_mem _ he).2.2; omega
 have hval : ∀ e ∈ M, e.1 ∈ ksL (knL s).length ∧ e.2.1 = arK (knL s) e.1 := fun e he => by rw [hM] at he; exact ⟨(mOf_mem _ he).1, (mOf_mem _ he).2.1⟩
 refine At.nrm ?_
 refine At.zi (.q 0 (.n false 1 .done)) ?_
 refine AtT.zf ?_
 refine AtT.range rfl trivial Tryz.underlying125 rfl zZ.zI (by decide) ?_
 intro b31
 refine AtT.done ?_
 refine At.nrm ?_
 refine At.lp (ι := Array Nat) (KS := fun _ => [(0, .pointer (some ⟨b, 0, none⟩)), (3, .map (some b7)), (31, .pointer (some ⟨b31, 0, none⟩))])
  (OS := fun seen => [.blk b31 (.mapIter (some b7) (2 ^ (knL s).length - 1) seen (2 ^ (knL s).length - 1)), .blk b7 (mobj ekS iv (left (fun e => decide (peE (gdS s) (bbx (sel (knL s) e.1.toNat)) = 0)) M seen) (2 ^ (knL s).length - 1))])
  (VS := fun _ V' => V = V') (μ := fun seen => (M.filter fun e => !seen.contains e.2.2).length) #[] ?_ ?_ ?_ ?_
 ·exact ⟨rfl, rfl, rfl, trivial⟩
 ·rw [left_nil]
  ·exact Pt.zI
 ·rfl
 rintro seen _ ks' O' rfl hk hO hl3
 subst hk hO
 have hsub : ∀ e ∈ left (fun e => decide (peE (gdS s) (bbx (sel (knL s) e.1.toNat)) = 0)) M seen, e ∈ M := fun e he => (List.mem_filter.1 he).1
 refine At.nrm ?_
 refine At.zi (.n true 0 (.q 1 .done)) ?_
 all_goals (refine AtT.next rfl trivial rfl zZ.zI zZ.zI (fun e he => hlt e (hsub e he)) (Nat.le_refl _) (by decide) (fun hall => ?_) (fun e he hns => ?_))
 all_goals (refine AtT.zO ?_)
 all_goals refine AtT.done ?_
 all_goals (refine At.nrm ?_)
 ·refine At.qE rfl rfl ?_
  rw [left_end hall]
  refine At.nrm ?_
  refine At.zi (.q 0 (.q 1 .done)) ?_
  refine AtT.zf ?_
  refine AtT.zh ?_
  refine AtT.done ?_
  refine At.nrm ?_
  refine At.giveB (b := b7) zZ.zI (fun V5 hV5 hb8 => ?_)
  refine At.qd rfl (.tmp rfl) ⟨b7, rfl, ⟨_, _, hb8, fun e he => (hval e (List.mem_filter.1 he).1).2, fun k hk1 hk => ?_⟩⟩
  rw [Bool.eq_iff_iff, mhas_iff, decide_eq_true_eq]
  constructor
  ·rintro ⟨e, he, hek⟩
   obtain ⟨h1, h2⟩ := List.mem_filter.1 he
   rw [decide_eq_true_eq, hek, Int.toNat_natCast] at h2
   exact h2
  ·intro hf
   have hm : (k : Int) ∈ ksL (knL s).length := by
    have := List.mem_of_getElem? (ksL_at (n := (knL s).length) (k := k - 1) (by omega))
    rwa [show k - 1 + 1 = k by omega] at this
   obtain ⟨j, hj⟩ := mOf_has (arK (knL s)) (i := 0) hm
   rw [← hM] at hj
   exact ⟨_, List.mem_filter.2 ⟨hj, by simpa using hf⟩, rfl⟩
 ·refine At.qB rfl rfl ?_
  have heM := hsub e he
  have hun := unseen_lt heM hns
  have hnd2 : ((left (fun e => decide (peE (gdS s) (bbx (sel (knL s) e.1.toNat)) = 0)) M seen).map (·.2.2)).Nodup := hborn.sublist (List.filter_sublist.map _)
  have hek := ksL_mem (hval e heM).1
  obtain ⟨k, hke⟩ : ∃ k : Nat, e.1 = (k : Int) := ⟨e.1.toNat, by omega⟩
  have hkt : e.1.toNat = k := by omega
  refine At.nrm ?_
  refine At.zi (.n false 0 (.q 1 (.n false 2 (.n true 3 .done)))) ?_
  refine AtT.entry rfl trivial rfl zZ.zI zZ.zI he hnd2 (by decide) ?_
  refine AtT.zO ?_
  refine AtT.qw z129 ?_
  intro b6
  refine AtT.zW tk129 ?_
  refine AtT.done ?_
  refine At.nrm ?_
  refine At.nrm ?_
  refine At.zi (.q 0 (.q 1 (.q 2 (.n false 3 (.n false 4 (.q 5 .done)))))) ?_
  refine AtT.zf ?_
  refine AtT.zf ?_
  first | refine AtT.zu tk129 ?_ | refine AtT.zC tk129 ?_ | refine AtT.zt tk129 ?_
  refine AtT.zq rfl rfl ok93 ((by rw [hke]; exact least_f s hok hkn k (by omega) (hsn k (by omega) (by omega)) _ b hb)) ?_
  rintro _ rfl
  refine AtT.zq rfl rfl ok58 (lies_f s hok _ _ b hb) ?_
  rintro _ rfl
  refine AtT.qC ?_
  refine AtT.done ?_
  refine At.nrm ?_
  refine At.zX rfl (fun hm => ?_) (fun hm => ?_)
  ·have hg : decide (peE (gdS s) (bbx (sel (knL s) e.1.toNat)) = 0) = false := by rw [hkt]; exact decide_eq_false hm
   have hdel := left_del (g := fun e : Int × Int × Nat => decide (peE (gdS s) (bbx (sel (knL s) e.1.toNat)) = 0)) (seen := seen) hborn hkeys heM hg
   refine At.nrm ?_
   refine At.zi (.q 0 (.q 1 (.n true 2 .done))) ?_
   refine AtT.zf ?_
   first | refine AtT.zu tk129 ?_ | refine AtT.zC tk129 ?_ | refine AtT.zt tk129 ?_
   refine AtT.mapDel rfl trivial key129 e.1 iv rfl Tryz.underlying125 rfl rfl (by repeat first|exact Upd.here|apply Upd.there) ?_
   refine AtT.done ?_
   refine At.nrm ?_
   refine At.round (seen.push e.2.2) hun rfl ⟨rfl, rfl, rfl, trivial⟩ ?_
   rw [hdel]
   ·exact Pt.zI
  ·have hg : decide (peE (gdS s) (bbx (sel (knL s) e.1.toNat)) = 0) = true := by rw [hkt]; exact decide_eq_true (Decidable.not_not.1 hm)
   have hkeep := left_keep (g := fun e : Int × Int × Nat => decide (peE (gdS s) (bbx (sel (knL s) e.1.toNat)) = 0)) (seen := seen) hborn heM hg
   refine At.nrm ?_
   refine At.round (seen.push e.2.2) hun rfl ⟨rfl, rfl, rfl, trivial⟩ ?_
   rw [hkeep]
   ·exact Pt.zI
end Go.Proofs.YtghomjjffllkeaaGreatDoor
set_option linter.unusedVariables false
namespace Go.Pm
open Go.Gl Go.Lw
structure Wy where
 m : Int
 c : Int
 q : Nat
 deriving DecidableEq
abbrev wye (w : Wy) : List Value := [iv w.m, iv w.c, iv w.q]
abbrev wyv (w : Wy) : Value := .agg #[iv w.m, iv w.c, iv w.q]
theorem wye_len (w : Wy) : (wye w).length = 3 := rfl
def fwB (a b : Wy) : Bool := decide (a.m < b.m ∨ a.m = b.m ∧ a.c < b.c)
variable {g : Gd} {K : List Cl} {b i : Nat}
structure DpW (g : Gd) (K : List Cl) (L : List Wy) (b : Nat) : Prop where
 len : L.length = 2 ^ K.length
 ok : ∀ r, r < b → r < 2 ^ K.length → ∃ (n : Nat) (c : Int) (q : Nat), L[r]? = some ⟨n, c, q⟩ ∧ jA g (sel K r) n c ∧ (r ≠ 0 → ∃ i m d q', Cand g K r i q ∧ L[qF r q]? = some ⟨(m : Nat), d, q'⟩ ∧ n = m + 1 ∧ c = d + arP (bbx (sel K q)))
 rest : ∀ r, b ≤ r → r < 2 ^ K.length → L[r]? = some ⟨0, 0, 0⟩
def wW (L : List Wy) (r : Nat) : Nat × Int := ((L.getD r ⟨0, 0, 0⟩).m.toNat, (L.getD r ⟨0, 0, 0⟩).c)
theorem dw_w {L : List Wy} (h : DpW g K L b) {r : Nat} (hr : r < b) (hl : r < 2 ^ K.length) : (∃ q, L[r]? = some ⟨((wW L r).1 : Int), (wW L r).2, q⟩) ∧ jA g (sel K r) (wW L r).1 (wW L r).2 := by
 obtain ⟨n, c, q, h1, h2, _⟩ := h.ok r hr hl
 have e1 : (wW L r).1 = n := by unfold wW; simp [List.getD, h1]
 have e2 : (wW L r).2 = c := by unfold wW; simp [List.getD, h1]
 rw [e1, e2]
 exact ⟨⟨q, h1⟩, h2⟩
theorem dw_start : DpW g K (List.replicate (2 ^ K.length) ⟨0, 0, 0⟩) 1 := by
 have hp : 0 < 2 ^ K.length := Nat.two_pow_pos _
 refine ⟨List.length_replicate, fun r hr hl => ?_, fun r _ hl => by rw [List.getElem?_replicate, if_pos hl]⟩
 obtain rfl : r = 0 := by omega
 refine ⟨0, 0, 0, by rw [List.getElem?_replicate, if_pos hp]; rfl, ?_, fun h => absurd rfl h⟩
 rw [sel_zero]
 exact best_nil
theorem dw_step {L : List Wy} (h : DpW g K L b) (hb : b < 2 ^ K.length) (hb1 : b < 1024) {n : Nat} {c : Int} {q : Nat} (hB : jA g (sel K b) n c) (hC : Cand g K b i q) (hn : n = (wW L (qF b q)).1 + 1) (hc : c = (wW L (qF b q)).2 + arP (bbx (sel K q))) : DpW g K (L.set b ⟨(n : Int), c, q⟩) (b + 1) := by
 have hsub := hC.sub
 have hq0 := big_bit hC.low
 have hql := sub_le hsub
 have hlt : ∀ r q', r < 1024 → SubB q' r → q' ≠ 0 → qF r q' < r := fun r q' h1 h2 h3 => rest_lt h1 (by have := sub_le h2; omega) h2 h3
 refine ⟨by rw [List.length_set]; exact h.len, fun r hr hl => ?_, fun r hr hl => ?_⟩
 ·by_cases e : b = r
  ·subst e
   have h1 := hlt b q hb1 hsub hq0
   obtain ⟨⟨q', hq'⟩, _⟩ := dw_w h h1 (by omega)
   exact ⟨n, c, q, by rw [List.getElem?_set, if_pos rfl, if_pos (by rw [h.len]; exact hl)], hB, fun _ => ⟨i, _, _, q', hC, by rw [List.getElem?_set, if_neg (by omega)]; exact hq', hn, hc⟩⟩
  ·obtain ⟨m, d, q1, h1, h2, h3⟩ := h.ok r (by omega) hl
   refine ⟨m, d, q1, by rw [List.getElem?_set, if_neg e]; exact h1, h2, fun h0 => ?_⟩
   obtain ⟨i', m', d', q', x1, x2, x3⟩ := h3 h0
   have := hlt r q1 (by omega) x1.sub (big_bit x1.low)
   exact ⟨i', m', d', q', x1, by rw [List.getElem?_set, if_neg (by omega)]; exact x2, x3⟩
 ·rw [List.getElem?_set, if_neg (by omega)]
  exact h.rest r (by omega) hl
structure TrW (g : Gd) (K : List Cl) (L : List Wy) (n : Nat) (c : Int) (b : Nat) (ps : List Pc) : Prop where
 at_ : ∃ (m : Nat) (d : Int) (q : Nat), L[b]? = some ⟨m, d, q⟩ ∧ n = ps.length + m ∧ c = arL ps + d
 pcs : ∀ p ∈ ps, Lies g p ∧ ∃ q, q ≠ 0 ∧ q < 2 ^ K.length ∧ p = bbx (sel K q)
 has : ∀ k ∈ K, k ∈ sel K b ∨ ∃ p ∈ ps, inP p k
theorem tr_start {L : List Wy} (hK : K.length ≤ 10) (h : DpW g K L (2 ^ K.length)) : ∃ n c, jA g K n c ∧ TrW g K L n c (2 ^ K.length - 1) [] := by
 have hp : 0 < 2 ^ K.length := Nat.two_pow_pos _
 obtain ⟨n, c, q, h1, h2, _⟩ := h.ok (2 ^ K.length - 1) (by omega) (by omega)
 have hm : ∀ k, k ∈ sel K (2 ^ K.length - 1) ↔ k ∈ K := fun k => by
  rw [jd]
  constructor
  ·rintro ⟨i, h, _⟩; exact List.mem_of_getElem? h
  ·intro h
   obtain ⟨i, hi⟩ := List.getElem?_of_mem h
   exact ⟨i, hi, by rw [Nat.testBit_two_pow_sub_one, decide_eq_true_eq]; exact (List.getElem?_eq_some_iff.1 hi).1⟩
 exact ⟨n, c, best_mem h2 hm, ⟨n, c, q, h1, by simp, by simp [arL]⟩, fun p hp => (by cases hp), fun k hk => .inl ((hm k).2 hk)⟩
theorem tr_step {L : List Wy} (hK : K.length ≤ 10) (h : DpW g K L (2 ^ K.length)) {n : Nat} {c : Int} {ps : List Pc} (ht : TrW g K L n c b ps) (hb : b ≠ 0) (hlt : b < 2 ^ K.length) :
  ∃ w : Wy, L[b]? = some w ∧ w.q ≠ 0 ∧ w.q < 2 ^ K.length ∧ qF b w.q < b ∧ TrW g K L n c (qF b w.q) (ps ++ [bbx (sel K w.q)]) := by
 have h10 : 2 ^ K.length ≤ 1024 := Nat.pow_le_pow_right (n := 2) (by decide) hK
 obtain ⟨n1, c1, q, e1, _, e3⟩ := h.ok b hlt hlt
 obtain ⟨i, m', d', q', x1, x2, x3, x4⟩ := e3 hb
 obtain ⟨m, d, q2, y1, y2, y3⟩ := ht.at_
 rw [e1] at y1
 have y1 := Option.some.inj y1
 have z1 : (n1 : Int) = (m : Int) := congrArg Wy.m y1
 have z2 : c1 = d := congrArg Wy.c y1
 have hq0 := big_bit x1.low
 have hql := sub_le x1.sub
 have hcl := rest_lt (b := b) (p := q) (by omega) (by omega) x1.sub hq0
 have hq2 : q < 2 ^ K.length := by omega
 refine ⟨⟨(n1 : Int), c1, q⟩, e1, hq0, hq2, hcl, ⟨m', d', q', x2, by rw [List.length_append, List.length_singleton]; omega, by rw [arL_snoc]; show c = arL ps + arP (bbx (sel K q)) + d'; omega⟩, fun p hp => ?_, fun k hk => ?_⟩
 ·rcases List.mem_append.1 hp with hp | hp
  ·exact ht.pcs p hp
  ·rw [List.mem_singleton] at hp
   subst hp
   exact ⟨x1.lies, q, hq0, by omega, rfl⟩
 ·rcases ht.has k hk with h1 | ⟨p, hp, hi⟩
  ·obtain ⟨j, j1, j2⟩ := jd.1 h1
   cases hj : q.testBit j with
   | true => exact .inr ⟨_, List.mem_append_right _ (List.mem_singleton.2 rfl), bbx_in (jd.2 ⟨j, j1, hj⟩)⟩
   | false => exact .inl (jd.2 ⟨j, j1, by rw [jJ (by omega) (show q < 1024 by omega), j2, hj]; rfl⟩)
  ·exact .inr ⟨p, List.mem_append_left _ hp, hi⟩
theorem tr_end {L : List Wy} (h : DpW g K L (2 ^ K.length)) {n : Nat} {c : Int} {ps : List Pc} (ht : TrW g K L n c 0 ps) : Mends g K ps ∧ ps.length = n ∧ arL ps = c := by
 have hp : 0 < 2 ^ K.length := Nat.two_pow_pos _
 obtain ⟨m, d, q, y1, y2, y3⟩ := ht.at_
 obtain ⟨n1, c1, q1, e1, e2, _⟩ := h.ok 0 hp hp
 rw [sel_zero] at e2
 obtain ⟨u1, u2⟩ := best_uniq e2 best_nil
 rw [e1] at y1
 have y1 := Option.some.inj y1
 have z1 : (n1 : Int) = (m : Int) := congrArg Wy.m y1
 have z2 : c1 = d := congrArg Wy.c y1
 refine ⟨⟨fun p hp => (ht.pcs p hp).1, fun k hk => ?_⟩, by omega, by omega⟩
 rcases ht.has k hk with h1 | h1
 ·rw [sel_zero] at h1; cases h1
 ·exact h1
structure MnR (g : Gd) (K : List Cl) (ps : List Pc) : Prop where
 best : jA g K ps.length (arL ps)
 mends : Mends g K ps
 least : ∀ p ∈ ps, ∃ q, q ≠ 0 ∧ q < 2 ^ K.length ∧ p = bbx (sel K q)
theorem tr_done {L : List Wy} (h : DpW g K L (2 ^ K.length)) {n : Nat} {c : Int} {ps : List Pc} (hB : jA g K n c) (ht : TrW g K L n c 0 ps) : MnR g K ps := by
 obtain ⟨h1, h2, h3⟩ := tr_end h ht
 subst h2 h3
 exact ⟨hB, h1, fun p hp => (ht.pcs p hp).2⟩
end Go.Pm
set_option linter.unusedVariables false
namespace Go.Pm
open Go.Gl Go.Lw
theorem bestOf_take {α : Type} (lt : α → α → Bool) {out : α} {l : List α} {k : Nat} {x : α} (h : l[k]? = some x) : qZ lt out (l.take (k + 1)) = if lt x (qZ lt out (l.take k)) = true then x else qZ lt out (l.take k) := by
 have hl := (List.getElem?_eq_some_iff.1 h).1
 rw [List.take_succ_eq_append_getElem hl, bestOf_snoc]
 rw [List.getElem?_eq_getElem hl] at h
 cases h; rfl
end Go.Pm
namespace Go.Proofs.YtghomjjffllkeaaGreatDoor
open Go.Lw Go.Gl Go.Pm Go.RowKit
theorem best_w (g : FuncId) (cap : List Value) (lt : Wy → Wy → Bool) (V : View) (vl : Value) (x0 : Wy) (l : List Wy) (hs : Sl V wye 3 vl (x0 :: l)) (hok : zM Tryz.prog g)
  (hc : ∀ x y, x ∈ x0 :: l → y ∈ x0 :: l → Fnc Tryz.prog g ([] ++ [wyv x, wyv y] ++ cap) V (fun v _ => v = .bool (lt x y))) :
  Fnc Tryz.prog 91 [vl, .func (.func g) #[] cap.toArray] V fun v _ => v = wyv (qZ lt x0 l) := by
 have hlen := hs.jq
 simp only [List.length_cons] at hlen
 refine qc Tryz.func91 rfl Tryz.ntmps91 (Nat.le_of_ble_eq_true rfl) ?_
 intro w0 hw0
 refine At.nrm ?_
 refine At.zi (.n false 0 .done) ?_
 refine AtT.qw z131 ?_
 intro b4
 refine AtT.done ?_
 refine At.nrm ?_
 refine At.zi (.q 0 (.q 1 (.q 2 (.n false 3 (.n true 4 .done))))) ?_
 refine AtT.zf ?_
 have hpos : (0 : Int) < ((x0 :: l).length : Int) := by simp only [List.length_cons]; omega
 refine AtT.qi Tryz.underlying127 jc ?_
 intro p9 e9 he9 hc9
 obtain rfl : x0 = e9 := by simpa using he9
 first | refine AtT.zu jc ?_ | refine AtT.zC jc ?_ | refine AtT.zt jc ?_
 refine AtT.qw z131 ?_
 intro b5
 refine AtT.zW jc ?_
 refine AtT.done ?_
 refine At.nrm ?_
 refine At.zi (.q 0 (.q 1 (.q 2 (.q 3 .done)))) ?_
 refine AtT.zf ?_
 have hpos1 : (1 : Int) ≤ ((x0 :: l).length : Int) := by simp only [List.length_cons]; omega
 refine AtT.ktail Tryz.underlying127 jc ?_
 intro a12 c12 hs12
 first | refine AtT.zU Tryz.underlying127 ?_ | refine AtT.zV Tryz.underlying127 ?_
 refine AtT.zf ?_
 refine AtT.done ?_
 refine At.nrm ?_
 refine At.lp (ι := Nat) (KS := fun k => [(1, .func (.func g) #[] cap.toArray), (4, .pointer (some ⟨b4, 0, none⟩)), (5, .pointer (some ⟨b5, 0, none⟩)), (12, .slice a12 l.length c12), (13, iv l.length), (14, iv k)])
  (OS := fun k => [.blk b5 (LC (wye (qZ lt x0 (l.take k))) 131), .blk b4 (LC [iv 0, iv 0, iv 0] 131)])
  (VS := fun k V' => V' = V ∧ k ≤ l.length) (μ := fun k => l.length - k) 0 ?_ ?_ ?_ ?_
 ·exact ⟨rfl, rfl, rfl, rfl, rfl, rfl, trivial⟩
 ·exact Pt.zI
 ·exact ⟨rfl, Nat.zero_le _⟩
 rintro k V' ks' O' ⟨rfl, hkl⟩ hk hO hl
 subst hk hO
 have hs' : Sl V' wye 3 (.slice a12 l.length c12) l := hs12
 refine At.nrm ?_
 refine At.zi (.q 0 .done) ?_
 refine AtT.zY ?_
 refine AtT.done ?_
 refine At.nrm ?_
 refine At.zX rfl (fun hp => ?_) (fun hp => ?_)
 rotate_left
 ·obtain rfl : k = l.length := by omega
  rw [List.take_length]
  refine At.nrm ?_
  refine At.zi (.q 0 (.n true 1 .done)) ?_
  first | refine AtT.zu jc ?_ | refine AtT.zC jc ?_ | refine AtT.zt jc ?_
  refine AtT.zW jc ?_
  refine AtT.done ?_
  refine At.nrm ?_
  exact At.qd rfl (.agg rfl jc zZ.zI rfl) rfl
 obtain ⟨x, hx⟩ : ∃ x, l[k]? = some x := ⟨_, List.getElem?_eq_getElem (by omega)⟩
 have hmem : qZ lt x0 (l.take k) ∈ x0 :: l := bestOf_mem lt x0 l k
 have hnx := bestOf_take lt (out := x0) hx
 refine At.nrmB ?_
 refine At.jo (ι := Unit) (fun _ => [(1, .func (.func g) #[] cap.toArray), (4, .pointer (some ⟨b4, 0, none⟩)), (5, .pointer (some ⟨b5, 0, none⟩)), (12, .slice a12 l.length c12), (13, iv l.length), (14, iv k)]) (fun _ => [.blk b5 (LC (wye (qZ lt x0 (l.take (k + 1)))) 131), .blk b4 (LC [iv 0, iv 0, iv 0] 131)]) (fun _ V'' => V'' = V') ?_ ?_
 ·refine At.nrm ?_
  refine At.zi (.q 0 (.q 1 (.n false 2 (.n true 3 .done)))) ?_
  refine AtT.qi Tryz.underlying127 jc ?_
  intro p16 e16 he16 hc16
  obtain rfl : x = e16 := by have : l[k]? = some e16 := (by simpa using he16); rw [hx] at this; simpa using this
  first | refine AtT.zu jc ?_ | refine AtT.zC jc ?_ | refine AtT.zt jc ?_
  refine AtT.qw z131 ?_
  intro b7
  refine AtT.zW jc ?_
  refine AtT.done ?_
  refine At.nrm ?_
  refine At.zi (.q 0 (.q 1 (.q 2 (.n false 3 .done)))) ?_
  refine AtT.zf ?_
  first | refine AtT.zu jc ?_ | refine AtT.zC jc ?_ | refine AtT.zt jc ?_
  first | refine AtT.zu jc ?_ | refine AtT.zC jc ?_ | refine AtT.zt jc ?_
  refine AtT.kcallV rfl rfl rfl hok (hc x (qZ lt x0 (l.take k)) (List.mem_cons_of_mem _ (List.mem_of_getElem? hx)) hmem) ?_
  rintro _ rfl
  refine AtT.done ?_
  refine At.nrm ?_
  refine At.cond rfl (fun hb => ?_) (fun hb => ?_)
  ·rw [if_pos hb] at hnx
   refine At.nrm ?_
   refine At.zi (.q 0 (.n true 1 .done)) ?_
   first | refine AtT.zu jc ?_ | refine AtT.zC jc ?_ | refine AtT.zt jc ?_
   refine AtT.zW jc ?_
   refine AtT.done ?_
   refine At.nrm ?_
   refine At.qf () rfl ⟨rfl, rfl, rfl, rfl, rfl, rfl, trivial⟩ ?_
   rw [hnx]
   ·exact Pt.zI
  ·rw [if_neg (by rw [hb]; simp)] at hnx
   refine At.nrm ?_
   refine At.qf () rfl ⟨rfl, rfl, rfl, rfl, rfl, rfl, trivial⟩ ?_
   rw [hnx]
   ·exact Pt.zI
 rintro _ V3 ks' O' rfl hk hO hl3
 subst hk hO
 refine At.nrm ?_
 refine At.zi (.q 0 (.q 1 .done)) ?_
 first | refine AtT.qh ?_ | refine AtT.zT ?_
 refine AtT.zf ?_
 refine AtT.done ?_
 refine At.nrm ?_
 refine At.round (k + 1) ?_ ?_ ?_ ?_
 ·show l.length - (k + 1) < l.length - k; omega
 ·exact ⟨rfl, by omega⟩
 ·exact ⟨rfl, rfl, rfl, rfl, rfl, ivs (by omega), trivial⟩
 ·exact Pt.zI
theorem best_p (g : FuncId) (cap : List Value) (lt : Pc → Pc → Bool) (V : View) (vl : Value) (x0 : Pc) (l : List Pc) (hs : Sl V pce 4 vl (x0 :: l)) (hok : zM Tryz.prog g)
  (hc : ∀ x y, x ∈ x0 :: l → y ∈ x0 :: l → Fnc Tryz.prog g ([] ++ [pcv x, pcv y] ++ cap) V (fun v _ => v = .bool (lt x y))) :
  Fnc Tryz.prog 75 [vl, .func (.func g) #[] cap.toArray] V fun v _ => v = pcv (qZ lt x0 l) := by
 have hlen := hs.jq
 simp only [List.length_cons] at hlen
 refine qc Tryz.func75 rfl Tryz.ntmps75 (Nat.le_of_ble_eq_true rfl) ?_
 intro w0 hw0
 refine At.nrm ?_
 refine At.zi (.n false 0 .done) ?_
 refine AtT.qw z26 ?_
 intro b4
 refine AtT.done ?_
 refine At.nrm ?_
 refine At.zi (.q 0 (.q 1 (.q 2 (.n false 3 (.n true 4 .done))))) ?_
 refine AtT.zf ?_
 have hpos : (0 : Int) < ((x0 :: l).length : Int) := by simp only [List.length_cons]; omega
 refine AtT.qi Tryz.underlying27 zQ ?_
 intro p9 e9 he9 hc9
 obtain rfl : x0 = e9 := by simpa using he9
 first | refine AtT.zu zQ ?_ | refine AtT.zC zQ ?_ | refine AtT.zt zQ ?_
 refine AtT.qw z26 ?_
 intro b5
 refine AtT.zW zQ ?_
 refine AtT.done ?_
 refine At.nrm ?_
 refine At.zi (.q 0 (.q 1 (.q 2 (.q 3 .done)))) ?_
 refine AtT.zf ?_
 have hpos1 : (1 : Int) ≤ ((x0 :: l).length : Int) := by simp only [List.length_cons]; omega
 refine AtT.ktail Tryz.underlying27 zQ ?_
 intro a12 c12 hs12
 first | refine AtT.zU Tryz.underlying27 ?_ | refine AtT.zV Tryz.underlying27 ?_
 refine AtT.zf ?_
 refine AtT.done ?_
 refine At.nrm ?_
 refine At.lp (ι := Nat) (KS := fun k => [(1, .func (.func g) #[] cap.toArray), (4, .pointer (some ⟨b4, 0, none⟩)), (5, .pointer (some ⟨b5, 0, none⟩)), (12, .slice a12 l.length c12), (13, iv l.length), (14, iv k)])
  (OS := fun k => [.blk b5 (LC (pce (qZ lt x0 (l.take k))) 26), .blk b4 (LC [iv 0, iv 0, iv 0, iv 0] 26)])
  (VS := fun k V' => V' = V ∧ k ≤ l.length) (μ := fun k => l.length - k) 0 ?_ ?_ ?_ ?_
 ·exact ⟨rfl, rfl, rfl, rfl, rfl, rfl, trivial⟩
 ·exact Pt.zI
 ·exact ⟨rfl, Nat.zero_le _⟩
 rintro k V' ks' O' ⟨rfl, hkl⟩ hk hO hl
 subst hk hO
 have hs' : Sl V' pce 4 (.slice a12 l.length c12) l := hs12
 refine At.nrm ?_
 refine At.zi (.q 0 .done) ?_
 refine AtT.zY ?_
 refine AtT.done ?_
 refine At.nrm ?_
 refine At.zX rfl (fun hp => ?_) (fun hp => ?_)
 rotate_left
 ·obtain rfl : k = l.length := by omega
  rw [List.take_length]
  refine At.nrm ?_
  refine At.zi (.q 0 (.n true 1 .done)) ?_
  first | refine AtT.zu zQ ?_ | refine AtT.zC zQ ?_ | refine AtT.zt zQ ?_
  refine AtT.zW zQ ?_
  refine AtT.done ?_
  refine At.nrm ?_
  exact At.qd rfl (.agg rfl zQ zZ.zI rfl) rfl
 obtain ⟨x, hx⟩ : ∃ x, l[k]? = some x := ⟨_, List.getElem?_eq_getElem (by omega)⟩
 have hmem : qZ lt x0 (l.take k) ∈ x0 :: l := bestOf_mem lt x0 l k
 have hnx := bestOf_take lt (out := x0) hx
 refine At.nrmB ?_
 refine At.jo (ι := Unit) (fun _ => [(1, .func (.func g) #[] cap.toArray), (4, .pointer (some ⟨b4, 0, none⟩)), (5, .pointer (some ⟨b5, 0, none⟩)), (12, .slice a12 l.length c12), (13, iv l.length), (14, iv k)]) (fun _ => [.blk b5 (LC (pce (qZ lt x0 (l.take (k + 1)))) 26), .blk b4 (LC [iv 0, iv 0, iv 0, iv 0] 26)]) (fun _ V'' => V'' = V') ?_ ?_
 ·refine At.nrm ?_
  refine At.zi (.q 0 (.q 1 (.n false 2 (.n true 3 .done)))) ?_
  refine AtT.qi Tryz.underlying27 zQ ?_
  intro p16 e16 he16 hc16
  obtain rfl : x = e16 := by have : l[k]? = some e16 := (by simpa using he16); rw [hx] at this; simpa using this
  first | refine AtT.zu zQ ?_ | refine AtT.zC zQ ?_ | refine AtT.zt zQ ?_
  refine AtT.qw z26 ?_
  intro b7
  refine AtT.zW zQ ?_
  refine AtT.done ?_
  refine At.nrm ?_
  refine At.zi (.q 0 (.q 1 (.q 2 (.n false 3 .done)))) ?_
  refine AtT.zf ?_
  first | refine AtT.zu zQ ?_ | refine AtT.zC zQ ?_ | refine AtT.zt zQ ?_
  first | refine AtT.zu zQ ?_ | refine AtT.zC zQ ?_ | refine AtT.zt zQ ?_
  refine AtT.kcallV rfl rfl rfl hok (hc x (qZ lt x0 (l.take k)) (List.mem_cons_of_mem _ (List.mem_of_getElem? hx)) hmem) ?_
  rintro _ rfl
  refine AtT.done ?_
  refine At.nrm ?_
  refine At.cond rfl (fun hb => ?_) (fun hb => ?_)
  ·rw [if_pos hb] at hnx
   refine At.nrm ?_
   refine At.zi (.q 0 (.n true 1 .done)) ?_
   first | refine AtT.zu zQ ?_ | refine AtT.zC zQ ?_ | refine AtT.zt zQ ?_
   refine AtT.zW zQ ?_
   refine AtT.done ?_
   refine At.nrm ?_
   refine At.qf () rfl ⟨rfl, rfl, rfl, rfl, rfl, rfl, trivial⟩ ?_
   rw [hnx]
   ·exact Pt.zI
  ·rw [if_neg (by rw [hb]; simp)] at hnx
   refine At.nrm ?_
   refine At.qf () rfl ⟨rfl, rfl, rfl, rfl, rfl, rfl, trivial⟩ ?_
   rw [hnx]
   ·exact Pt.zI
 rintro _ V3 ks' O' rfl hk hO hl3
 subst hk hO
 refine At.nrm ?_
 refine At.zi (.q 0 (.q 1 .done)) ?_
 first | refine AtT.qh ?_ | refine AtT.zT ?_
 refine AtT.zf ?_
 refine AtT.done ?_
 refine At.nrm ?_
 refine At.round (k + 1) ?_ ?_ ?_ ?_
 ·show l.length - (k + 1) < l.length - k; omega
 ·exact ⟨rfl, by omega⟩
 ·exact ⟨rfl, rfl, rfl, rfl, rfl, ivs (by omega), trivial⟩
 ·exact Pt.zI
theorem fewer_f (x y : Wy) (V : View) : Fnc Tryz.prog 92 ([] ++ [wyv x, wyv y] ++ []) V fun r _ => r = .bool (fwB x y) := by
 refine qc Tryz.func92 rfl Tryz.ntmps92 (Nat.le_of_ble_eq_true rfl) ?_
 intro w0 hw0
 refine At.nrm ?_
 refine At.zi (.n false 0 (.n false 1 (.q 2 .done))) ?_
 refine AtT.qV ?_
 intro b2
 refine AtT.qV ?_
 intro b3
 refine AtT.zh ?_
 refine AtT.done ?_
 refine At.nrm ?_
 by_cases k1 : x.m < y.m
 ·refine At.zi (.q 0 (.q 1 (.q 2 (.q 3 (.q 4 (.q 5 (.q 6 (.q 7 (.q 8 (.q 9 (.q 10 (.q 11 (.q 12 (.q 13 (.q 14 (.q 15 (.q 16 (.q 17 (.q 18 (.q 19 .done)))))))))))))))))))) ?_
  first | refine AtT.zk qm ?_ | with_reducible refine AtT.zl qm ?_ | refine AtT.zn qm ?_
  first | refine AtT.zm tk3 ?_ | refine AtT.zo tk3 ?_
  first | refine AtT.zk qm ?_ | with_reducible refine AtT.zl qm ?_ | refine AtT.zn qm ?_
  first | refine AtT.zm tk3 ?_ | refine AtT.zo tk3 ?_
  refine AtT.zY ?_
  refine AtT.qp (d := 9) rfl (k1) ?_
  refine AtT.zf ?_
  all_goals (first | refine AtT.kL 10 ?_ | refine AtT.zA (d := 10) rfl (fun hg10 => ?_) (fun hg10 => ?_) | refine AtT.zz (d := 10) rfl (fun hg10 => ?_) (fun hg10 => ?_))
  all_goals first|refine AtT.zg ?_|refine AtT.ze ?_|(first | refine AtT.zk qm ?_ | with_reducible refine AtT.zl qm ?_ | refine AtT.zn qm ?_)
  all_goals first|refine AtT.zg ?_|refine AtT.ze ?_|(first | refine AtT.zm tk3 ?_ | refine AtT.zo tk3 ?_)
  all_goals first|refine AtT.zg ?_|refine AtT.ze ?_|(first | refine AtT.zk qm ?_ | with_reducible refine AtT.zl qm ?_ | refine AtT.zn qm ?_)
  all_goals first|refine AtT.zg ?_|refine AtT.ze ?_|(first | refine AtT.zm tk3 ?_ | refine AtT.zo tk3 ?_)
  all_goals first|refine AtT.zg ?_|refine AtT.ze ?_|(refine AtT.qK ?_)
  all_goals first|refine AtT.zg ?_|refine AtT.ze ?_|(refine AtT.zf ?_)
  all_goals (first | refine AtT.kL 16 ?_ | refine AtT.zA (d := 16) rfl (fun hg16 => ?_) (fun hg16 => ?_) | refine AtT.zz (d := 16) rfl (fun hg16 => ?_) (fun hg16 => ?_))
  all_goals first|refine AtT.zg ?_|refine AtT.ze ?_|(first | refine AtT.zk je ?_ | with_reducible refine AtT.zl je ?_ | refine AtT.zn je ?_)
  all_goals first|refine AtT.zg ?_|refine AtT.ze ?_|(first | refine AtT.zm tk3 ?_ | refine AtT.zo tk3 ?_)
  all_goals first|refine AtT.zg ?_|refine AtT.ze ?_|(first | refine AtT.zk je ?_ | with_reducible refine AtT.zl je ?_ | refine AtT.zn je ?_)
  all_goals first|refine AtT.zg ?_|refine AtT.ze ?_|(first | refine AtT.zm tk3 ?_ | refine AtT.zo tk3 ?_)
  all_goals first|refine AtT.zg ?_|refine AtT.ze ?_|(refine AtT.zY ?_)
  all_goals first|refine AtT.zg ?_|refine AtT.ze ?_|(refine AtT.zy ?_)
  all_goals (refine AtT.zy ?_)
  all_goals (refine AtT.zh ?_)
  all_goals refine AtT.done ?_
  all_goals (refine At.nrm ?_)
  exact At.qd rfl (.tmp rfl) (by unfold fwB; rw [decide_eq_true (.inl k1)]; rfl)
 by_cases k2 : x.m = y.m
 ·have e : fwB x y = decide (x.c < y.c) := by unfold fwB; simp [k2]
  rw [e]
  refine At.zi (.q 0 (.q 1 (.q 2 (.q 3 (.q 4 (.q 5 (.q 6 (.q 7 (.q 8 (.q 9 (.q 10 (.q 11 (.q 12 (.q 13 (.q 14 (.q 15 (.q 16 (.q 17 (.q 18 (.q 19 .done)))))))))))))))))))) ?_
  first | refine AtT.zk qm ?_ | with_reducible refine AtT.zl qm ?_ | refine AtT.zn qm ?_
  first | refine AtT.zm tk3 ?_ | refine AtT.zo tk3 ?_
  first | refine AtT.zk qm ?_ | with_reducible refine AtT.zl qm ?_ | refine AtT.zn qm ?_
  first | refine AtT.zm tk3 ?_ | refine AtT.zo tk3 ?_
  refine AtT.zY ?_
  refine AtT.qj (d := 9) rfl (k1) ?_
  refine AtT.zf ?_
  all_goals (first | refine AtT.kL 10 ?_ | refine AtT.zA (d := 10) rfl (fun hg10 => ?_) (fun hg10 => ?_) | refine AtT.zz (d := 10) rfl (fun hg10 => ?_) (fun hg10 => ?_))
  all_goals first|refine AtT.zg ?_|refine AtT.ze ?_|(first | refine AtT.zk qm ?_ | with_reducible refine AtT.zl qm ?_ | refine AtT.zn qm ?_)
  all_goals first|refine AtT.zg ?_|refine AtT.ze ?_|(first | refine AtT.zm tk3 ?_ | refine AtT.zo tk3 ?_)
  all_goals first|refine AtT.zg ?_|refine AtT.ze ?_|(first | refine AtT.zk qm ?_ | with_reducible refine AtT.zl qm ?_ | refine AtT.zn qm ?_)
  all_goals first|refine AtT.zg ?_|refine AtT.ze ?_|(first | refine AtT.zm tk3 ?_ | refine AtT.zo tk3 ?_)
  all_goals first|refine AtT.zg ?_|refine AtT.ze ?_|(refine AtT.qK ?_)
  all_goals (refine AtT.qp (d := 15) rfl (k2) ?_)
  all_goals first|refine AtT.zg ?_|refine AtT.ze ?_|(refine AtT.zf ?_)
  all_goals (first | refine AtT.kL 16 ?_ | refine AtT.zA (d := 16) rfl (fun hg16 => ?_) (fun hg16 => ?_) | refine AtT.zz (d := 16) rfl (fun hg16 => ?_) (fun hg16 => ?_))
  all_goals first|refine AtT.zg ?_|refine AtT.ze ?_|(first | refine AtT.zk je ?_ | with_reducible refine AtT.zl je ?_ | refine AtT.zn je ?_)
  all_goals first|refine AtT.zg ?_|refine AtT.ze ?_|(first | refine AtT.zm tk3 ?_ | refine AtT.zo tk3 ?_)
  all_goals first|refine AtT.zg ?_|refine AtT.ze ?_|(first | refine AtT.zk je ?_ | with_reducible refine AtT.zl je ?_ | refine AtT.zn je ?_)
  all_goals first|refine AtT.zg ?_|refine AtT.ze ?_|(first | refine AtT.zm tk3 ?_ | refine AtT.zo tk3 ?_)
  all_goals first|refine AtT.zg ?_|refine AtT.ze ?_|(refine AtT.zY ?_)
  all_goals first|refine AtT.zg ?_|refine AtT.ze ?_|(refine AtT.zy ?_)
  all_goals (refine AtT.zy ?_)
  all_goals (refine AtT.zh ?_)
  all_goals refine AtT.done ?_
  all_goals (refine At.nrm ?_)
  exact At.qd rfl (.tmp rfl) rfl
 ·refine At.zi (.q 0 (.q 1 (.q 2 (.q 3 (.q 4 (.q 5 (.q 6 (.q 7 (.q 8 (.q 9 (.q 10 (.q 11 (.q 12 (.q 13 (.q 14 (.q 15 (.q 16 (.q 17 (.q 18 (.q 19 .done)))))))))))))))))))) ?_
  first | refine AtT.zk qm ?_ | with_reducible refine AtT.zl qm ?_ | refine AtT.zn qm ?_
  first | refine AtT.zm tk3 ?_ | refine AtT.zo tk3 ?_
  first | refine AtT.zk qm ?_ | with_reducible refine AtT.zl qm ?_ | refine AtT.zn qm ?_
  first | refine AtT.zm tk3 ?_ | refine AtT.zo tk3 ?_
  refine AtT.zY ?_
  refine AtT.qj (d := 9) rfl (k1) ?_
  refine AtT.zf ?_
  all_goals (first | refine AtT.kL 10 ?_ | refine AtT.zA (d := 10) rfl (fun hg10 => ?_) (fun hg10 => ?_) | refine AtT.zz (d := 10) rfl (fun hg10 => ?_) (fun hg10 => ?_))
  all_goals first|refine AtT.zg ?_|refine AtT.ze ?_|(first | refine AtT.zk qm ?_ | with_reducible refine AtT.zl qm ?_ | refine AtT.zn qm ?_)
  all_goals first|refine AtT.zg ?_|refine AtT.ze ?_|(first | refine AtT.zm tk3 ?_ | refine AtT.zo tk3 ?_)
  all_goals first|refine AtT.zg ?_|refine AtT.ze ?_|(first | refine AtT.zk qm ?_ | with_reducible refine AtT.zl qm ?_ | refine AtT.zn qm ?_)
  all_goals first|refine AtT.zg ?_|refine AtT.ze ?_|(first | refine AtT.zm tk3 ?_ | refine AtT.zo tk3 ?_)
  all_goals first|refine AtT.zg ?_|refine AtT.ze ?_|(refine AtT.qK ?_)
  all_goals (refine AtT.qj (d := 15) rfl (k2) ?_)
  all_goals first|refine AtT.zg ?_|refine AtT.ze ?_|(refine AtT.zf ?_)
  all_goals (first | refine AtT.kL 16 ?_ | refine AtT.zA (d := 16) rfl (fun hg16 => ?_) (fun hg16 => ?_) | refine AtT.zz (d := 16) rfl (fun hg16 => ?_) (fun hg16 => ?_))
  all_goals first|refine AtT.zg ?_|refine AtT.ze ?_|(first | refine AtT.zk je ?_ | with_reducible refine AtT.zl je ?_ | refine AtT.zn je ?_)
  all_goals first|refine AtT.zg ?_|refine AtT.ze ?_|(first | refine AtT.zm tk3 ?_ | refine AtT.zo tk3 ?_)
  all_goals first|refine AtT.zg ?_|refine AtT.ze ?_|(first | refine AtT.zk je ?_ | with_reducible refine AtT.zl je ?_ | refine AtT.zn je ?_)
  all_goals first|refine AtT.zg ?_|refine AtT.ze ?_|(first | refine AtT.zm tk3 ?_ | refine AtT.zo tk3 ?_)
  all_goals first|refine AtT.zg ?_|refine AtT.ze ?_|(refine AtT.zY ?_)
  all_goals first|refine AtT.zg ?_|refine AtT.ze ?_|(refine AtT.zy ?_)
  all_goals (refine AtT.zy ?_)
  all_goals (refine AtT.zh ?_)
  all_goals refine AtT.done ?_
  all_goals (refine At.nrm ?_)
  exact At.qd rfl (.tmp rfl) (by unfold fwB; rw [decide_eq_false (by omega)]; rfl)
end Go.Proofs.YtghomjjffllkeaaGreatDoor
set_option linter.unusedVariables false
namespace Go.Lw
theorem flat_part {α : Type} {enc : α → List Value} {s : Nat} (he : ∀ x, (enc x).length = s) : ∀ {l : List α} {i : Nat} {x : α}, l[i]? = some x → ((flat enc l).drop (i * s)).take s = enc x
 | y :: l, 0, x, h => by
  simp at h; subst h
  simp only [Nat.zero_mul, List.drop_zero, flat, List.flatMap_cons]
  rw [← he y, List.take_left]
 | y :: l, i + 1, x, h => by
  have ih := flat_part he (l := l) (i := i) (x := x) (by simpa using h)
  simp only [flat, List.flatMap_cons] at ih ⊢
  have e : (i + 1) * s = s + i * s := by rw [Nat.add_mul, Nat.one_mul, Nat.add_comm]
  rw [e, List.drop_append, he y, List.drop_eq_nil_of_le (by rw [he]; omega), List.nil_append, Nat.add_sub_cancel_left]
  exact ih
end Go.Lw
namespace Go.Pm
open Go.Gl Go.Lw
theorem fw_get {l : List Wy} {j : Nat} {w : Wy} (h : l[j]? = some w) : ((flat wye l).drop (j * 3)).take 3 = wye w := flat_part wye_len h
theorem fw_q {l : List Wy} {j : Nat} {w : Wy} (h : l[j]? = some w) : ((flat wye l).drop (j * 3 + 2)).take 1 = [iv w.q] := by
 have := fw_get h
 rw [← List.drop_drop]
 have e := congrArg (List.drop 2) this
 rw [List.drop_take] at e
 exact e
theorem fw_q1 {l : List Wy} {j : Nat} {w : Wy} (h : l[j]? = some w) : (flat wye l)[j * 3 + 2]? = some (iv w.q) := flat_at wye_len l j w h 2 _ rfl
theorem fw_set {l : List Wy} {j : Nat} (w : Wy) (h : j < l.length) : (flat wye l).take (j * 3) ++ wye w ++ (flat wye l).drop (j * 3 + (wye w).length) = flat wye (l.set j w) := flat_set wye_len l j w h
theorem fw_set2 {l : List Wy} {j : Nat} (w0 w : Wy) (h : j < l.length) : (flat wye (l.set j w0)).take (j * 3) ++ wye w ++ (flat wye (l.set j w0)).drop (j * 3 + (wye w).length) = flat wye (l.set j w) := by
 have := fw_set (l := l.set j w0) (j := j) w (by rw [List.length_set]; exact h)
 rwa [List.set_set] at this
theorem fw_m {l : List Wy} {j : Nat} {w : Wy} (x : Int) (h : l[j]? = some w) : SetAt (flat wye l) (j * 3 + 0) (iv x) (flat wye (l.set j ⟨x, w.c, w.q⟩)) := by
 have hj := (List.getElem?_eq_some_iff.1 h).1
 refine setAt_of (by rw [qX wye_len]; omega) ?_
 exact flat_set1 wye_len l j 0 w ⟨x, w.c, w.q⟩ (iv x) h (by decide) rfl
end Go.Pm
namespace Go.Proofs.YtghomjjffllkeaaGreatDoor
open Go.Lw Go.Gl Go.Pm Go.RowKit
theorem mend_f (s : Sh) (hok : jH s) (V : View) (b0 : Nat) (hb : BnV V b0 s) : Fnc Tryz.prog 63 [.pointer (some ⟨b0, 0, none⟩)] V fun r V' => ∃ ps : List Pc, Sl V' pce 4 r ps ∧ MnR (gdS s) (knL s) ps := by
 obtain ⟨a, c, ak, ck, hc0, hc1, hc2, hc3, hs, hsk⟩ := bn_get hb
 have hkn := hok.kn
 have hg := sh_gok hok
 have hon := kn_on hok
 have hfg := kn_fig hok
 have hp0 : 0 < 2 ^ (knL s).length := Nat.two_pow_pos _
 have hp10 : 2 ^ (knL s).length ≤ 1024 := Nat.pow_le_pow_right (n := 2) (by decide) hkn
 have hsn : ∀ k : Nat, 1 ≤ k → k < 2 ^ (knL s).length → sel (knL s) k ≠ [] := fun k h1 h2 => sel_ne (by omega) h2
 have hsb : ∀ k : Nat, ∀ x ∈ sel (knL s) k, 0 ≤ x.r ∧ x.r ≤ 99 ∧ 0 ≤ x.c ∧ x.c ≤ 99 := fun k x hx => kn_bd hok x (sel_in hx)
 refine qc Tryz.func63 rfl Tryz.ntmps63 (Nat.le_of_ble_eq_true rfl) ?_
 intro w0 hw0
 refine At.nrm ?_
 refine At.zi (.q 0 .done) ?_
 refine AtT.zh ?_
 refine AtT.done ?_
 refine At.nrm ?_
 refine At.zi (.q 0 (.n false 1 (.q 2 .done))) ?_
 refine AtT.zf ?_
 refine AtT.qg rfl rfl ok90 (under_f s hok _ b0 hb) ?_
 rintro _ V13 hV13 ⟨mb, rfl, hun⟩
 refine AtT.zh ?_
 refine AtT.done ?_
 refine At.nrm ?_
 have hc2a := hc2.le hV13
 refine At.zi (.q 0 (.q 1 (.q 2 (.q 3 (.q 4 (.q 5 (.n false 6 (.q 7 .done)))))))) ?_
 refine AtT.zf ?_
 refine AtT.knil ?_
 first | refine AtT.zk qG ?_ | with_reducible refine AtT.zl qG ?_ | refine AtT.zn qG ?_
 first | refine AtT.zm tk84 ?_ | refine AtT.zo tk84 ?_
 first | refine AtT.zU Tryz.underlying84 ?_ | refine AtT.zV Tryz.underlying84 ?_
 refine AtT.shlN rfl trivial rfl rfl rfl (by omega) (by decide) (N := (knL s).length) ?_
 refine AtT.makeSl rfl trivial wye rfl Tryz.underlying127 rw131 rfl rfl (by decide) rfl rfl (by omega) (by omega) (by decide) (za := (⟨0, 0, 0⟩ : Wy)) ?_
 intro b20
 refine AtT.zh ?_
 refine AtT.done ?_
 refine At.nrm ?_
 refine At.zi (.q 0 .done) ?_
 refine AtT.zh ?_
 refine AtT.done ?_
 refine At.nrm ?_
 refine At.lp (ι := Nat × List Wy) (KS := fun g => [(0, .pointer (some ⟨b0, 0, none⟩)), (3, .map (some mb)), (4, .slice (some ⟨b20, 0, none⟩) (2 ^ (knL s).length) (2 ^ (knL s).length)), (5, iv g.1)]) (OS := fun g => [.blk b20 (LC (flat wye g.2) 131)])
  (VS := fun g V' => Le V13 V' ∧ 1 ≤ g.1 ∧ g.1 ≤ 2 ^ (knL s).length ∧ DpW (gdS s) (knL s) g.2 g.1) (μ := fun g => 2 ^ (knL s).length - g.1) (1, List.replicate (2 ^ (knL s).length) ⟨0, 0, 0⟩) ?_ ?_ ?_ ?_
 ·exact ⟨rfl, rfl, rfl, rfl, trivial⟩
 ·exact Pt.zI
 ·exact ⟨Le.refl _, Nat.le_refl _, hp0, dw_start⟩
 rintro ⟨b, L⟩ V' ks' O' ⟨hVV, hb1, hbl, hdp⟩ hk hO hl2
 dsimp only at hb1 hbl hdp hk hO
 subst hk hO
 have hb' := (hb.le hV13).le hVV
 have hc2b := hc2a.le hVV
 have hun' := hun.le hVV
 refine At.nrm ?_
 refine At.zi (.q 0 (.q 1 (.q 2 (.q 3 .done)))) ?_
 refine AtT.zf ?_
 refine AtT.zf ?_
 first | refine AtT.zU Tryz.underlying127 ?_ | refine AtT.zV Tryz.underlying127 ?_
 refine AtT.zY ?_
 refine AtT.done ?_
 refine At.nrm ?_
 refine At.zX rfl (fun hp => ?_) (fun hp => ?_)
 rotate_left
 ·obtain rfl : b = 2 ^ (knL s).length := by omega
  obtain ⟨n, cs, hB, htr0⟩ := tr_start hkn hdp
  have hlL := hdp.len
  have hm1 : ((2 ^ (knL s).length : Nat) : Int) - 1 = ((2 ^ (knL s).length - 1 : Nat) : Int) := by omega
  refine At.nrm ?_
  refine At.zi (.q 0 .done) ?_
  refine AtT.zh ?_
  refine AtT.done ?_
  refine At.nrm ?_
  refine At.zi (.q 0 (.q 1 (.q 2 (.q 3 .done)))) ?_
  refine AtT.zf ?_
  first | refine AtT.zU Tryz.underlying127 ?_ | refine AtT.zV Tryz.underlying127 ?_
  first | refine AtT.qz ?_ | refine AtT.qA ?_
  rw [hm1]
  refine AtT.zh ?_
  refine AtT.done ?_
  refine At.nrm ?_
  refine At.newRow 26 4 ?_
  refine At.lp (ι := Nat × List Pc × Option Addr × Nat) (KS := fun g => [(0, .pointer (some ⟨b0, 0, none⟩)), (4, .slice (some ⟨b20, 0, none⟩) (2 ^ (knL s).length) (2 ^ (knL s).length)), (10, .slice g.2.2.1 g.2.1.length g.2.2.2), (11, iv g.1)])
   (OS := fun g => [.blk b20 (LC (flat wye L) 131), .row (.slice g.2.2.1 g.2.1.length g.2.2.2) 26 4 g.2.1.length (flat pce g.2.1)])
   (VS := fun g V'' => Le V' V'' ∧ g.1 < 2 ^ (knL s).length ∧ g.1 + g.2.1.length < 2 ^ (knL s).length ∧ TrW (gdS s) (knL s) L n cs g.1 g.2.1) (μ := fun g => g.1) (2 ^ (knL s).length - 1, [], none, 0) ?_ ?_ ?_ ?_
  ·exact ⟨rfl, rfl, rfl, rfl, trivial⟩
  ·exact Pt.zI
  ·exact ⟨Le.refl _, by dsimp only; omega, by dsimp only; simp only [List.length_nil]; omega, htr0⟩
  rintro ⟨r, ps, ap, cp⟩ V2 ks' O' ⟨hV2, hrl, hrp, htr⟩ hk hO hl3
  dsimp only at hrl hrp htr hk hO
  subst hk hO
  have hb2 := hb'.le hV2
  refine At.nrm ?_
  refine At.zi (.q 0 (.q 1 .done)) ?_
  refine AtT.zf ?_
  refine AtT.qy ?_
  refine AtT.done ?_
  refine At.nrm ?_
  refine At.zX rfl (fun hp3 => ?_) (fun hp3 => ?_)
  rotate_left
  ·obtain rfl : r = 0 := by omega
   refine At.nrm ?_
   refine At.zi (.q 0 (.q 1 .done)) ?_
   refine AtT.zf ?_
   refine AtT.zh ?_
   refine AtT.done ?_
   refine At.nrm ?_
   refine At.giveSl (l := ps) pce_len rfl rfl zZ.zI (fun V4 hV4 hs4 => ?_)
   exact At.qd rfl (.tmp rfl) ⟨ps, hs4, tr_done hdp hB htr⟩
  obtain ⟨w, hw1, hw2, hw3, hw4, htr2⟩ := tr_step hkn hdp htr (by omega) hrl
  have hu := fw_q hw1
  have hu1 := fw_q1 hw1
  refine At.nrm ?_
  refine At.zi (.q 0 (.q 1 (.q 2 (.q 3 (.q 4 (.q 5 (.q 6 (.n false 7 (.n false 8 (.n true 9 (.q 10 .done))))))))))) ?_
  refine AtT.zf ?_
  refine AtT.zf ?_
  refine AtT.zf ?_
  refine AtT.zf ?_
  refine AtT.idxZ rfl trivial Tryz.underlying127 jc rfl rfl (by omega) (by decide) ?_
  first | refine AtT.zk fo131_2 ?_ | with_reducible refine AtT.zl fo131_2 ?_ | refine AtT.zn fo131_2 ?_
  refine AtT.loadOP rfl trivial rfl tk129 zZ.zI hu rfl (by decide) ?_
  refine AtT.zq rfl rfl ok93 (least_f s hok hkn w.q (by omega) (hsn w.q (by omega) (by omega)) _ b0 hb2) ?_
  rintro _ rfl
  refine AtT.zB (bs27_1_0 _ _ _ _) ?_
  intro q108 V108 hV108 hq108
  have g108 : Le V V108 := by first | exact hV108 | exact Le.trans (by assumption) hV108
  first | refine AtT.jC Tryz.underlying27 rw26 ?_
  intro a109 c109
  refine AtT.zh ?_
  refine AtT.done ?_
  refine At.nrm ?_
  refine At.nrm ?_
  refine At.zi (.q 0 (.q 1 (.q 2 (.q 3 (.q 4 (.q 5 (.q 6 (.q 7 (.q 8 .done))))))))) ?_
  refine AtT.zf ?_
  refine AtT.zf ?_
  refine AtT.zf ?_
  refine AtT.idxZ rfl trivial Tryz.underlying127 jc rfl rfl (by omega) (by decide) ?_
  first | refine AtT.zk fo131_2 ?_ | with_reducible refine AtT.zl fo131_2 ?_ | refine AtT.zn fo131_2 ?_
  first | refine AtT.zk fo129_0 ?_ | with_reducible refine AtT.zl fo129_0 ?_ | refine AtT.zn fo129_0 ?_
  refine AtT.loadO rfl trivial rfl tk3 zZ.zI hu1 (by decide) ?_
  refine AtT.clrN rfl trivial rfl rfl rfl rfl (by omega) (by omega) (by decide) (A := r) (B := w.q) ?_
  refine AtT.zh ?_
  refine AtT.done ?_
  refine At.nrm ?_
  have hpl : (ps ++ [bbx (sel (knL s) w.q)]).length = ps.length + 1 := by rw [List.length_append]; rfl
  refine At.round (qF r w.q, ps ++ [bbx (sel (knL s) w.q)], a109, c109) ?_ ?_ ?_ ?_
  ·exact hw4
  ·exact ⟨hV2.trans (by first | assumption | exact Le.trans (by assumption) (by assumption)), by dsimp only; omega, by dsimp only; omega, htr2⟩
  ·dsimp only; rw [hpl]; exact ⟨rfl, rfl, rfl, rfl, trivial⟩
  dsimp only
  rw [hpl, jm]
  ·exact Pt.zI
 obtain ⟨i, hi1, hi2⟩ := low_at (b := b) (by omega)
 have hW : ∀ r, r < b → jA (gdS s) (sel (knL s) r) (wW L r).1 (wW L r).2 := fun r hr => (dw_w hdp hr (by omega)).2
 have hlL := hdp.len
 have hL0 := hdp.rest b (Nat.le_refl _) (by omega)
 have hst0 := fw_m ((knL s).length + 1) hL0
 refine At.nrm ?_
 refine At.zi (.q 0 (.q 1 (.q 2 (.q 3 (.q 4 (.q 5 (.q 6 (.q 7 (.q 8 (.q 9 (.n true 10 .done))))))))))) ?_
 refine AtT.zf ?_
 refine AtT.zf ?_
 refine AtT.zf ?_
 refine AtT.knil ?_
 first | refine AtT.zk qG ?_ | with_reducible refine AtT.zl qG ?_ | refine AtT.zn qG ?_
 first | refine AtT.zm tk84 ?_ | refine AtT.zo tk84 ?_
 first | refine AtT.zU Tryz.underlying84 ?_ | refine AtT.zV Tryz.underlying84 ?_
 first | refine AtT.qh ?_ | refine AtT.zT ?_
 refine AtT.idxZ rfl trivial Tryz.underlying127 jc rfl rfl (by omega) (by decide) ?_
 first | refine AtT.zk qm ?_ | with_reducible refine AtT.zl qm ?_ | refine AtT.zn qm ?_
 refine AtT.jk tk3 ?_ (hs := hst0)
 refine AtT.done ?_
 refine At.nrm ?_
 refine At.nrm ?_
 refine At.zi (.q 0 (.q 1 .done)) ?_
 refine AtT.zf ?_
 refine AtT.zh ?_
 refine AtT.done ?_
 refine At.nrm ?_
 refine At.lp (ι := Nat × Wy) (KS := fun g => [(0, .pointer (some ⟨b0, 0, none⟩)), (3, .map (some mb)), (4, .slice (some ⟨b20, 0, none⟩) (2 ^ (knL s).length) (2 ^ (knL s).length)), (5, iv b), (6, iv g.1)])
  (OS := fun g => [.blk b20 (LC (flat wye (L.set b g.2)) 131)])
  (VS := fun g V'' => Le V' V'' ∧ SubB g.1 b ∧ InI (gdS s) (knL s) b i (wW L) ((knL s).length + 1) g.1 g.2.m g.2.c g.2.q) (μ := fun g => g.1) (b, ⟨(knL s).length + 1, 0, 0⟩) ?_ ?_ ?_ ?_
 ·exact ⟨rfl, rfl, rfl, rfl, rfl, trivial⟩
 ·exact Pt.zI
 ·exact ⟨Le.refl _, fun j hj => hj, in_start⟩
 rintro ⟨part, w0⟩ V2 ks' O' ⟨hV2, hsub, hin⟩ hk hO hl4
 dsimp only at hsub hin hk hO
 subst hk hO
 have hb2 := hb'.le hV2
 obtain ⟨M, mc, hM, hMv, hMh⟩ := (hun'.le hV2).ex
 have hple := sub_le hsub
 refine At.nrm ?_
 refine At.zi (.q 0 (.q 1 .done)) ?_
 refine AtT.zf ?_
 refine AtT.qy ?_
 refine AtT.done ?_
 refine At.nrm ?_
 refine At.zX rfl (fun hp2 => ?_) (fun hp2 => ?_)
 rotate_left
 ·obtain rfl : part = 0 := by omega
  obtain ⟨hC, n, hn, hB, e1, e2⟩ := in_end hg hon hfg hkn (by omega) hi1 hW (by omega) hin
  have hds := dw_step hdp (by omega) (by omega) hB hC e1 e2
  rw [show (⟨(n : Int), w0.c, w0.q⟩ : Wy) = w0 by rw [← hn]] at hds
  refine At.nrm ?_
  refine At.zi (.q 0 (.q 1 (.q 2 .done))) ?_
  refine AtT.zf ?_
  first | refine AtT.qh ?_ | refine AtT.zT ?_
  refine AtT.zh ?_
  refine AtT.done ?_
  refine At.nrm ?_
  refine At.round (b + 1, L.set b w0) ?_ ?_ ?_ ?_
  ·show 2 ^ (knL s).length - (b + 1) < 2 ^ (knL s).length - b; omega
  ·exact ⟨hVV.trans hV2, by dsimp only; omega, by dsimp only; omega, hds⟩
  ·exact ⟨rfl, rfl, rfl, ivs (by dsimp only; omega), trivial⟩
  ·exact Pt.zI
 have hmh := hMh part (by omega) (by omega)
 refine At.nrmB ?_
 refine At.jo (ι := Wy) (fun _ => [(0, .pointer (some ⟨b0, 0, none⟩)), (3, .map (some mb)), (4, .slice (some ⟨b20, 0, none⟩) (2 ^ (knL s).length) (2 ^ (knL s).length)), (5, iv b), (6, iv part)])
  (fun g => [.blk b20 (LC (flat wye (L.set b g)) 131)])
  (fun g V'' => Le V2 V'' ∧ InI (gdS s) (knL s) b i (wW L) ((knL s).length + 1) ((part - 1) &&& b) g.m g.c g.q) ?_ ?_
 ·have hlb := low_and (p := part) (show b < 1024 by omega) hi1 hi2
  have hlow := lowB_le b (by omega)
  refine At.nrm ?_
  refine At.zi (.q 0 (.q 1 (.q 2 (.q 3 (.q 4 (.q 5 (.q 6 (.q 7 (.q 8 .done))))))))) ?_
  refine AtT.zf ?_
  refine AtT.zf ?_
  refine AtT.qU (bd129_0 _) ?_
  refine AtT.lookup2V rfl trivial key129 (part : Int) (0 : Int) Tryz.underlying125 z3 rfl rfl rfl hM (by decide) ?_
  refine AtT.zf ?_
  refine AtT.zO ?_
  refine AtT.zO ?_
  refine AtT.zh ?_
  refine AtT.zh ?_
  refine AtT.done ?_
  refine At.nrm ?_
  by_cases hpe : peE (gdS s) (bbx (sel (knL s) part)) = 0
  rotate_left
  ·have hms : mhas (part : Int) M = false := by rw [hmh]; exact decide_eq_false hpe
   refine At.nrm ?_
   refine At.zi (.q 0 (.q 1 (.q 2 (.q 3 (.q 4 (.q 5 (.q 6 (.q 7 (.q 8 (.q 9 (.q 10 .done))))))))))) ?_
   refine AtT.zf ?_
   refine AtT.jh ?_
   refine AtT.setB (d := 52) rfl ((show (!mhas (part : Int) M) = true by rw [hms]; rfl)) ?_
   refine AtT.zf ?_
   all_goals (first | refine AtT.kL 53 ?_ | refine AtT.zA (d := 53) rfl (fun hg53 => ?_) (fun hg53 => ?_) | refine AtT.zz (d := 53) rfl (fun hg53 => ?_) (fun hg53 => ?_))
   all_goals first|refine AtT.zg ?_|refine AtT.ze ?_|(refine AtT.zf ?_)
   all_goals first|refine AtT.zg ?_|refine AtT.ze ?_|(refine AtT.zf ?_)
   all_goals first|refine AtT.zg ?_|refine AtT.ze ?_|(refine AtT.zf ?_)
   all_goals first|refine AtT.zg ?_|refine AtT.ze ?_|(first | refine AtT.kneg ?_ | refine AtT.knegW ?_)
   all_goals first|refine AtT.zg ?_|refine AtT.ze ?_|(fail)
   all_goals first|refine AtT.zg ?_|refine AtT.ze ?_|(fail)
   all_goals first|refine AtT.zg ?_|refine AtT.ze ?_|(refine AtT.qK ?_)
   all_goals (refine AtT.zy ?_)
   all_goals refine AtT.done ?_
   all_goals (refine At.nrm ?_)
   refine At.qB rfl rfl ?_
   refine At.nrm ?_
   exact At.qf w0 ⟨Le.refl _, in_skip hin hsub fun h => hpe (jB.2 h.lies)⟩ ⟨rfl, rfl, rfl, rfl, rfl, trivial⟩ Pt.zI
  have hms : mhas (part : Int) M = true := by rw [hmh]; exact decide_eq_true hpe
  have hpl := jB.1 hpe
  cases hbit : part.testBit i with
  | false =>
   have hz := hlb.2 hbit
   refine At.nrm ?_
   refine At.zi (.q 0 (.q 1 (.q 2 (.q 3 (.q 4 (.q 5 (.q 6 (.q 7 (.q 8 (.q 9 (.q 10 .done))))))))))) ?_
   refine AtT.zf ?_
   refine AtT.jh ?_
   refine AtT.setB (d := 52) rfl ((show (!mhas (part : Int) M) = false by rw [hms]; rfl)) ?_
   refine AtT.zf ?_
   all_goals (first | refine AtT.kL 53 ?_ | refine AtT.zA (d := 53) rfl (fun hg53 => ?_) (fun hg53 => ?_) | refine AtT.zz (d := 53) rfl (fun hg53 => ?_) (fun hg53 => ?_))
   all_goals first|refine AtT.zg ?_|refine AtT.ze ?_|(refine AtT.zf ?_)
   all_goals first|refine AtT.zg ?_|refine AtT.ze ?_|(refine AtT.zf ?_)
   all_goals first|refine AtT.zg ?_|refine AtT.ze ?_|(refine AtT.zf ?_)
   all_goals first|refine AtT.zg ?_|refine AtT.ze ?_|(first | refine AtT.kneg ?_ | refine AtT.knegW ?_)
   all_goals first|refine AtT.zg ?_|refine AtT.ze ?_|(refine AtT.lowN rfl ⟨_, _, rfl, rfl, rfl⟩ rfl rfl rfl rfl (by omega) (by decide) (A := b) ?_)
   all_goals first|refine AtT.zg ?_|refine AtT.ze ?_|(refine AtT.andN rfl ⟨_, _, rfl, rfl, rfl⟩ rfl rfl rfl rfl (by omega) (by omega) (by decide) (A := part) (B := lowB b) ?_)
   all_goals first|refine AtT.zg ?_|refine AtT.ze ?_|(refine AtT.qK ?_)
   all_goals (refine AtT.qp (d := 60) rfl ((show ((part &&& lowB b : Nat) : Int) = 0 by rw [hz]; rfl)) ?_)
   all_goals (refine AtT.zy ?_)
   all_goals refine AtT.done ?_
   all_goals (refine At.nrm ?_)
   refine At.qB rfl rfl ?_
   refine At.nrm ?_
   exact At.qf w0 ⟨Le.refl _, in_skip hin hsub fun h => by have := h.low; rw [hbit] at this; cases this⟩ ⟨rfl, rfl, rfl, rfl, rfl, trivial⟩ Pt.zI
  | true =>
   have hz : ¬ ((part &&& lowB b : Nat) : Int) = 0 := fun h => by
    have := hlb.1 (by omega); rw [hbit] at this; cases this
   have hcand : Cand (gdS s) (knL s) b i part := ⟨hsub, hbit, hpl⟩
   have hrl := rest_lt (b := b) (p := part) (by omega) (by omega) hsub (by omega)
   obtain ⟨⟨qr, w1⟩, w3⟩ := dw_w hdp (r := qF b part) hrl (by omega)
   have hbd := best_bd hg (fun k hk => hon k (sel_in hk)) (fun k hk => hfg k (sel_in hk)) w3
   have hsl := sel_len (K := knL s) (qF b part)
   have hpm := hpl.most
   have hpp := ar_pos hpl
   have hgm := hg.most
   have hmg : mget (part : Int) (0 : Int) M = arP (bbx (sel (knL s) part)) := by
    rw [mget_fn (f := arK (knL s)) hMv ((mhas_iff _ _).1 hms)]
    unfold arK; rw [Int.toNat_natCast]
   obtain ⟨wr, hwr⟩ : ∃ wr : Wy, wr = ⟨((wW L (qF b part)).1 : Int), (wW L (qF b part)).2, qr⟩ := ⟨_, rfl⟩
   have hwm : wr.m = ((wW L (qF b part)).1 : Int) := by rw [hwr]
   have hwc : wr.c = (wW L (qF b part)).2 := by rw [hwr]
   have hLr : (L.set b w0)[qF b part]? = some wr := by rw [List.getElem?_set, if_neg (by omega), hwr]; exact w1
   have hLb : (L.set b w0)[b]? = some w0 := by rw [List.getElem?_set, if_pos rfl, if_pos (by omega)]
   have hu1 := fw_get hLr
   have hu2 := fw_get hLb
   obtain ⟨wn, hwn⟩ : ∃ wn : Wy, wn = ⟨((wW L (qF b part)).1 : Int) + 1, (wW L (qF b part)).2 + arP (bbx (sel (knL s) part)), part⟩ := ⟨_, rfl⟩
   have hfl : (flat wye (L.set b w0)).length = 2 ^ (knL s).length * 3 := by rw [qX wye_len, List.length_set, hlL]
   have hfit2 : Fit (wr.c + arP (bbx (sel (knL s) part))) := Fit.of (by omega) (by omega)
   refine At.nrm ?_
   refine At.zi (.q 0 (.q 1 (.q 2 (.q 3 (.q 4 (.q 5 (.q 6 (.q 7 (.q 8 (.q 9 (.q 10 .done))))))))))) ?_
   refine AtT.zf ?_
   refine AtT.jh ?_
   refine AtT.setB (d := 52) rfl ((show (!mhas (part : Int) M) = false by rw [hms]; rfl)) ?_
   refine AtT.zf ?_
   all_goals (first | refine AtT.kL 53 ?_ | refine AtT.zA (d := 53) rfl (fun hg53 => ?_) (fun hg53 => ?_) | refine AtT.zz (d := 53) rfl (fun hg53 => ?_) (fun hg53 => ?_))
   all_goals first|refine AtT.zg ?_|refine AtT.ze ?_|(refine AtT.zf ?_)
   all_goals first|refine AtT.zg ?_|refine AtT.ze ?_|(refine AtT.zf ?_)
   all_goals first|refine AtT.zg ?_|refine AtT.ze ?_|(refine AtT.zf ?_)
   all_goals first|refine AtT.zg ?_|refine AtT.ze ?_|(first | refine AtT.kneg ?_ | refine AtT.knegW ?_)
   all_goals first|refine AtT.zg ?_|refine AtT.ze ?_|(refine AtT.lowN rfl ⟨_, _, rfl, rfl, rfl⟩ rfl rfl rfl rfl (by omega) (by decide) (A := b) ?_)
   all_goals first|refine AtT.zg ?_|refine AtT.ze ?_|(refine AtT.andN rfl ⟨_, _, rfl, rfl, rfl⟩ rfl rfl rfl rfl (by omega) (by omega) (by decide) (A := part) (B := lowB b) ?_)
   all_goals first|refine AtT.zg ?_|refine AtT.ze ?_|(refine AtT.qK ?_)
   all_goals (refine AtT.qj (d := 60) rfl (hz) ?_)
   all_goals (refine AtT.zy ?_)
   all_goals refine AtT.done ?_
   all_goals (refine At.nrm ?_)
   refine At.qE rfl rfl ?_
   rw [hmg]
   refine At.nrm ?_
   refine At.zi (.q 0 (.q 1 (.q 2 (.q 3 (.q 4 (.q 5 (.n false 6 (.n true 7 .done)))))))) ?_
   refine AtT.zf ?_
   refine AtT.zf ?_
   refine AtT.zf ?_
   refine AtT.clrN rfl trivial rfl rfl rfl rfl (by omega) (by omega) (by decide) (A := b) (B := part) ?_
   refine AtT.idxZ rfl trivial Tryz.underlying127 jc rfl rfl (by omega) (by decide) ?_
   refine AtT.loadOP rfl trivial rfl jc zZ.zI hu1 rfl (by decide) ?_
   refine AtT.qw z131 ?_
   intro b9
   refine AtT.zW jc ?_
   refine AtT.done ?_
   refine At.nrm ?_
   have hst := fw_set2 (l := L) (j := b) w0 (if fwB wn w0 = true then wn else w0) (by omega)
   have hbst : qZ fwB w0 [wn] = if fwB wn w0 = true then wn else w0 := rfl
   rw [← hbst] at hst
   refine At.nrm ?_
   refine At.jo (ι := Unit) (fun _ => [(0, .pointer (some ⟨b0, 0, none⟩)), (3, .map (some mb)), (4, .slice (some ⟨b20, 0, none⟩) (2 ^ (knL s).length) (2 ^ (knL s).length)), (5, iv b), (6, iv part)]) (fun _ => [.blk b20 (LC (flat wye (L.set b (qZ fwB w0 [wn]))) 131)]) (fun _ V'' => Le V2 V'') ?_ ?_
   ·refine At.draw (.q 0 (.q 1 (.q 2 (.q 3 (.q 4 (.q 5 (.q 6 (.q 7 (.q 8 (.q 9 (.q 10 (.q 11 (.q 12 (.q 13 (.q 14 (.q 15 (.n false 16 (.n false 17 (.q 18 (.n true 19 .done)))))))))))))))))))) ffm (by kernel_rfl) ?_
    refine AtT.zf ?_
    refine AtT.zf ?_
    refine AtT.zf ?_
    refine AtT.zf ?_
    refine AtT.idxZ rfl trivial Tryz.underlying127 jc rfl rfl (by omega) (by decide) ?_
    refine AtT.loadOP rfl trivial rfl jc zZ.zI hu2 rfl (by decide) ?_
    first | refine AtT.zk qm ?_ | with_reducible refine AtT.zl qm ?_ | refine AtT.zn qm ?_
    first | refine AtT.zm tk3 ?_ | refine AtT.zo tk3 ?_
    first | refine AtT.qh ?_ | refine AtT.zT ?_
    first | refine AtT.zk je ?_ | with_reducible refine AtT.zl je ?_ | refine AtT.zn je ?_
    first | refine AtT.zm tk3 ?_ | refine AtT.zo tk3 ?_
    refine AtT.zf ?_
    first | refine AtT.qh ?_ | refine AtT.zT ?_
    refine AtT.zf ?_
    refine AtT.qU (bd129_0 _) ?_
    refine AtT.qU (bd131_0_1_2 _ _ _) ?_
    refine AtT.zB (bs127_2_0_1 _ _ _ _ _ _) ?_
    intro q84 V84 hV84 hq84
    have g84 : Le V V84 := by first | exact hV84 | exact Le.trans (by assumption) hV84
    refine AtT.qg rfl rfl ok91 (best_w 92 [] fwB _ _ w0 [wn] (Sl.of_cells (l := [w0, wn]) wye_len (by rw [hwn, ← hwm, ← hwc]; exact hq84) (Nat.le_refl _) (by unfold maxLen; omega)) ok92 (fun x y _ _ => fewer_f x y _)) ?_
    rintro _ V85 hV85 rfl
    refine AtT.idxZ rfl trivial Tryz.underlying127 jc rfl rfl (by omega) (by decide) ?_
    refine AtT.store rfl trivial rfl rfl jc rfl rfl (by rw [hfl]; simp only [List.length_cons, List.length_nil]; omega) rfl hst (by repeat first|exact Upd.here|apply Upd.there) ?_
    refine AtT.done ?_
    refine At.nrm ?_
    all_goals (exact At.qf () (by first | assumption | exact Le.trans (by assumption) (by assumption)) ⟨rfl, rfl, rfl, rfl, rfl, trivial⟩ Pt.zI)
   rintro _ V5 ks' O' hV5 hk hO hl6
   subst hk hO
   rw [hbst]
   cases hfw : fwB wn w0 with
   | true =>
    rw [if_pos rfl]
    have hcond := of_decide_eq_true hfw
    rw [hwn] at hcond
    have hnw := in_new hin hsub hcand hcond
    refine At.nrm ?_
    exact At.qf wn ⟨hV5, by rw [hwn]; exact hnw⟩ ⟨rfl, rfl, rfl, rfl, rfl, trivial⟩ Pt.zI
   | false =>
    rw [if_neg (by simp)]
    have hcond := of_decide_eq_false hfw
    rw [hwn] at hcond
    refine At.nrm ?_
    exact At.qf w0 ⟨hV5, in_keep hin hsub hcond⟩ ⟨rfl, rfl, rfl, rfl, rfl, trivial⟩ Pt.zI
 rintro w2 V3 ks' O' ⟨hV3, hin3⟩ hk hO hl5
 subst hk hO
 have hq1 : ((part - 1 : Nat) : Int) = (part : Int) - 1 := by omega
 have hand : (part - 1) &&& b ≤ part - 1 := Nat.and_le_left
 refine At.nrm ?_
 refine At.zi (.q 0 (.q 1 (.q 2 (.q 3 (.q 4 .done))))) ?_
 refine AtT.zf ?_
 first | refine AtT.qz ?_ | refine AtT.qA ?_
 refine AtT.zf ?_
 refine AtT.andN rfl trivial rfl rfl hq1.symm rfl (by omega) (by omega) (by decide) (A := part - 1) (B := b) ?_
 refine AtT.zh ?_
 refine AtT.done ?_
 refine At.nrm ?_
 refine At.round ((part - 1) &&& b, w2) ?_ ?_ ?_ ?_
 ·show (part - 1) &&& b < part; omega
 ·exact ⟨hV2.trans hV3, and_sub _ _, hin3⟩
 ·exact ⟨rfl, rfl, rfl, rfl, rfl, trivial⟩
 ·exact Pt.zI
end Go.Proofs.YtghomjjffllkeaaGreatDoor
set_option linter.unusedVariables false
namespace Go.Pm
open Go.Gl Go.Lw
def FwS (s : Sh) (n e : Int) : Prop := (chE s ≠ 0 ∧ n = 0 ∧ e = chE s) ∨ (chE s = 0 ∧ e = 0 ∧ ∃ (m : Nat) (c : Int), n = m ∧ jA (gdS s) (knL s) m c)
def CeS (s : Sh) (n e : Int) : Prop := (chE s ≠ 0 ∧ n = 0 ∧ e = chE s) ∨ (chE s = 0 ∧ e = 0 ∧ ∃ (m : Nat), jA (gdS s) (knL s) m n)
end Go.Pm
namespace Go.Proofs.YtghomjjffllkeaaGreatDoor
open Go.Lw Go.Gl Go.Pm Go.RowKit
def PtR (s : Sh) (r : Value) (V' : View) : Prop := ∃ (a : Option Addr) (c : Nat) (ps : List Pc) (e : Int), r = .tuple #[.slice a ps.length c, iv e] ∧ Sl V' pce 4 (.slice a ps.length c) ps ∧ ((chE s ≠ 0 ∧ e = chE s ∧ ps = []) ∨ (chE s = 0 ∧ e = 0 ∧ MnR (gdS s) (knL s) ps))
theorem patches_f (s : Sh) (V : View) (v : Value) (hv : ShV V v s) : Fnc Tryz.prog 27 [v] V (PtR s) := by
 obtain ⟨a, c, rfl, hs⟩ := id hv
 refine qc Tryz.func27 rfl Tryz.ntmps27 (Nat.le_of_ble_eq_true rfl) ?_
 intro w0 hw0
 refine At.nrm ?_
 refine At.zi (.n false 0 (.q 1 (.q 2 .done))) ?_
 refine AtT.qV ?_
 intro b1
 refine AtT.zh ?_
 refine AtT.zh ?_
 refine AtT.done ?_
 refine At.nrm ?_
 by_cases h0 : chE s = 0
 rotate_left
 ·refine At.zi (.q 0 (.n false 1 (.q 2 (.q 3 (.q 4 (.q 5 (.q 6 .done))))))) ?_
  first | refine AtT.zu zx ?_ | refine AtT.zC zx ?_ | refine AtT.zt zx ?_
  refine AtT.qg rfl rfl ok57 (open_bad s h0 _ _ hv) ?_
  rintro v10 V10 hV10 rfl
  refine AtT.zf ?_
  refine AtT.zO ?_
  refine AtT.zO ?_
  refine AtT.zh ?_
  refine AtT.zh ?_
  refine AtT.done ?_
  refine At.nrm ?_
  refine At.nrm ?_
  refine At.zi (.q 0 (.q 1 .done)) ?_
  refine AtT.zf ?_
  refine AtT.qC ?_
  refine AtT.done ?_
  refine At.nrm ?_
  refine At.qB rfl (decide_eq_true h0) ?_
  refine At.nrm ?_
  refine At.zi (.q 0 (.q 1 (.q 2 .done))) ?_
  refine AtT.zf ?_
  refine AtT.zh ?_
  refine AtT.zh ?_
  refine AtT.done ?_
  refine At.nrm ?_
  exact At.jb rfl (.tmp rfl) (.tmp rfl) ⟨none, 0, [], _, rfl, Sl.nil _ _ _, .inl ⟨h0, rfl, rfl⟩⟩
 have hok := jl h0
 have hkn := hok.kn
 refine At.zi (.q 0 (.n false 1 (.q 2 (.q 3 (.q 4 (.q 5 (.q 6 .done))))))) ?_
 first | refine AtT.zu zx ?_ | refine AtT.zC zx ?_ | refine AtT.zt zx ?_
 refine AtT.qg rfl rfl ok57 (open_ok s h0 _ _ hv) ?_
 rintro v10 V10 hV10 ⟨b, rfl, hb⟩
 refine AtT.zf ?_
 refine AtT.zO ?_
 refine AtT.zO ?_
 refine AtT.zh ?_
 refine AtT.zh ?_
 refine AtT.done ?_
 refine At.nrm ?_
 refine At.nrm ?_
 refine At.zi (.q 0 (.q 1 .done)) ?_
 refine AtT.zf ?_
 refine AtT.qC ?_
 refine AtT.done ?_
 refine At.nrm ?_
 refine At.qE rfl rfl ?_
 refine At.nrm ?_
 refine At.zi (.q 0 (.n false 1 (.q 2 .done))) ?_
 refine AtT.zf ?_
 refine AtT.qg rfl rfl ok63 (mend_f s hok _ b hb) ?_
 rintro v17 V17 hV17 ⟨ps, hs17, hm⟩
 refine AtT.zh ?_
 refine AtT.done ?_
 refine At.nrm ?_
 obtain ⟨a17, c17, rfl, q1, q2, _⟩ := id hs17
 clear q1 q2
 have hbl := best_le_len (sh_gok hok) (kn_on hok) (kn_fig hok) hm.best
 have hlen0 : (flat pce (List.replicate ps.length (⟨0, 0, 0, 0⟩ : Pc))).length = ps.length * 4 := by rw [qX pce_len]; simp
 refine At.zi (.q 0 (.q 1 (.n false 2 (.q 3 .done)))) ?_
 refine AtT.zf ?_
 first | refine AtT.zU Tryz.underlying27 ?_ | refine AtT.zV Tryz.underlying27 ?_
 refine AtT.makeSl rfl trivial pce rfl Tryz.underlying27 rw26 rfl rfl (by decide) rfl rfl (by omega) (by omega) (by decide) (za := (⟨0, 0, 0, 0⟩ : Pc)) ?_
 intro b20
 refine AtT.zh ?_
 refine AtT.done ?_
 refine At.nrm ?_
 refine At.zi (.q 0 (.q 1 (.n true 2 .done))) ?_
 refine AtT.zf ?_
 refine AtT.zf ?_
 refine AtT.copyO rfl trivial Tryz.underlying27 zQ rfl rfl hs17 pce_len (fun _ => rfl) hlen0 (by repeat first|exact Upd.here|apply Upd.there) (by decide) ?_
 refine AtT.done ?_
 refine At.nrm ?_
 refine At.zi (.q 0 (.q 1 (.q 2 .done))) ?_
 refine AtT.zf ?_
 refine AtT.zh ?_
 refine AtT.zh ?_
 refine AtT.done ?_
 refine At.nrm ?_
 refine At.giveB (b := b20) zZ.zI (fun V3 hV3 hb3 => ?_)
 exact At.jb rfl (.tmp rfl) (.tmp rfl) ⟨_, _, ps, 0, rfl, Sl.of_cells pce_len (qY hb3) (Nat.le_refl _) (by unfold maxLen; omega), .inr ⟨h0, rfl, hm⟩⟩
theorem fewest_f (s : Sh) (V : View) (v : Value) (hv : ShV V v s) : Fnc Tryz.prog 23 [v] V fun r _ => ∃ n e, r = .tuple #[iv n, iv e] ∧ FwS s n e := by
 obtain ⟨a, c, rfl, hs⟩ := id hv
 refine qc Tryz.func23 rfl Tryz.ntmps23 (Nat.le_of_ble_eq_true rfl) ?_
 intro w0 hw0
 refine At.nrm ?_
 refine At.zi (.n false 0 (.q 1 (.q 2 .done))) ?_
 refine AtT.qV ?_
 intro b1
 refine AtT.zh ?_
 refine AtT.zh ?_
 refine AtT.done ?_
 refine At.nrm ?_
 refine At.zi (.q 0 (.n false 1 (.q 2 (.q 3 (.q 4 (.q 5 (.q 6 .done))))))) ?_
 first | refine AtT.zu zx ?_ | refine AtT.zC zx ?_ | refine AtT.zt zx ?_
 refine AtT.qg rfl rfl ok27 (patches_f s _ _ hv) ?_
 rintro v8 V8 hV8 ⟨a8, c8, ps, e8, rfl, hs8, hr⟩
 refine AtT.zf ?_
 refine AtT.zO ?_
 refine AtT.zO ?_
 refine AtT.zh ?_
 refine AtT.zh ?_
 refine AtT.done ?_
 refine At.nrm ?_
 refine At.zi (.q 0 (.q 1 (.q 2 (.q 3 (.q 4 .done))))) ?_
 refine AtT.zf ?_
 first | refine AtT.zU Tryz.underlying27 ?_ | refine AtT.zV Tryz.underlying27 ?_
 refine AtT.zf ?_
 refine AtT.zh ?_
 refine AtT.zh ?_
 refine AtT.done ?_
 refine At.nrm ?_
 refine At.jb rfl (.tmp rfl) (.tmp rfl) ⟨_, _, rfl, ?_⟩
 rcases hr with ⟨h0, rfl, rfl⟩ | ⟨h0, rfl, hm⟩
 ·exact .inl ⟨h0, rfl, rfl⟩
 ·exact .inr ⟨h0, rfl, _, _, rfl, hm.best⟩
theorem rfewest_f (s : Sh) (V : View) (v : Value) (hv : ShV V v s) : Fnc Tryz.prog 24 [v] V fun r _ => ∃ n e, r = .tuple #[iv n, iv e] ∧ FwS s n e := by
 obtain ⟨a, c, rfl, hs⟩ := id hv
 refine qc Tryz.func24 rfl Tryz.ntmps24 (Nat.le_of_ble_eq_true rfl) ?_
 intro w0 hw0
 refine At.nrm ?_
 refine At.zi (.n false 0 (.q 1 (.q 2 .done))) ?_
 refine AtT.qV ?_
 intro b1
 refine AtT.zh ?_
 refine AtT.zh ?_
 refine AtT.done ?_
 refine At.nrm ?_
 refine At.zi (.q 0 (.n false 1 (.q 2 .done))) ?_
 first | refine AtT.zu zx ?_ | refine AtT.zC zx ?_ | refine AtT.zt zx ?_
 refine AtT.zq rfl rfl ok20 (qJ s _ _ hv) ?_
 rintro _ rfl
 refine AtT.qC ?_
 refine AtT.done ?_
 refine At.nrm ?_
 refine At.zX rfl (fun h0 => ?_) (fun h0 => ?_)
 ·refine At.nrm ?_
  refine At.zi (.q 0 (.n false 1 (.q 2 (.q 3 .done)))) ?_
  first | refine AtT.zu zx ?_ | refine AtT.zC zx ?_ | refine AtT.zt zx ?_
  refine AtT.zq rfl rfl ok20 (qJ s _ _ hv) ?_
  rintro _ rfl
  refine AtT.zh ?_
  refine AtT.zh ?_
  refine AtT.done ?_
  refine At.nrm ?_
  exact At.jb rfl (.tmp rfl) (.tmp rfl) ⟨_, _, rfl, .inl ⟨h0, rfl, rfl⟩⟩
 have h0' := Classical.not_not.1 h0
 refine At.nrm ?_
 refine At.zi (.q 0 (.n false 1 (.q 2 (.q 3 (.q 4 (.q 5 (.q 6 .done))))))) ?_
 first | refine AtT.zu zx ?_ | refine AtT.zC zx ?_ | refine AtT.zt zx ?_
 refine AtT.zq rfl rfl ok62 (fewestOf_f s (jl h0') _ _ hv) ?_
 rintro _ ⟨n, cs, rfl, hB⟩
 refine AtT.zf ?_
 refine AtT.zO ?_
 refine AtT.zO ?_
 refine AtT.zh ?_
 refine AtT.zh ?_
 refine AtT.done ?_
 refine At.nrm ?_
 refine At.zi (.q 0 (.q 1 (.q 2 .done))) ?_
 refine AtT.zf ?_
 refine AtT.zh ?_
 refine AtT.zh ?_
 refine AtT.done ?_
 refine At.nrm ?_
 exact At.jb rfl (.tmp rfl) (.tmp rfl) ⟨_, _, rfl, .inr ⟨h0', rfl, _, _, rfl, hB⟩⟩
theorem rcells_f (s : Sh) (V : View) (v : Value) (hv : ShV V v s) : Fnc Tryz.prog 26 [v] V fun r _ => ∃ n e, r = .tuple #[iv n, iv e] ∧ CeS s n e := by
 obtain ⟨a, c, rfl, hs⟩ := id hv
 refine qc Tryz.func26 rfl Tryz.ntmps26 (Nat.le_of_ble_eq_true rfl) ?_
 intro w0 hw0
 refine At.nrm ?_
 refine At.zi (.n false 0 (.q 1 (.q 2 .done))) ?_
 refine AtT.qV ?_
 intro b1
 refine AtT.zh ?_
 refine AtT.zh ?_
 refine AtT.done ?_
 refine At.nrm ?_
 refine At.zi (.q 0 (.n false 1 (.q 2 .done))) ?_
 first | refine AtT.zu zx ?_ | refine AtT.zC zx ?_ | refine AtT.zt zx ?_
 refine AtT.zq rfl rfl ok20 (qJ s _ _ hv) ?_
 rintro _ rfl
 refine AtT.qC ?_
 refine AtT.done ?_
 refine At.nrm ?_
 refine At.zX rfl (fun h0 => ?_) (fun h0 => ?_)
 ·refine At.nrm ?_
  refine At.zi (.q 0 (.n false 1 (.q 2 (.q 3 .done)))) ?_
  first | refine AtT.zu zx ?_ | refine AtT.zC zx ?_ | refine AtT.zt zx ?_
  refine AtT.zq rfl rfl ok20 (qJ s _ _ hv) ?_
  rintro _ rfl
  refine AtT.zh ?_
  refine AtT.zh ?_
  refine AtT.done ?_
  refine At.nrm ?_
  exact At.jb rfl (.tmp rfl) (.tmp rfl) ⟨_, _, rfl, .inl ⟨h0, rfl, rfl⟩⟩
 have h0' := Classical.not_not.1 h0
 refine At.nrm ?_
 refine At.zi (.q 0 (.n false 1 (.q 2 (.q 3 (.q 4 (.q 5 (.q 6 .done))))))) ?_
 first | refine AtT.zu zx ?_ | refine AtT.zC zx ?_ | refine AtT.zt zx ?_
 refine AtT.zq rfl rfl ok62 (fewestOf_f s (jl h0') _ _ hv) ?_
 rintro _ ⟨n, cs, rfl, hB⟩
 refine AtT.zf ?_
 refine AtT.zO ?_
 refine AtT.zO ?_
 refine AtT.zh ?_
 refine AtT.zh ?_
 refine AtT.done ?_
 refine At.nrm ?_
 refine At.zi (.q 0 (.q 1 (.q 2 .done))) ?_
 refine AtT.zf ?_
 refine AtT.zh ?_
 refine AtT.zh ?_
 refine AtT.done ?_
 refine At.nrm ?_
 exact At.jb rfl (.tmp rfl) (.tmp rfl) ⟨_, _, rfl, .inr ⟨h0', rfl, _, hB⟩⟩
theorem cells_f (s : Sh) (V : View) (v : Value) (hv : ShV V v s) : Fnc Tryz.prog 25 [v] V fun r _ => ∃ n e, r = .tuple #[iv n, iv e] ∧ CeS s n e := by
 obtain ⟨a, c, rfl, hs⟩ := id hv
 refine qc Tryz.func25 rfl Tryz.ntmps25 (Nat.le_of_ble_eq_true rfl) ?_
 intro w0 hw0
 refine At.nrm ?_
 refine At.zi (.n false 0 (.q 1 (.q 2 .done))) ?_
 refine AtT.qV ?_
 intro b1
 refine AtT.zh ?_
 refine AtT.zh ?_
 refine AtT.done ?_
 refine At.nrm ?_
 refine At.zi (.q 0 (.n false 1 (.q 2 (.q 3 (.q 4 (.q 5 (.q 6 .done))))))) ?_
 first | refine AtT.zu zx ?_ | refine AtT.zC zx ?_ | refine AtT.zt zx ?_
 refine AtT.qg rfl rfl ok27 (patches_f s _ _ hv) ?_
 rintro v11 V11 hV11 ⟨a11, c11, ps, e11, rfl, hs11, hr⟩
 refine AtT.zf ?_
 refine AtT.zO ?_
 refine AtT.zO ?_
 refine AtT.zh ?_
 refine AtT.zh ?_
 refine AtT.done ?_
 refine At.nrm ?_
 have hbd : (∀ p ∈ ps, 1 ≤ p.h ∧ p.h ≤ 6 ∧ 1 ≤ p.w ∧ p.w ≤ 6) ∧ ps.length ≤ 10 := by
  rcases hr with ⟨h0, rfl, rfl⟩ | ⟨h0, rfl, hm⟩
  ·exact ⟨fun p hp => (by cases hp), by simp⟩
  ·have hok := jl h0
   have hbl := best_le_len (sh_gok hok) (kn_on hok) (kn_fig hok) hm.best
   have hkn := hok.kn
   refine ⟨fun p hp => ?_, by omega⟩
   have hl := hm.mends.lies p hp
   have h1 := hl.h
   have h2 := hl.w
   have hn := hok.n
   have hw := hok.w
   have hR : (gdS s).R = (s.rows.length : Int) := rfl
   have hC : (gdS s).C = (wdS s : Int) := rfl
   omega
 have har : ∀ k, k ≤ ps.length → 0 ≤ arL (ps.take k) ∧ arL (ps.take k) ≤ 36 * k := by
  intro k
  induction k with
  | zero => intro _; simp [arL]
  | succ k ih =>
   intro hk
   have ih' := ih (by omega)
   have hp : ps[k]? = some ps[k] := List.getElem?_eq_getElem (by omega)
   have hb := hbd.1 _ (List.mem_of_getElem? hp)
   have := ar_bd (h := ps[k].h) (w := ps[k].w) ⟨by omega, by omega⟩ ⟨by omega, by omega⟩
   rw [arL_take hp]
   unfold arP
   push_cast
   omega
 refine At.zi (.q 0 .done) ?_
 refine AtT.zh ?_
 refine AtT.done ?_
 refine At.nrm ?_
 refine At.zi (.q 0 (.q 1 (.q 2 .done))) ?_
 refine AtT.zf ?_
 first | refine AtT.zU Tryz.underlying27 ?_ | refine AtT.zV Tryz.underlying27 ?_
 refine AtT.zf ?_
 refine AtT.done ?_
 refine At.nrm ?_
 refine At.lp (ι := Nat) (KS := fun k => [(5, iv e11), (6, iv (arL (ps.take k))), (14, .slice a11 ps.length c11), (15, iv ps.length), (16, iv k)]) (OS := fun _ => [])
  (VS := fun k V' => V11 = V' ∧ k ≤ ps.length) (μ := fun k => ps.length - k) 0 ?_ ?_ ?_ ?_
 ·exact ⟨rfl, rfl, rfl, rfl, rfl, trivial⟩
 ·exact Pt.zI
 ·exact ⟨rfl, Nat.zero_le _⟩
 rintro k _ ks' O' ⟨rfl, hkl⟩ hk hO hl2
 subst hk hO
 refine At.nrm ?_
 refine At.zi (.q 0 .done) ?_
 refine AtT.zY ?_
 refine AtT.done ?_
 refine At.nrm ?_
 refine At.zX rfl (fun hp => ?_) (fun hp => ?_)
 ·obtain ⟨p, hpk⟩ : ∃ p, ps[k]? = some p := ⟨_, List.getElem?_eq_getElem (by omega)⟩
  have hb := hbd.1 _ (List.mem_of_getElem? hpk)
  have hab := ar_bd (h := p.h) (w := p.w) ⟨by omega, by omega⟩ ⟨by omega, by omega⟩
  have h1 := har k hkl
  have hfit : Fit (p.h * p.w) := Fit.of (by omega) (by omega)
  have hfit2 : Fit (arL (ps.take k) + p.h * p.w) := Fit.of (by omega) (by omega)
  have htk := arL_take hpk
  refine At.nrm ?_
  refine At.zi (.q 0 (.q 1 (.n false 2 (.n true 3 .done)))) ?_
  refine AtT.qi Tryz.underlying27 zQ ?_
  intro p18 e18 he18 hc18
  obtain rfl : p = e18 := by have : ps[k]? = some e18 := (by simpa using he18); rw [hpk] at this; simpa using this
  first | refine AtT.zu zQ ?_ | refine AtT.zC zQ ?_ | refine AtT.zt zQ ?_
  refine AtT.qw z26 ?_
  intro b8
  refine AtT.zW zQ ?_
  refine AtT.done ?_
  refine At.nrm ?_
  refine At.zi (.q 0 (.q 1 (.q 2 (.q 3 (.q 4 (.q 5 (.q 6 (.q 7 .done)))))))) ?_
  refine AtT.zf ?_
  first | refine AtT.zk zG ?_ | with_reducible refine AtT.zl zG ?_ | refine AtT.zn zG ?_
  first | refine AtT.zm tk3 ?_ | refine AtT.zo tk3 ?_
  first | refine AtT.zk zH ?_ | with_reducible refine AtT.zl zH ?_ | refine AtT.zn zH ?_
  first | refine AtT.zm tk3 ?_ | refine AtT.zo tk3 ?_
  first | refine AtT.kmul ?_ | refine AtT.kmulW ?_
  first | refine AtT.qh ?_ | refine AtT.zT ?_
  refine AtT.zh ?_
  refine AtT.done ?_
  refine At.nrm ?_
  refine At.zi (.q 0 (.q 1 .done)) ?_
  first | refine AtT.qh ?_ | refine AtT.zT ?_
  refine AtT.zf ?_
  refine AtT.done ?_
  refine At.nrm ?_
  refine At.round (k + 1) ?_ ?_ ?_ ?_
  ·show ps.length - (k + 1) < ps.length - k; omega
  ·exact ⟨rfl, by omega⟩
  ·rw [htk]; exact ⟨rfl, rfl, rfl, rfl, ivs (by omega), trivial⟩
  ·exact Pt.zI
 obtain rfl : k = ps.length := by omega
 rw [List.take_length]
 refine At.nrm ?_
 refine At.zi (.q 0 (.q 1 (.q 2 (.q 3 .done)))) ?_
 refine AtT.zf ?_
 refine AtT.zf ?_
 refine AtT.zh ?_
 refine AtT.zh ?_
 refine AtT.done ?_
 refine At.nrm ?_
 refine At.jb rfl (.tmp rfl) (.tmp rfl) ⟨_, _, rfl, ?_⟩
 rcases hr with ⟨h0, rfl, rfl⟩ | ⟨h0, rfl, hm⟩
 ·exact .inl ⟨h0, rfl, rfl⟩
 ·exact .inr ⟨h0, rfl, _, hm.best⟩
end Go.Proofs.YtghomjjffllkeaaGreatDoor
set_option linter.unusedVariables false
namespace Go.Pm
open Go.Gl Go.Lw
def InN (N : Nat) (l : List Int) : Prop := ∀ i ∈ l, 0 ≤ i ∧ i < (N : Int)
theorem alG_in (N : Nat) (S : Int → Int → Bool) : ∀ (t : Nat) (begun out : List Int), t ≤ N → begun.length + t ≤ N → out.length ≤ N → InN N begun → InN N out → InN N (alG N S t begun out) ∧ (alG N S t begun out).length ≤ N
 | 0, begun, out, _, _, h2, _, h4 => ⟨h4, h2⟩
 | t + 1, begun, out, h0, h1, h2, h3, h4 => by
  have hnew : InN N (begun ++ [(N : Int) - ((t + 1 : Nat) : Int)]) := fun i hi => by
   rcases List.mem_append.1 hi with h | h
   ·exact h3 i h
   ·rw [List.mem_singleton] at h; subst h; push_cast; omega
  have hln : (begun ++ [(N : Int) - ((t + 1 : Nat) : Int)]).length + t ≤ N := by rw [List.length_append]; simp only [List.length_cons, List.length_nil]; omega
  obtain ⟨a1, a2⟩ := alG_in N S t (begun ++ [(N : Int) - ((t + 1 : Nat) : Int)]) (begun ++ [(N : Int) - ((t + 1 : Nat) : Int)]) (by omega) hln (by omega) hnew hnew
  simp only [alG]
  split
  ·exact alG_in N S t begun out (by omega) (by omega) h2 h3 h4
  ·split
   ·exact alG_in N S t begun _ (by omega) (by omega) a2 h3 a1
   ·exact alG_in N S t begun out (by omega) (by omega) h2 h3 h4
def nrP (g : Gd) (K : List Cl) (i k : Nat) : Bool := decide (k ≠ i) && shN g K i k
def nrM (g : Gd) (K : List Cl) (i n : Nat) : Nat := mkM (nrP g K i) n
theorem nrM_bit (g : Gd) (K : List Cl) (i n j : Nat) : (nrM g K i n).testBit j = (decide (j < n) && nrP g K i j) := mkM_bit _ _ _
theorem mkM_lt (q : Nat → Bool) : ∀ n, mkM q n < 2 ^ n
 | 0 => by simp [mkM]
 | n + 1 => by
  have ih := mkM_lt q n
  simp only [mkM]
  have h2 : 2 ^ n < 2 ^ (n + 1) := Nat.pow_lt_pow_right (by omega) (by omega)
  split
  ·exact Nat.or_lt_two_pow (by omega) h2
  ·omega
theorem nrM_lt (g : Gd) (K : List Cl) (i n : Nat) : nrM g K i n < 2 ^ n := mkM_lt _ _
theorem and_zero {a b : Nat} : a &&& b = 0 ↔ ∀ j, a.testBit j = true → b.testBit j = false := by
 constructor
 ·intro h j hj
  cases hb : b.testBit j with
  | false => rfl
  | true =>
   have : (a &&& b).testBit j = true := by rw [Nat.testBit_and, hj, hb]; rfl
   rw [h, Nat.zero_testBit] at this; cases this
 ·intro h
  refine Nat.eq_of_testBit_eq fun j => ?_
  rw [Nat.testBit_and, Nat.zero_testBit]
  cases ha : a.testBit j with
  | false => rfl
  | true => rw [h j ha]; rfl
theorem ok_near {g : Gd} {K : List Cl} {b n : Nat} (hb : b < 2 ^ n) : okS (shI g K) (qP b n) = true ↔ ∀ j ∈ qP b n, nrM g K j.toNat n &&& b = 0 := by
 unfold okS
 rw [decide_eq_true_eq]
 have hmem : ∀ i : Nat, (i : Int) ∈ qP b n ↔ b.testBit i = true := fun i => by
  rw [ji]
  constructor
  ·rintro ⟨k, _, e, h⟩; have : i = k := by omega
   subst this; exact h
  ·intro h
   refine ⟨i, ?_, rfl, h⟩
   apply Classical.byContradiction
   intro hc
   have h1 : b < 2 ^ i := Nat.lt_of_lt_of_le hb (Nat.pow_le_pow_right (by omega) (by omega))
   rw [Nat.testBit_lt_two_pow h1] at h; cases h
 constructor
 ·intro hp j hj
  obtain ⟨i, hi, rfl, hib⟩ := ji.1 hj
  rw [and_zero]
  intro k hk
  rw [Int.toNat_natCast, nrM_bit, Bool.and_eq_true, decide_eq_true_eq] at hk
  obtain ⟨hkn, hk2⟩ := hk
  unfold nrP at hk2
  rw [Bool.and_eq_true, decide_eq_true_eq] at hk2
  cases hbk : b.testBit k with
  | false => rfl
  | true =>
   have hkm := (hmem k).2 hbk
   have hlt := bitL_lt b n
   have key : ∀ {l : List Int}, l.Pairwise (fun a b => shI g K a b = false) → ∀ x ∈ l, ∀ y ∈ l, x ≠ y → shI g K x y = false ∨ shI g K y x = false := by
    intro l
    induction l with
    | nil => intro _ x hx; cases hx
    | cons a l ih =>
     intro h x hx y hy hne
     have h' := List.pairwise_cons.1 h
     rcases List.mem_cons.1 hx with e1 | e1 <;> rcases List.mem_cons.1 hy with e2 | e2
     ·exact absurd (e1.trans e2.symm) hne
     ·rw [e1]; exact .inl (h'.1 y e2)
     ·rw [e2]; exact .inr (h'.1 x e1)
     ·exact ih h'.2 x e1 y e2 hne
   rcases key hp (i : Int) hj (k : Int) hkm (by omega) with h | h
   ·unfold shI at h
    rw [Int.toNat_natCast, Int.toNat_natCast, hk2.2] at h; cases h
   ·unfold shI at h
    rw [Int.toNat_natCast, Int.toNat_natCast, sh_symm, hk2.2] at h; cases h
 ·intro h
  have hlt := bitL_lt b n
  refine List.Pairwise.imp_of_mem (fun {x y} hx hy hxy => ?_) hlt
  obtain ⟨i, hi, rfl, hib⟩ := ji.1 hx
  obtain ⟨k, hk, rfl, hkb⟩ := ji.1 hy
  have h1 := and_zero.1 (h _ hx)
  rw [Int.toNat_natCast] at h1
  unfold shI
  rw [Int.toNat_natCast, Int.toNat_natCast]
  cases hs : shN g K i k with
  | false => rfl
  | true =>
   have := h1 k (by rw [nrM_bit]; unfold nrP; rw [hs]; simp; omega)
   rw [hkb] at this; cases this
end Go.Pm
set_option linter.unusedVariables false
namespace Go.Proofs.YtghomjjffllkeaaGreatDoor
open Go.Lw Go.Gl Go.Pm Go.RowKit
theorem share1_f (s : Sh) (hok : jH s) (z x : Int) (hz : 0 ≤ z ∧ z < ((knL s).length : Int)) (hx : 0 ≤ x ∧ x < ((knL s).length : Int)) (V : View) (b : Nat) (p3 p8 : Addr) (hb : BnV V b s) (q3 : Cells V p3 [.pointer (some ⟨b, 0, none⟩)]) (q8 : Cells V p8 [iv x]) :
  Fnc Tryz.prog 94 ([] ++ [iv z] ++ [.pointer (some p3), .pointer (some p8)]) V fun r _ => r = .bool (shI (gdS s) (knL s) z x) := by
 obtain ⟨i, rfl⟩ : ∃ i : Nat, z = (i : Int) := ⟨z.toNat, by omega⟩
 obtain ⟨k, rfl⟩ : ∃ k : Nat, x = (k : Int) := ⟨x.toNat, by omega⟩
 refine qc Tryz.func94 rfl Tryz.ntmps94 (Nat.le_of_ble_eq_true rfl) ?_
 intro w0 hw0
 refine At.nrm ?_
 refine At.zi (.q 0 .done) ?_
 refine AtT.zh ?_
 refine AtT.done ?_
 refine At.nrm ?_
 refine At.zi (.q 0 (.q 1 (.q 2 (.n false 3 (.q 4 .done))))) ?_
 first | refine AtT.zm tk80 ?_ | refine AtT.zo tk80 ?_
 refine AtT.zf ?_
 first | refine AtT.zm tk3 ?_ | refine AtT.zo tk3 ?_
 refine AtT.zq rfl rfl ok69 (share_f s hok i k (by omega) (by omega) _ b hb) ?_
 rintro _ rfl
 refine AtT.zh ?_
 refine AtT.done ?_
 refine At.nrm ?_
 exact At.qd rfl (.tmp rfl) (by unfold shI; rw [Int.toNat_natCast, Int.toNat_natCast])
theorem alone_f (s : Sh) (hok : jH s) (b : Nat) : ∀ (t : Nat) (begun : List Int) (from' : Int) (V : View) (vb : Value), ((knL s).length : Int) - from' = t → 0 ≤ from' → begun.length + t ≤ (knL s).length → InN (knL s).length begun → BnV V b s → SlI V vb begun →
  Fnc Tryz.prog 64 [.pointer (some ⟨b, 0, none⟩), vb, iv from'] V fun r V' => SlI V' r (alG (knL s).length (shI (gdS s) (knL s)) t begun begun) := by
 intro t
 induction t using Nat.strongRecOn with
 | _ t ih =>
 intro begun from' V vb hft hf0 hlen hin hb hs
 have n10 := hok.kn
 obtain ⟨a, c, rfl, k1, k2, _⟩ := id hs
 clear k1 k2
 refine qc Tryz.func64 rfl Tryz.ntmps64 (Nat.le_of_ble_eq_true rfl) ?_
 intro w0 hw0
 refine At.nrm ?_
 refine At.zi (.n false 0 (.q 1 .done)) ?_
 refine AtT.qV ?_
 intro b3
 refine AtT.zh ?_
 refine AtT.done ?_
 refine At.nrm ?_
 refine At.zi (.q 0 (.q 1 .done)) ?_
 refine AtT.zf ?_
 refine AtT.zh ?_
 refine AtT.done ?_
 refine At.nrm ?_
 refine At.zi (.q 0 (.n false 1 (.n true 2 .done))) ?_
 refine AtT.zf ?_
 refine AtT.qw z3 ?_
 intro b8
 first | refine AtT.jk tk3 ?_ | refine AtT.zW tk3 ?_
 refine AtT.done ?_
 refine At.nrm ?_
 refine At.giveB (b := b3) zZ.zI (fun V1 hV1 hb3 => ?_)
 refine At.lp (ι := Nat × List Int × Option Addr × Nat × Nat) (KS := fun g => [(1, .slice a begun.length c), (3, .pointer (some ⟨b3, 0, none⟩)), (7, .slice g.2.2.1 g.2.1.length g.2.2.2.1), (8, .pointer (some ⟨g.2.2.2.2, 0, none⟩))])
  (OS := fun g => [.blk g.2.2.2.2 (LC [iv (((knL s).length : Int) - (g.1 : Int))] 3)])
  (VS := fun g V' => Le V1 V' ∧ g.1 ≤ t ∧ SlI V' (.slice g.2.2.1 g.2.1.length g.2.2.2.1) g.2.1 ∧ alG (knL s).length (shI (gdS s) (knL s)) g.1 begun g.2.1 = alG (knL s).length (shI (gdS s) (knL s)) t begun begun ∧ g.2.1.length ≤ (knL s).length) (μ := fun g => g.1) (t, begun, a, c, b8) ?_ ?_ ?_ ?_
 ·exact ⟨rfl, rfl, rfl, rfl, trivial⟩
 ·dsimp only
  rw [show ((knL s).length : Int) - (t : Int) = from' by omega]
  ·exact Pt.zI
 ·exact ⟨Le.refl _, Nat.le_refl _, hs.le hV1, rfl, by dsimp only; omega⟩
 ·rintro ⟨m, out, ao, co, b8⟩ V' ks' O' ⟨hVV, hst, hso, heq, hol⟩ hk2 hO hl3
  dsimp only at hst hso heq hk2 hO hol
  subst hk2 hO
  have hb' := (hb.le hV1).le hVV
  obtain ⟨ab, cb, ak, ck, hc0, hc1, hc2, hc3, hsb, hsk⟩ := bn_get hb'
  have q3 := (qY hb3).le hVV
  have hs1 := (hs.le hV1).le hVV
  refine At.nrm ?_
  refine At.jo (ι := Unit) (fun _ => [(1, .slice a begun.length c), (3, .pointer (some ⟨b3, 0, none⟩)), (7, .slice ao out.length co), (8, .pointer (some ⟨b8, 0, none⟩)), (18, .bool (decide (((knL s).length : Int) - (m : Int) < ((knL s).length : Int))))]) (fun _ => [.blk b8 (LC [iv (((knL s).length : Int) - (m : Int))] 3)]) (fun _ V'' => V' = V'') ?_ ?_
  ·refine At.draw (.q 0 (.q 1 (.q 2 (.q 3 (.q 4 (.q 5 (.q 6 .done))))))) ffm (by kernel_rfl) ?_
   first | refine AtT.zm tk3 ?_ | refine AtT.zo tk3 ?_
   first | refine AtT.zm tk80 ?_ | refine AtT.zo tk80 ?_
   refine AtT.knil ?_
   first | refine AtT.zk qG ?_ | with_reducible refine AtT.zl qG ?_ | refine AtT.zn qG ?_
   first | refine AtT.zm tk84 ?_ | refine AtT.zo tk84 ?_
   first | refine AtT.zU Tryz.underlying84 ?_ | refine AtT.zV Tryz.underlying84 ?_
   refine AtT.zY ?_
   refine AtT.done ?_
   refine At.nrm ?_
   all_goals (exact At.qf () rfl ⟨rfl, rfl, rfl, rfl, rfl, trivial⟩ Pt.zI)
  rintro _ _ ks' O' rfl hk hO hl4
  subst hk hO
  refine At.zX rfl (fun hp => ?_) (fun hp => ?_)
  ·obtain ⟨m, rfl⟩ : ∃ s', m = s' + 1 := ⟨m - 1, by omega⟩
   have hxi : 0 ≤ ((knL s).length : Int) - ((m + 1 : Nat) : Int) ∧ ((knL s).length : Int) - ((m + 1 : Nat) : Int) < ((knL s).length : Int) := by push_cast; omega
   refine At.giveB (b := b8) zZ.zI (fun V2 hV2 hb8 => ?_)
   have q8 := qY hb8
   have hb2 := hb'.le hV2
   have hs2 := hs1.le hV2
   have q3b := q3.le hV2
   have hg2 : Le V V2 := (hV1.trans hVV).trans hV2
   have hso2 := hso.le hV2
   simp only [alG] at heq
   obtain ⟨x, hxe⟩ : ∃ x, x = ((knL s).length : Int) - ((m + 1 : Nat) : Int) := ⟨_, rfl⟩
   rw [← hxe] at hxi heq q8
   refine At.nrmB ?_
   refine At.jo (ι := List Int × Option Addr × Nat) (fun g => [(1, .slice a begun.length c), (3, .pointer (some ⟨b3, 0, none⟩)), (7, .slice g.2.1 g.1.length g.2.2), (8, .pointer (some ⟨b8, 0, none⟩))]) (fun _ => [])
    (fun g V'' => Le V2 V'' ∧ SlI V'' (.slice g.2.1 g.1.length g.2.2) g.1 ∧ alG (knL s).length (shI (gdS s) (knL s)) m begun g.1 = alG (knL s).length (shI (gdS s) (knL s)) t begun begun ∧ g.1.length ≤ (knL s).length) ?_ ?_
   ·refine At.nrm ?_
    refine At.zi (.q 0 (.q 1 (.n false 2 .done))) ?_
    refine AtT.zf ?_
    refine AtT.kfn ?_
    refine AtT.zq rfl rfl ok70 (contains_n 94 [.pointer (some ⟨b3, 0, none⟩), .pointer (some ⟨b8, 0, none⟩)] (fun z => shI (gdS s) (knL s) z x) _ _ _ hs2 ok94 (fun z hz => share1_f s hok z x (hin z hz) hxi _ b _ _ hb2 q3b q8)) ?_
    rintro _ rfl
    refine AtT.done ?_
    refine At.nrm ?_
    refine At.cond rfl (fun hc => ?_) (fun hc => ?_)
    ·have hsh : shS (shI (gdS s) (knL s)) begun x = true := hc
     rw [if_pos hsh] at heq
     refine At.nrm ?_
     exact At.qf (out, ao, co) ⟨Le.refl _, hso2, heq, hol⟩ ⟨rfl, rfl, rfl, rfl, trivial⟩ Pt.zI
    ·have hsh : ¬ shS (shI (gdS s) (knL s)) begun x = true := fun h => by rw [show shS (shI (gdS s) (knL s)) begun x = false from hc] at h; cases h
     rw [if_neg hsh] at heq
     have hnin : InN (knL s).length (begun ++ [x]) := fun i hi => by
      rcases List.mem_append.1 hi with h | h
      ·exact hin i h
      ·rw [List.mem_singleton] at h; subst h; exact hxi
     have hnl : (begun ++ [x]).length = begun.length + 1 := by simp
     have hap := alG_in (knL s).length (shI (gdS s) (knL s)) m (begun ++ [x]) (begun ++ [x]) (by omega) (by omega) (by omega) hnin hnin
     refine At.nrm ?_
     refine At.jo (ι := Option Addr × Nat) (fun g => [(1, .slice a begun.length c), (3, .pointer (some ⟨b3, 0, none⟩)), (7, .slice ao out.length co), (8, .pointer (some ⟨b8, 0, none⟩)), (9, .slice g.1 (alG (knL s).length (shI (gdS s) (knL s)) m (begun ++ [x]) (begun ++ [x])).length g.2)]) (fun _ => [])
      (fun g V'' => Le V2 V'' ∧ SlI V'' (.slice g.1 (alG (knL s).length (shI (gdS s) (knL s)) m (begun ++ [x]) (begun ++ [x])).length g.2) (alG (knL s).length (shI (gdS s) (knL s)) m (begun ++ [x]) (begun ++ [x]))) ?_ ?_
     ·refine At.draw (.q 0 (.q 1 (.q 2 (.q 3 (.q 4 (.q 5 (.q 6 (.q 7 (.q 10 (.q 11 (.n false 8 (.n false 9 (.n false 12 (.q 13 .done)))))))))))))) ffm (by kernel_rfl) ?_
      first | refine AtT.zm tk80 ?_ | refine AtT.zo tk80 ?_
      refine AtT.zf ?_
      refine AtT.zf ?_
      first | refine AtT.zU Tryz.underlying39 ?_ | refine AtT.zV Tryz.underlying39 ?_
      refine AtT.zf ?_
      first | refine AtT.zU Tryz.underlying39 ?_ | refine AtT.zV Tryz.underlying39 ?_
      first | refine AtT.kclipAll Tryz.underlying39 tk3 ?_ | refine AtT.kclip Tryz.underlying39 tk3 ?_
      intro a30 hs30
      first | refine AtT.zm tk3 ?_ | refine AtT.zo tk3 ?_
      first | refine AtT.zm tk3 ?_ | refine AtT.zo tk3 ?_
      first | refine AtT.qh ?_ | refine AtT.zT ?_
      refine AtT.zB (qb _) ?_
      intro q32 V32 hV32 hq32
      have g32 : Le V V32 := by first | exact hV32 | exact Le.trans (by assumption) hV32
      refine AtT.appendC rfl trivial Tryz.underlying39 rw3 rfl (by decide) rfl (by first | assumption | exact Sl.le (by assumption) (by assumption)) rfl rfl (by first | assumption | exact Cells.le (by assumption) (by assumption)) (fun _ => rfl) (by simp) (by unfold maxLen; simp only [List.length_cons, List.length_nil]; omega) (by simp only [List.length_cons, List.length_nil]; omega) (by decide) (enc := ei) (m := [x]) ?_
      intro a33 c33 V33 hV33 hs33
      have g33 : Le V V33 := by first | exact hV33 | exact Le.trans (by assumption) hV33
      refine AtT.qg rfl rfl ok64 (ih m (by omega) (begun ++ [x]) (x + 1) _ _ (by omega) (by omega) (by omega) hnin (hb2.le (by first | assumption | exact Le.trans (by assumption) (by assumption))) hs33) ?_
      rintro v36 V36 hV36 hs36; obtain ⟨a36, c36, rfl, _⟩ := id hs36
      refine AtT.zh ?_
      refine AtT.done ?_
      refine At.nrm ?_
      all_goals (exact At.qf (a36, c36) ⟨by first | assumption | exact Le.trans (by assumption) (by assumption) | exact Le.trans (Le.trans (by assumption) (by assumption)) (by assumption), hs36⟩ ⟨rfl, rfl, rfl, rfl, rfl, trivial⟩ Pt.zI)
     rintro ⟨a36, c36⟩ V36 ks' O' ⟨hVV2, hs36⟩ hk hO hl5
     dsimp only at hk hO hs36
     subst hk hO
     have hso3 := hso2.le hVV2
     refine At.nrm ?_
     refine At.zi (.q 0 (.q 1 (.q 2 (.q 3 (.q 4 .done))))) ?_
     refine AtT.zf ?_
     first | refine AtT.zU Tryz.underlying39 ?_ | refine AtT.zV Tryz.underlying39 ?_
     refine AtT.zf ?_
     first | refine AtT.zU Tryz.underlying39 ?_ | refine AtT.zV Tryz.underlying39 ?_
     refine AtT.qy ?_
     refine AtT.done ?_
     refine At.nrm ?_
     refine At.zX rfl (fun hm => ?_) (fun hm => ?_)
     ·rw [if_pos (by omega)] at heq
      refine At.nrm ?_
      refine At.zi (.q 0 (.q 1 .done)) ?_
      refine AtT.zf ?_
      refine AtT.zh ?_
      refine AtT.done ?_
      refine At.nrm ?_
      exact At.qf (alG (knL s).length (shI (gdS s) (knL s)) m (begun ++ [x]) (begun ++ [x]), a36, c36) ⟨hVV2, hs36, heq, hap.2⟩ ⟨rfl, rfl, rfl, rfl, trivial⟩ Pt.zI
     ·rw [if_neg (by omega)] at heq
      refine At.nrm ?_
      exact At.qf (out, ao, co) ⟨hVV2, hso3, heq, hol⟩ ⟨rfl, rfl, rfl, rfl, trivial⟩ Pt.zI
   rintro ⟨out2, ao2, co2⟩ V3 ks' O' ⟨hV3, hso3, heq3, hol3⟩ hk2 hO hl4
   dsimp only at hk2 hO hso3 heq3 hol3
   subst hk2 hO
   have q83 := q8.le hV3
   refine At.nrm ?_
   refine At.zi (.q 0 .done) ?_
   first | refine AtT.zm tk3 ?_ | refine AtT.zo tk3 ?_
   refine AtT.done ?_
   refine At.nrm ?_
   refine At.zi (.n false 0 (.n true 1 .done)) ?_
   refine AtT.qw z3 ?_
   intro b8
   first | refine AtT.jk tk3 ?_ | refine AtT.zW tk3 ?_
   refine AtT.done ?_
   refine At.nrm ?_
   refine At.zi (.q 0 (.q 1 (.n true 2 .done))) ?_
   first | refine AtT.zm tk3 ?_ | refine AtT.zo tk3 ?_
   first | refine AtT.qh ?_ | refine AtT.zT ?_
   first | refine AtT.jk tk3 ?_ | refine AtT.zW tk3 ?_
   refine AtT.done ?_
   refine At.nrm ?_
   refine At.round (m, out2, ao2, co2, b8) ?_ ?_ ?_ ?_
   ·show m < m + 1; omega
   ·exact ⟨(hVV.trans hV2).trans hV3, by dsimp only; omega, hso3, heq3, hol3⟩
   ·exact ⟨rfl, rfl, rfl, rfl, trivial⟩
   dsimp only
   rw [show ((knL s).length : Int) - (m : Int) = x + 1 by omega]
   ·exact Pt.zI
  ·obtain rfl : m = 0 := by omega
   refine At.nrm ?_
   refine At.zi (.q 0 (.q 1 .done)) ?_
   refine AtT.zf ?_
   refine AtT.zh ?_
   refine AtT.done ?_
   refine At.nrm ?_
   refine At.qd rfl (.tmp rfl) ?_
   rw [← heq]; exact hso
end Go.Proofs.YtghomjjffllkeaaGreatDoor
set_option linter.unusedVariables false
namespace Go.Pm
open Go.Gl Go.Lw
def nrL (g : Gd) (K : List Cl) (i k : Nat) : List Int := (List.range K.length).map fun j => ((if j < i then nrM g K j K.length else if j = i then nrM g K j k else 0 : Nat) : Int)
theorem nrL_len (g : Gd) (K : List Cl) (i k : Nat) : (nrL g K i k).length = K.length := by unfold nrL; simp
theorem nrL_get (g : Gd) (K : List Cl) (i k j : Nat) : (nrL g K i k)[j]? = if j < K.length then some ((if j < i then nrM g K j K.length else if j = i then nrM g K j k else 0 : Nat) : Int) else none := by
 unfold nrL
 rw [List.getElem?_map]
 by_cases h : j < K.length
 ·rw [if_pos h, List.getElem?_range h]; rfl
 ·rw [if_neg h, List.getElem?_eq_none (by simp; omega)]; rfl
theorem nrL_start (g : Gd) (K : List Cl) : nrL g K 0 0 = List.replicate K.length 0 := by
 apply List.ext_getElem?
 intro j
 rw [nrL_get, List.getElem?_replicate]
 by_cases h : j < K.length
 ·rw [if_pos h, if_pos h, if_neg (by omega)]
  by_cases e : j = 0
  ·rw [if_pos e]; rfl
  ·rw [if_neg e]; rfl
 ·rw [if_neg h, if_neg h]
theorem nrL_at (g : Gd) (K : List Cl) {i k : Nat} (h : i < K.length) : (nrL g K i k)[i]? = some (nrM g K i k : Int) := by
 rw [nrL_get, if_pos h, if_neg (by omega), if_pos rfl]
theorem nrL_set (g : Gd) (K : List Cl) {i k : Nat} (h : i < K.length) : (nrL g K i k).set i (nrM g K i (k + 1) : Int) = nrL g K i (k + 1) := by
 apply List.ext_getElem?
 intro j
 rw [List.getElem?_set, nrL_len]
 by_cases e : i = j
 ·subst e
  rw [if_pos rfl, if_pos h, nrL_at _ _ h]
 ·rw [if_neg e, nrL_get, nrL_get]
  by_cases hj : j < K.length
  ·rw [if_pos hj, if_pos hj]
   by_cases c : j < i
   ·rw [if_pos c, if_pos c]
   ·rw [if_neg c, if_neg c, if_neg (fun h => e h.symm), if_neg (fun h => e h.symm)]
  ·rw [if_neg hj, if_neg hj]
theorem nrL_row (g : Gd) (K : List Cl) (i : Nat) : nrL g K i K.length = nrL g K (i + 1) 0 := by
 apply List.ext_getElem?
 intro j
 rw [nrL_get, nrL_get]
 by_cases hj : j < K.length
 ·rw [if_pos hj, if_pos hj]
  by_cases c : j < i
  ·rw [if_pos c, if_pos (by omega)]
  ·by_cases e : j = i
   ·subst e
    rw [if_neg c, if_pos rfl, if_pos (by omega)]
   ·rw [if_neg c, if_neg e, if_neg (by omega)]
    by_cases e2 : j = i + 1
    ·rw [if_pos e2]; rfl
    ·rw [if_neg e2]
 ·rw [if_neg hj, if_neg hj]
theorem nrL_end (g : Gd) (K : List Cl) {j : Nat} (h : j < K.length) : (nrL g K K.length 0)[j]? = some (nrM g K j K.length : Int) := by
 rw [nrL_get, if_pos h, if_pos h]
theorem nrM_snoc (g : Gd) (K : List Cl) (i k : Nat) : nrM g K i (k + 1) = if nrP g K i k = true then nrM g K i k ||| 2 ^ k else nrM g K i k := rfl
end Go.Pm
set_option linter.unusedVariables false
namespace Go.Proofs.YtghomjjffllkeaaGreatDoor
open Go.Lw Go.Gl Go.Pm Go.RowKit
theorem aloneOf_f (s : Sh) (hok : jH s) (V : View) (v : Value) (hv : ShV V v s) : Fnc Tryz.prog 65 [v] V fun r V' => SlI V' r (alK (knL s).length (shI (gdS s) (knL s)) (2 ^ (knL s).length)) := by
 obtain ⟨a, c, rfl, hs⟩ := id hv
 have n10 := hok.kn
 have hn6 := hok.n
 have hw6 := hok.w
 have hpow : 2 ^ (knL s).length ≤ 1024 := Nat.pow_le_pow_right (n := 2) (by decide) n10
 refine qc Tryz.func65 rfl Tryz.ntmps65 (Nat.le_of_ble_eq_true rfl) ?_
 intro w0 hw0
 refine At.nrm ?_
 refine At.zi (.n false 0 (.q 1 .done)) ?_
 refine AtT.qV ?_
 intro b1
 refine AtT.zh ?_
 refine AtT.done ?_
 refine At.nrm ?_
 refine At.zi (.q 0 (.n false 1 (.q 2 (.q 3 .done)))) ?_
 first | refine AtT.zu zx ?_ | refine AtT.zC zx ?_ | refine AtT.zt zx ?_
 refine AtT.qg rfl rfl ok44 (jr s (by omega) (fun r hr => by have := hok.sz r hr; omega) _ _ hv) ?_
 rintro v13 V13 hV13 hs13; obtain ⟨ak, ck, rfl, _⟩ := id hs13
 first | refine AtT.zU Tryz.underlying58 ?_ | refine AtT.zV Tryz.underlying58 ?_
 refine AtT.zh ?_
 refine AtT.done ?_
 refine At.nrm ?_
 have hv13 := hv.le hV13
 refine At.zi (.q 0 (.n false 1 (.q 2 .done))) ?_
 refine AtT.zf ?_
 refine AtT.makeSl rfl trivial ei rfl Tryz.underlying39 rw3 rfl rfl (by decide) rfl rfl (by omega) (by omega) (by decide) (za := (0 : Int)) ?_
 intro b16
 refine AtT.zh ?_
 refine AtT.done ?_
 refine At.nrm ?_
 refine At.zi (.q 0 .done) ?_
 refine AtT.zh ?_
 refine AtT.done ?_
 refine At.nrm ?_
 refine At.lp (ι := Nat) (KS := fun i => [(1, .pointer (some ⟨b1, 0, none⟩)), (3, iv (knL s).length), (4, .slice (some ⟨b16, 0, none⟩) (knL s).length (knL s).length), (5, iv i)])
  (OS := fun i => [.blk b1 (LC [.slice a s.rows.length c, iv s.most] 24), .blk b16 (LC (flat ei (nrL (gdS s) (knL s) i 0)) 3)])
  (VS := fun i V' => V13 = V' ∧ i ≤ (knL s).length) (μ := fun i => (knL s).length - i) 0 ?_ ?_ ?_ ?_
 ·exact ⟨rfl, rfl, rfl, rfl, trivial⟩
 ·rw [nrL_start]; exact Pt.zI
 ·exact ⟨rfl, Nat.zero_le _⟩
 rintro i _ ks' O' ⟨rfl, hil⟩ hk hO hl2
 subst hk hO
 refine At.nrm ?_
 refine At.zi (.q 0 (.q 1 (.q 2 .done))) ?_
 refine AtT.zf ?_
 refine AtT.zf ?_
 refine AtT.zY ?_
 refine AtT.done ?_
 refine At.nrm ?_
 refine At.zX rfl (fun hp => ?_) (fun hp => ?_)
 ·refine At.nrm ?_
  refine At.zi (.q 0 .done) ?_
  refine AtT.zh ?_
  refine AtT.done ?_
  refine At.nrm ?_
  refine At.lp (ι := Nat) (KS := fun k => [(1, .pointer (some ⟨b1, 0, none⟩)), (3, iv (knL s).length), (4, .slice (some ⟨b16, 0, none⟩) (knL s).length (knL s).length), (5, iv i), (6, iv k)])
   (OS := fun k => [.blk b1 (LC [.slice a s.rows.length c, iv s.most] 24), .blk b16 (LC (flat ei (nrL (gdS s) (knL s) i k)) 3)])
   (VS := fun k V' => V13 = V' ∧ k ≤ (knL s).length) (μ := fun k => (knL s).length - k) 0 ?_ ?_ ?_ ?_
  ·exact ⟨rfl, rfl, rfl, rfl, rfl, trivial⟩
  ·exact Pt.zI
  ·exact ⟨rfl, Nat.zero_le _⟩
  rintro k _ ks' O' ⟨rfl, hkl⟩ hk hO hl3
  subst hk hO
  refine At.nrm ?_
  refine At.zi (.q 0 (.q 1 (.q 2 .done))) ?_
  refine AtT.zf ?_
  refine AtT.zf ?_
  refine AtT.zY ?_
  refine AtT.done ?_
  refine At.nrm ?_
  refine At.zX rfl (fun hp2 => ?_) (fun hp2 => ?_)
  rotate_left
  ·obtain rfl : k = (knL s).length := by omega
   refine At.nrm ?_
   refine At.zi (.q 0 (.q 1 (.q 2 .done))) ?_
   refine AtT.zf ?_
   first | refine AtT.qh ?_ | refine AtT.zT ?_
   refine AtT.zh ?_
   refine AtT.done ?_
   refine At.nrm ?_
   refine At.round (i + 1) ?_ ?_ ?_ ?_
   ·show (knL s).length - (i + 1) < (knL s).length - i; omega
   ·exact ⟨rfl, by omega⟩
   ·exact ⟨rfl, rfl, rfl, ivs (by omega), trivial⟩
   rw [← nrL_row]
   ·exact Pt.zI
  have hsn := nrM_snoc (gdS s) (knL s) i k
  have hset := nrL_set (gdS s) (knL s) (i := i) (k := k) (by omega)
  have hat := fl_get (nrL_at (gdS s) (knL s) (i := i) (k := k) (by omega))
  have hlt := nrM_lt (gdS s) (knL s) i k
  have hl1 : 2 ^ k < 2 ^ 10 := Nat.pow_lt_pow_right (by omega) (by omega)
  refine At.nrmB ?_
  refine At.jo (ι := Unit) (fun _ => [(1, .pointer (some ⟨b1, 0, none⟩)), (3, iv (knL s).length), (4, .slice (some ⟨b16, 0, none⟩) (knL s).length (knL s).length), (5, iv i), (6, iv k)])
   (fun _ => [.blk b1 (LC [.slice a s.rows.length c, iv s.most] 24), .blk b16 (LC (flat ei (nrL (gdS s) (knL s) i (k + 1))) 3)]) (fun _ V'' => V13 = V'') ?_ ?_
  ·have hno : nrP (gdS s) (knL s) i k = false → nrL (gdS s) (knL s) i (k + 1) = nrL (gdS s) (knL s) i k := fun h => by
    rw [if_neg (by rw [h]; simp)] at hsn
    rw [← hset, hsn, set_same (nrL_at (gdS s) (knL s) (by omega))]
   by_cases e : k = i
   ·have hf : nrP (gdS s) (knL s) i k = false := by unfold nrP; simp [e]
    refine At.nrm ?_
    refine At.zi (.q 0 (.q 1 (.q 2 (.q 3 (.q 4 (.q 5 (.q 6 (.n false 7 (.q 8 .done))))))))) ?_
    refine AtT.zf ?_
    refine AtT.zf ?_
    refine AtT.qC ?_
    refine AtT.qj (d := 29) rfl ((by omega)) ?_
    refine AtT.zf ?_
    all_goals (first | refine AtT.kL 30 ?_ | refine AtT.zA (d := 30) rfl (fun hg30 => ?_) (fun hg30 => ?_) | refine AtT.zz (d := 30) rfl (fun hg30 => ?_) (fun hg30 => ?_))
    all_goals first|refine AtT.zg ?_|refine AtT.ze ?_|(first | refine AtT.zu zx ?_ | refine AtT.zC zx ?_ | refine AtT.zt zx ?_)
    all_goals first|refine AtT.zg ?_|refine AtT.ze ?_|(refine AtT.zf ?_)
    all_goals first|refine AtT.zg ?_|refine AtT.ze ?_|(refine AtT.zf ?_)
    all_goals (first | refine AtT.zP ?_ | refine AtT.zJ ?_ | ((fail)))
    all_goals (refine AtT.zy ?_)
    all_goals refine AtT.done ?_
    all_goals (refine At.nrm ?_)
    refine At.qE rfl rfl ?_
    refine At.nrm ?_
    rw [hno hf]
    exact At.qf () rfl ⟨rfl, rfl, rfl, rfl, rfl, trivial⟩ Pt.zI
   cases hsh : shN (gdS s) (knL s) i k with
   | false =>
    have hf : nrP (gdS s) (knL s) i k = false := by unfold nrP; rw [hsh]; simp
    refine At.nrm ?_
    refine At.zi (.q 0 (.q 1 (.q 2 (.q 3 (.q 4 (.q 5 (.q 6 (.n false 7 (.q 8 .done))))))))) ?_
    refine AtT.zf ?_
    refine AtT.zf ?_
    refine AtT.qC ?_
    refine AtT.qp (d := 29) rfl ((by omega)) ?_
    refine AtT.zf ?_
    all_goals (first | refine AtT.kL 30 ?_ | refine AtT.zA (d := 30) rfl (fun hg30 => ?_) (fun hg30 => ?_) | refine AtT.zz (d := 30) rfl (fun hg30 => ?_) (fun hg30 => ?_))
    all_goals first|refine AtT.zg ?_|refine AtT.ze ?_|(first | refine AtT.zu zx ?_ | refine AtT.zC zx ?_ | refine AtT.zt zx ?_)
    all_goals first|refine AtT.zg ?_|refine AtT.ze ?_|(refine AtT.zf ?_)
    all_goals first|refine AtT.zg ?_|refine AtT.ze ?_|(refine AtT.zf ?_)
    all_goals (first | refine AtT.zP ?_ | refine AtT.zJ ?_ | ((refine AtT.zq rfl rfl ok95 (rshare_f s hok i k (by omega) (by omega) _ _ hv13) ?_) ; (rintro _ rfl; rw [hsh])))
    all_goals (refine AtT.zy ?_)
    all_goals refine AtT.done ?_
    all_goals (refine At.nrm ?_)
    refine At.qE rfl rfl ?_
    refine At.nrm ?_
    rw [hno hf]
    exact At.qf () rfl ⟨rfl, rfl, rfl, rfl, rfl, trivial⟩ Pt.zI
   | true =>
    have hf : nrP (gdS s) (knL s) i k = true := by unfold nrP; rw [hsh]; simp [e]
    rw [if_pos hf] at hsn
    have hst := fl_set (l := nrL (gdS s) (knL s) i k) (j := i) (nrM (gdS s) (knL s) i (k + 1) : Int) (by rw [nrL_len]; omega)
    rw [hset, hsn] at hst
    have hlt10 : nrM (gdS s) (knL s) i k < 1024 := Nat.lt_of_lt_of_le hlt (show 2 ^ k ≤ 2 ^ 10 from Nat.pow_le_pow_right (by decide) (by omega))
    refine At.nrm ?_
    refine At.zi (.q 0 (.q 1 (.q 2 (.q 3 (.q 4 (.q 5 (.q 6 (.n false 7 (.q 8 .done))))))))) ?_
    refine AtT.zf ?_
    refine AtT.zf ?_
    refine AtT.qC ?_
    refine AtT.qp (d := 29) rfl ((by omega)) ?_
    refine AtT.zf ?_
    all_goals (first | refine AtT.kL 30 ?_ | refine AtT.zA (d := 30) rfl (fun hg30 => ?_) (fun hg30 => ?_) | refine AtT.zz (d := 30) rfl (fun hg30 => ?_) (fun hg30 => ?_))
    all_goals first|refine AtT.zg ?_|refine AtT.ze ?_|(first | refine AtT.zu zx ?_ | refine AtT.zC zx ?_ | refine AtT.zt zx ?_)
    all_goals first|refine AtT.zg ?_|refine AtT.ze ?_|(refine AtT.zf ?_)
    all_goals first|refine AtT.zg ?_|refine AtT.ze ?_|(refine AtT.zf ?_)
    all_goals (first | refine AtT.zP ?_ | refine AtT.zJ ?_ | ((refine AtT.zq rfl rfl ok95 (rshare_f s hok i k (by omega) (by omega) _ _ hv13) ?_) ; (rintro _ rfl; rw [hsh])))
    all_goals (refine AtT.zy ?_)
    all_goals refine AtT.done ?_
    all_goals (refine At.nrm ?_)
    refine At.qB rfl rfl ?_
    refine At.nrm ?_
    refine At.draw (.q 0 (.q 1 (.q 2 (.q 3 (.q 4 (.q 5 (.q 6 (.q 7 (.n true 8 .done))))))))) ffm (by kernel_rfl) ?_
    refine AtT.zf ?_
    refine AtT.zf ?_
    refine AtT.idxZ rfl trivial Tryz.underlying39 tk3 rfl rfl (by omega) (by decide) ?_
    refine AtT.loadO rfl trivial rfl tk3 zZ.zI hat (by decide) ?_
    refine AtT.zf ?_
    refine AtT.shlN rfl trivial rfl rfl rfl (by omega) (by decide) (N := k) ?_
    refine AtT.orN rfl trivial rfl rfl rfl rfl (by omega) (by omega) (by decide) (A := nrM (gdS s) (knL s) i k) (B := 2 ^ k) ?_
    refine AtT.idxZ rfl trivial Tryz.underlying39 tk3 rfl rfl (by omega) (by decide) ?_
    refine AtT.jk tk3 ?_ (hs := hst)
    refine AtT.done ?_
    refine At.nrm ?_
    all_goals (exact At.qf () rfl ⟨rfl, rfl, rfl, rfl, rfl, trivial⟩ Pt.zI)
  rintro _ _ ks' O' rfl hk hO hl4
  subst hk hO
  refine At.nrm ?_
  refine At.zi (.q 0 (.q 1 (.q 2 .done))) ?_
  refine AtT.zf ?_
  first | refine AtT.qh ?_ | refine AtT.zT ?_
  refine AtT.zh ?_
  refine AtT.done ?_
  refine At.nrm ?_
  refine At.round (k + 1) ?_ ?_ ?_ ?_
  ·show (knL s).length - (k + 1) < (knL s).length - k; omega
  ·exact ⟨rfl, by omega⟩
  ·exact ⟨rfl, rfl, rfl, rfl, ivs (by omega), trivial⟩
  ·exact Pt.zI
 obtain rfl : i = (knL s).length := by omega
 refine At.nrm ?_
 refine At.zi (.q 0 .done) ?_
 refine AtT.zh ?_
 refine AtT.done ?_
 refine At.nrm ?_
 refine At.zi (.q 0 .done) ?_
 refine AtT.zh ?_
 refine AtT.done ?_
 refine At.nrm ?_
 refine At.lp (ι := Nat × Option Addr × Nat) (KS := fun g => [(3, iv (knL s).length), (4, .slice (some ⟨b16, 0, none⟩) (knL s).length (knL s).length), (7, .slice g.2.1 (alK (knL s).length (shI (gdS s) (knL s)) g.1).length g.2.2), (8, iv g.1)]) (OS := fun _ => [.blk b16 (LC (flat ei (nrL (gdS s) (knL s) (knL s).length 0)) 3)])
  (VS := fun g V' => Le V13 V' ∧ g.1 ≤ 2 ^ (knL s).length ∧ SlI V' (.slice g.2.1 (alK (knL s).length (shI (gdS s) (knL s)) g.1).length g.2.2) (alK (knL s).length (shI (gdS s) (knL s)) g.1)) (μ := fun g => 2 ^ (knL s).length - g.1) (0, none, 0) ?_ ?_ ?_ ?_
 ·exact ⟨rfl, rfl, rfl, rfl, trivial⟩
 ·exact Pt.zI
 ·exact ⟨Le.refl _, Nat.zero_le _, Sl.nil _ _ _⟩
 rintro ⟨k, ao, co⟩ V' ks' O' ⟨hVV, hkl, hso⟩ hk2 hO hl3
 dsimp only at hkl hk2 hO hso
 subst hk2 hO
 refine At.nrm ?_
 refine At.zi (.q 0 (.q 1 (.q 2 (.q 3 .done)))) ?_
 refine AtT.zf ?_
 refine AtT.zf ?_
 refine AtT.shlN rfl trivial rfl rfl rfl (by omega) (by decide) (N := (knL s).length) ?_
 refine AtT.zY ?_
 refine AtT.done ?_
 refine At.nrm ?_
 refine At.zX rfl (fun hp2 => ?_) (fun hp2 => ?_)
 rotate_left
 ·obtain rfl : k = 2 ^ (knL s).length := by omega
  refine At.nrm ?_
  refine At.zi (.q 0 (.q 1 .done)) ?_
  refine AtT.zf ?_
  refine AtT.zh ?_
  refine AtT.done ?_
  refine At.nrm ?_
  exact At.qd rfl (.tmp rfl) hso
 have hkp : k < 2 ^ (knL s).length := by omega
 have hbn := bitL_len k (knL s).length
 have hok2 := ok_near (g := gdS s) (K := knL s) hkp
 obtain ⟨lb, hlb⟩ : ∃ lb, lb = qP k (knL s).length := ⟨_, rfl⟩
 have hstep : alK (knL s).length (shI (gdS s) (knL s)) (k + 1) = if okS (shI (gdS s) (knL s)) lb = true ∧ ((alK (knL s).length (shI (gdS s) (knL s)) k).length < lb.length ∨ lb.length = (alK (knL s).length (shI (gdS s) (knL s)) k).length ∧ jy lb (alK (knL s).length (shI (gdS s) (knL s)) k) = true) then lb else alK (knL s).length (shI (gdS s) (knL s)) k := by
  rw [Pm.alK, ← hlb]
 have hmem : ∀ x ∈ lb, 0 ≤ x ∧ x < ((knL s).length : Int) := fun x hx => by
  rw [hlb] at hx
  obtain ⟨j, hj, rfl, _⟩ := ji.1 hx
  omega
 refine At.nrm ?_
 refine At.zi (.q 0 (.q 1 (.n false 2 (.q 3 .done)))) ?_
 refine AtT.zf ?_
 refine AtT.zf ?_
 refine AtT.qg rfl rfl ok46 (bits_f k (knL s).length (by omega) (by omega) _) ?_
 rintro v52 V52 hV52 hs52
 refine AtT.zh ?_
 refine AtT.done ?_
 refine At.nrm ?_
 rw [← hlb] at hs52 hbn hok2
 obtain ⟨a52, c52, rfl, _⟩ := id hs52
 have hso3 := hso.le hV52
 refine At.zi (.q 0 .done) ?_
 refine AtT.zh ?_
 refine AtT.done ?_
 refine At.nrm ?_
 refine At.zi (.q 0 .done) ?_
 refine AtT.zh ?_
 refine AtT.done ?_
 refine At.nrm ?_
 refine At.lp (ι := Nat) (KS := fun j => [(3, iv (knL s).length), (4, .slice (some ⟨b16, 0, none⟩) (knL s).length (knL s).length), (7, .slice ao (alK (knL s).length (shI (gdS s) (knL s)) k).length co), (8, iv k), (9, .slice a52 lb.length c52), (10, .bool ((lb.take j).all fun x => decide (nrM (gdS s) (knL s) x.toNat (knL s).length &&& k = 0))), (11, iv j)])
  (OS := fun _ => [.blk b16 (LC (flat ei (nrL (gdS s) (knL s) (knL s).length 0)) 3)])
  (VS := fun j V' => V52 = V' ∧ j ≤ lb.length) (μ := fun j => lb.length - j) 0 ?_ ?_ ?_ ?_
 ·exact ⟨rfl, rfl, rfl, rfl, rfl, rfl, rfl, trivial⟩
 ·exact Pt.zI
 ·exact ⟨rfl, Nat.zero_le _⟩
 rintro j _ ks' O' ⟨rfl, hjl⟩ hk hO hl4
 subst hk hO
 refine At.nrm ?_
 refine At.zi (.q 0 (.q 1 (.q 2 (.q 3 .done)))) ?_
 refine AtT.zf ?_
 refine AtT.zf ?_
 first | refine AtT.zU Tryz.underlying39 ?_ | refine AtT.zV Tryz.underlying39 ?_
 refine AtT.zY ?_
 refine AtT.done ?_
 refine At.nrm ?_
 refine At.zX rfl (fun hp3 => ?_) (fun hp3 => ?_)
 ·obtain ⟨x, hx⟩ : ∃ x, lb[j]? = some x := ⟨_, List.getElem?_eq_getElem (by omega)⟩
  obtain ⟨hx0, hx1⟩ := hmem x (List.mem_of_getElem? hx)
  obtain ⟨i, rfl⟩ : ∃ i : Nat, x = (i : Int) := ⟨x.toNat, by omega⟩
  have hnx : ((lb.take (j + 1)).all fun x => decide (nrM (gdS s) (knL s) x.toNat (knL s).length &&& k = 0)) = (((lb.take j).all fun x => decide (nrM (gdS s) (knL s) x.toNat (knL s).length &&& k = 0)) && decide (nrM (gdS s) (knL s) i (knL s).length &&& k = 0)) := by
   rw [take_snoc' hx, List.all_append]; simp
  have hlt := nrM_lt (gdS s) (knL s) i (knL s).length
  have hat := fl_get (nrL_end (gdS s) (knL s) (j := i) (by omega))
  refine At.nrm ?_
  refine At.jo (ι := Unit) (fun _ => [(3, iv (knL s).length), (4, .slice (some ⟨b16, 0, none⟩) (knL s).length (knL s).length), (7, .slice ao (alK (knL s).length (shI (gdS s) (knL s)) k).length co), (8, iv k), (9, .slice a52 lb.length c52), (10, .bool ((lb.take (j + 1)).all fun x => decide (nrM (gdS s) (knL s) x.toNat (knL s).length &&& k = 0))), (11, iv j)])
   (fun _ => [.blk b16 (LC (flat ei (nrL (gdS s) (knL s) (knL s).length 0)) 3)]) (fun _ V'' => V52 = V'') ?_ ?_
  ·rw [hnx]
   cases hh : (lb.take j).all fun x => decide (nrM (gdS s) (knL s) x.toNat (knL s).length &&& k = 0) with
   | false =>
    refine At.zi (.q 0 (.q 1 (.q 2 (.q 3 (.q 4 (.q 5 (.q 6 (.q 7 (.q 8 (.q 9 (.q 10 (.q 11 (.q 12 (.q 13 .done)))))))))))))) ?_
    refine AtT.zf ?_
    refine AtT.zf ?_
    all_goals (first | refine AtT.kL 60 ?_ | refine AtT.zA (d := 60) rfl (fun hg60 => ?_) (fun hg60 => ?_) | refine AtT.zz (d := 60) rfl (fun hg60 => ?_) (fun hg60 => ?_))
    all_goals first|refine AtT.zg ?_|refine AtT.ze ?_|(refine AtT.zf ?_)
    all_goals first|refine AtT.zg ?_|refine AtT.ze ?_|(refine AtT.zf ?_)
    all_goals first|refine AtT.zg ?_|refine AtT.ze ?_|(refine AtT.zf ?_)
    all_goals first|refine AtT.zg ?_|refine AtT.ze ?_|(refine AtT.qi Tryz.underlying39 tk3 ?_) ; (intro p64 e64 he64 hc64)
    all_goals first|refine AtT.zg ?_|refine AtT.ze ?_|(first | refine AtT.zm tk3 ?_ | refine AtT.zo tk3 ?_)
    all_goals first|refine AtT.zg ?_|refine AtT.ze ?_|(refine AtT.qi Tryz.underlying39 tk3 ?_) ; (intro p66 e66 he66 hc66)
    all_goals first|refine AtT.zg ?_|refine AtT.ze ?_|(first | refine AtT.zm tk3 ?_ | refine AtT.zo tk3 ?_)
    all_goals first|refine AtT.zg ?_|refine AtT.ze ?_|(refine AtT.zf ?_)
    all_goals first|refine AtT.zg ?_|refine AtT.ze ?_|(fail)
    all_goals first|refine AtT.zg ?_|refine AtT.ze ?_|(refine AtT.qK ?_)
    all_goals (refine AtT.zy ?_)
    all_goals (refine AtT.zh ?_)
    all_goals refine AtT.done ?_
    all_goals (refine At.nrm ?_)
    exact At.qf () rfl ⟨rfl, rfl, rfl, rfl, rfl, rfl, rfl, trivial⟩ Pt.zI
   | true =>
    have hdd : decide (((nrM (gdS s) (knL s) i (knL s).length &&& k : Nat) : Int) = 0) = decide (nrM (gdS s) (knL s) i (knL s).length &&& k = 0) := by
     by_cases e : nrM (gdS s) (knL s) i (knL s).length &&& k = 0
     ·rw [e]; rfl
     ·rw [decide_eq_false e, decide_eq_false (by omega)]
    refine At.zi (.q 0 (.q 1 (.q 2 (.q 3 (.q 4 (.q 5 (.q 6 (.q 7 (.q 8 (.q 9 (.q 10 (.q 11 (.q 12 (.q 13 .done)))))))))))))) ?_
    refine AtT.zf ?_
    refine AtT.zf ?_
    all_goals (first | refine AtT.kL 60 ?_ | refine AtT.zA (d := 60) rfl (fun hg60 => ?_) (fun hg60 => ?_) | refine AtT.zz (d := 60) rfl (fun hg60 => ?_) (fun hg60 => ?_))
    all_goals first|refine AtT.zg ?_|refine AtT.ze ?_|(refine AtT.zf ?_)
    all_goals first|refine AtT.zg ?_|refine AtT.ze ?_|(refine AtT.zf ?_)
    all_goals first|refine AtT.zg ?_|refine AtT.ze ?_|(refine AtT.zf ?_)
    all_goals first|refine AtT.zg ?_|refine AtT.ze ?_|(refine AtT.qi Tryz.underlying39 tk3 ?_) ; (intro p64 e64 he64 hc64)
    all_goals first|refine AtT.zg ?_|refine AtT.ze ?_|(first | refine AtT.zm tk3 ?_ | refine AtT.zo tk3 ?_)
    all_goals (obtain rfl : (i : Int) = e64 := by have : lb[j]? = some e64 := (by simpa using he64); rw [hx] at this; simpa using this)
    all_goals first|refine AtT.zg ?_|refine AtT.ze ?_|(refine AtT.idxZ rfl ⟨_, _, rfl, rfl, rfl⟩ Tryz.underlying39 tk3 rfl rfl (by omega) (by decide) ?_)
    all_goals first|refine AtT.zg ?_|refine AtT.ze ?_|(refine AtT.loadO rfl ⟨_, _, rfl, rfl, rfl⟩ rfl tk3 zZ.zI hat (by decide) ?_)
    all_goals first|refine AtT.zg ?_|refine AtT.ze ?_|(refine AtT.zf ?_)
    all_goals first|refine AtT.zg ?_|refine AtT.ze ?_|(refine AtT.andN rfl ⟨_, _, rfl, rfl, rfl⟩ rfl rfl rfl rfl (by omega) (by omega) (by decide) (A := nrM (gdS s) (knL s) i (knL s).length) (B := k) ?_)
    all_goals first|refine AtT.zg ?_|refine AtT.ze ?_|(refine AtT.qK ?_)
    all_goals (rw [hdd])
    all_goals (refine AtT.zy ?_)
    all_goals (refine AtT.zh ?_)
    all_goals refine AtT.done ?_
    all_goals (refine At.nrm ?_)
    exact At.qf () rfl ⟨rfl, rfl, rfl, rfl, rfl, rfl, rfl, trivial⟩ Pt.zI
  rintro _ _ ks' O' rfl hk hO hl5
  subst hk hO
  refine At.nrm ?_
  refine At.zi (.q 0 (.q 1 (.q 2 .done))) ?_
  refine AtT.zf ?_
  first | refine AtT.qh ?_ | refine AtT.zT ?_
  refine AtT.zh ?_
  refine AtT.done ?_
  refine At.nrm ?_
  refine At.round (j + 1) ?_ ?_ ?_ ?_
  ·show lb.length - (j + 1) < lb.length - j; omega
  ·exact ⟨rfl, by omega⟩
  ·exact ⟨rfl, rfl, rfl, rfl, rfl, rfl, ivs (by omega), trivial⟩
  ·exact Pt.zI
 obtain rfl : j = lb.length := by omega
 have hall : (lb.all fun x => decide (nrM (gdS s) (knL s) x.toNat (knL s).length &&& k = 0)) = okS (shI (gdS s) (knL s)) lb := by
  rw [Bool.eq_iff_iff, hok2, List.all_eq_true]
  exact ⟨fun h x hx => of_decide_eq_true (h x hx), fun h x hx => decide_eq_true (h x hx)⟩
 rw [List.take_length, hall]
 refine At.nrm ?_
 refine At.jo (ι := Unit) (fun _ => [(3, iv (knL s).length), (4, .slice (some ⟨b16, 0, none⟩) (knL s).length (knL s).length), (7, .slice ao (alK (knL s).length (shI (gdS s) (knL s)) k).length co), (8, iv k), (9, .slice a52 lb.length c52), (91, .bool (decide (okS (shI (gdS s) (knL s)) lb = true ∧ ((alK (knL s).length (shI (gdS s) (knL s)) k).length < lb.length ∨ lb.length = (alK (knL s).length (shI (gdS s) (knL s)) k).length ∧ jy lb (alK (knL s).length (shI (gdS s) (knL s)) k) = true))))])
  (fun _ => [.blk b16 (LC (flat ei (nrL (gdS s) (knL s) (knL s).length 0)) 3)]) (fun _ V'' => V52 = V'') ?_ ?_
 ·cases h1 : okS (shI (gdS s) (knL s)) lb with
  | false =>
   refine At.zi (.q 0 (.q 1 (.q 2 (.q 3 (.q 4 (.q 5 (.q 6 (.q 7 (.q 8 (.q 9 (.q 10 (.q 11 (.q 12 (.q 13 (.q 14 (.q 15 (.n false 16 (.q 17 (.q 18 (.q 19 .done)))))))))))))))))))) ?_
   refine AtT.zf ?_
   refine AtT.zf ?_
   all_goals (first | refine AtT.kL 73 ?_ | refine AtT.zA (d := 73) rfl (fun hg73 => ?_) (fun hg73 => ?_) | refine AtT.zz (d := 73) rfl (fun hg73 => ?_) (fun hg73 => ?_))
   all_goals first|refine AtT.zg ?_|refine AtT.ze ?_|(refine AtT.zf ?_)
   all_goals first|refine AtT.zg ?_|refine AtT.ze ?_|(first | refine AtT.zU Tryz.underlying39 ?_ | refine AtT.zV Tryz.underlying39 ?_)
   all_goals first|refine AtT.zg ?_|refine AtT.ze ?_|(refine AtT.zf ?_)
   all_goals first|refine AtT.zg ?_|refine AtT.ze ?_|(first | refine AtT.zU Tryz.underlying39 ?_ | refine AtT.zV Tryz.underlying39 ?_)
   all_goals first|refine AtT.zg ?_|refine AtT.ze ?_|(refine AtT.qy ?_)
   all_goals first|refine AtT.zg ?_|refine AtT.ze ?_|(refine AtT.zf ?_)
   all_goals (first | refine AtT.kL 79 ?_ | refine AtT.zA (d := 79) rfl (fun hg79 => ?_) (fun hg79 => ?_) | refine AtT.zz (d := 79) rfl (fun hg79 => ?_) (fun hg79 => ?_))
   all_goals first|refine AtT.zg ?_|refine AtT.ze ?_|(refine AtT.zf ?_)
   all_goals first|refine AtT.zg ?_|refine AtT.ze ?_|(first | refine AtT.zU Tryz.underlying39 ?_ | refine AtT.zV Tryz.underlying39 ?_)
   all_goals first|refine AtT.zg ?_|refine AtT.ze ?_|(refine AtT.zf ?_)
   all_goals first|refine AtT.zg ?_|refine AtT.ze ?_|(first | refine AtT.zU Tryz.underlying39 ?_ | refine AtT.zV Tryz.underlying39 ?_)
   all_goals first|refine AtT.zg ?_|refine AtT.ze ?_|(refine AtT.qK ?_)
   all_goals first|refine AtT.zg ?_|refine AtT.ze ?_|(refine AtT.zf ?_)
   all_goals (first | refine AtT.kL 85 ?_ | refine AtT.zA (d := 85) rfl (fun hg85 => ?_) (fun hg85 => ?_) | refine AtT.zz (d := 85) rfl (fun hg85 => ?_) (fun hg85 => ?_))
   all_goals first|refine AtT.zg ?_|refine AtT.ze ?_|(refine AtT.zf ?_)
   all_goals first|refine AtT.zg ?_|refine AtT.ze ?_|(refine AtT.zf ?_)
   all_goals (first | refine AtT.zP ?_ | refine AtT.zJ ?_ | ((fail)))
   all_goals first|refine AtT.zg ?_|refine AtT.ze ?_|(refine AtT.zy ?_)
   all_goals first|refine AtT.zg ?_|refine AtT.ze ?_|(refine AtT.zy ?_)
   all_goals (refine AtT.zy ?_)
   all_goals refine AtT.done ?_
   all_goals (refine At.nrm ?_)
   exact At.qf () rfl ⟨rfl, rfl, rfl, rfl, rfl, bsome (by simp), trivial⟩ Pt.zI
  | true =>
   by_cases h2 : (alK (knL s).length (shI (gdS s) (knL s)) k).length < lb.length
   ·refine At.zi (.q 0 (.q 1 (.q 2 (.q 3 (.q 4 (.q 5 (.q 6 (.q 7 (.q 8 (.q 9 (.q 10 (.q 11 (.q 12 (.q 13 (.q 14 (.q 15 (.n false 16 (.q 17 (.q 18 (.q 19 .done)))))))))))))))))))) ?_
    refine AtT.zf ?_
    refine AtT.zf ?_
    all_goals (first | refine AtT.kL 73 ?_ | refine AtT.zA (d := 73) rfl (fun hg73 => ?_) (fun hg73 => ?_) | refine AtT.zz (d := 73) rfl (fun hg73 => ?_) (fun hg73 => ?_))
    all_goals first|refine AtT.zg ?_|refine AtT.ze ?_|(refine AtT.zf ?_)
    all_goals first|refine AtT.zg ?_|refine AtT.ze ?_|(first | refine AtT.zU Tryz.underlying39 ?_ | refine AtT.zV Tryz.underlying39 ?_)
    all_goals first|refine AtT.zg ?_|refine AtT.ze ?_|(refine AtT.zf ?_)
    all_goals first|refine AtT.zg ?_|refine AtT.ze ?_|(first | refine AtT.zU Tryz.underlying39 ?_ | refine AtT.zV Tryz.underlying39 ?_)
    all_goals first|refine AtT.zg ?_|refine AtT.ze ?_|(refine AtT.qy ?_)
    all_goals (refine AtT.qp (d := 78) rfl ((by omega)) ?_)
    all_goals first|refine AtT.zg ?_|refine AtT.ze ?_|(refine AtT.zf ?_)
    all_goals (first | refine AtT.kL 79 ?_ | refine AtT.zA (d := 79) rfl (fun hg79 => ?_) (fun hg79 => ?_) | refine AtT.zz (d := 79) rfl (fun hg79 => ?_) (fun hg79 => ?_))
    all_goals first|refine AtT.zg ?_|refine AtT.ze ?_|(refine AtT.zf ?_)
    all_goals first|refine AtT.zg ?_|refine AtT.ze ?_|(first | refine AtT.zU Tryz.underlying39 ?_ | refine AtT.zV Tryz.underlying39 ?_)
    all_goals first|refine AtT.zg ?_|refine AtT.ze ?_|(refine AtT.zf ?_)
    all_goals first|refine AtT.zg ?_|refine AtT.ze ?_|(first | refine AtT.zU Tryz.underlying39 ?_ | refine AtT.zV Tryz.underlying39 ?_)
    all_goals first|refine AtT.zg ?_|refine AtT.ze ?_|(refine AtT.qK ?_)
    all_goals first|refine AtT.zg ?_|refine AtT.ze ?_|(refine AtT.zf ?_)
    all_goals (first | refine AtT.kL 85 ?_ | refine AtT.zA (d := 85) rfl (fun hg85 => ?_) (fun hg85 => ?_) | refine AtT.zz (d := 85) rfl (fun hg85 => ?_) (fun hg85 => ?_))
    all_goals first|refine AtT.zg ?_|refine AtT.ze ?_|(refine AtT.zf ?_)
    all_goals first|refine AtT.zg ?_|refine AtT.ze ?_|(refine AtT.zf ?_)
    all_goals (first | refine AtT.zP ?_ | refine AtT.zJ ?_ | ((fail)))
    all_goals first|refine AtT.zg ?_|refine AtT.ze ?_|(refine AtT.zy ?_)
    all_goals first|refine AtT.zg ?_|refine AtT.ze ?_|(refine AtT.zy ?_)
    all_goals (refine AtT.zy ?_)
    all_goals refine AtT.done ?_
    all_goals (refine At.nrm ?_)
    exact At.qf () rfl ⟨rfl, rfl, rfl, rfl, rfl, bsome (by simp [h2]), trivial⟩ Pt.zI
   ·by_cases h3 : lb.length = (alK (knL s).length (shI (gdS s) (knL s)) k).length
    ·refine At.zi (.q 0 (.q 1 (.q 2 (.q 3 (.q 4 (.q 5 (.q 6 (.q 7 (.q 8 (.q 9 (.q 10 (.q 11 (.q 12 (.q 13 (.q 14 (.q 15 (.n false 16 (.q 17 (.q 18 (.q 19 .done)))))))))))))))))))) ?_
     refine AtT.zf ?_
     refine AtT.zf ?_
     all_goals (first | refine AtT.kL 73 ?_ | refine AtT.zA (d := 73) rfl (fun hg73 => ?_) (fun hg73 => ?_) | refine AtT.zz (d := 73) rfl (fun hg73 => ?_) (fun hg73 => ?_))
     all_goals first|refine AtT.zg ?_|refine AtT.ze ?_|(refine AtT.zf ?_)
     all_goals first|refine AtT.zg ?_|refine AtT.ze ?_|(first | refine AtT.zU Tryz.underlying39 ?_ | refine AtT.zV Tryz.underlying39 ?_)
     all_goals first|refine AtT.zg ?_|refine AtT.ze ?_|(refine AtT.zf ?_)
     all_goals first|refine AtT.zg ?_|refine AtT.ze ?_|(first | refine AtT.zU Tryz.underlying39 ?_ | refine AtT.zV Tryz.underlying39 ?_)
     all_goals first|refine AtT.zg ?_|refine AtT.ze ?_|(refine AtT.qy ?_)
     all_goals (refine AtT.qj (d := 78) rfl ((by omega)) ?_)
     all_goals first|refine AtT.zg ?_|refine AtT.ze ?_|(refine AtT.zf ?_)
     all_goals (first | refine AtT.kL 79 ?_ | refine AtT.zA (d := 79) rfl (fun hg79 => ?_) (fun hg79 => ?_) | refine AtT.zz (d := 79) rfl (fun hg79 => ?_) (fun hg79 => ?_))
     all_goals first|refine AtT.zg ?_|refine AtT.ze ?_|(refine AtT.zf ?_)
     all_goals first|refine AtT.zg ?_|refine AtT.ze ?_|(first | refine AtT.zU Tryz.underlying39 ?_ | refine AtT.zV Tryz.underlying39 ?_)
     all_goals first|refine AtT.zg ?_|refine AtT.ze ?_|(refine AtT.zf ?_)
     all_goals first|refine AtT.zg ?_|refine AtT.ze ?_|(first | refine AtT.zU Tryz.underlying39 ?_ | refine AtT.zV Tryz.underlying39 ?_)
     all_goals first|refine AtT.zg ?_|refine AtT.ze ?_|(refine AtT.qK ?_)
     all_goals (refine AtT.qp (d := 84) rfl ((by omega)) ?_)
     all_goals first|refine AtT.zg ?_|refine AtT.ze ?_|(refine AtT.zf ?_)
     all_goals (first | refine AtT.kL 85 ?_ | refine AtT.zA (d := 85) rfl (fun hg85 => ?_) (fun hg85 => ?_) | refine AtT.zz (d := 85) rfl (fun hg85 => ?_) (fun hg85 => ?_))
     all_goals first|refine AtT.zg ?_|refine AtT.ze ?_|(refine AtT.zf ?_)
     all_goals first|refine AtT.zg ?_|refine AtT.ze ?_|(refine AtT.zf ?_)
     all_goals (first | refine AtT.zP ?_ | refine AtT.zJ ?_ | ((refine AtT.zq rfl rfl ok96 (before_f lb (alK (knL s).length (shI (gdS s) (knL s)) k) _ _ _ hs52 hso3) ?_) ; (rintro _ rfl)))
     all_goals first|refine AtT.zg ?_|refine AtT.ze ?_|(refine AtT.zy ?_)
     all_goals first|refine AtT.zg ?_|refine AtT.ze ?_|(refine AtT.zy ?_)
     all_goals (refine AtT.zy ?_)
     all_goals refine AtT.done ?_
     all_goals (refine At.nrm ?_)
     exact At.qf () rfl ⟨rfl, rfl, rfl, rfl, rfl, bsome (by simp [h3]), trivial⟩ Pt.zI
    ·refine At.zi (.q 0 (.q 1 (.q 2 (.q 3 (.q 4 (.q 5 (.q 6 (.q 7 (.q 8 (.q 9 (.q 10 (.q 11 (.q 12 (.q 13 (.q 14 (.q 15 (.n false 16 (.q 17 (.q 18 (.q 19 .done)))))))))))))))))))) ?_
     refine AtT.zf ?_
     refine AtT.zf ?_
     all_goals (first | refine AtT.kL 73 ?_ | refine AtT.zA (d := 73) rfl (fun hg73 => ?_) (fun hg73 => ?_) | refine AtT.zz (d := 73) rfl (fun hg73 => ?_) (fun hg73 => ?_))
     all_goals first|refine AtT.zg ?_|refine AtT.ze ?_|(refine AtT.zf ?_)
     all_goals first|refine AtT.zg ?_|refine AtT.ze ?_|(first | refine AtT.zU Tryz.underlying39 ?_ | refine AtT.zV Tryz.underlying39 ?_)
     all_goals first|refine AtT.zg ?_|refine AtT.ze ?_|(refine AtT.zf ?_)
     all_goals first|refine AtT.zg ?_|refine AtT.ze ?_|(first | refine AtT.zU Tryz.underlying39 ?_ | refine AtT.zV Tryz.underlying39 ?_)
     all_goals first|refine AtT.zg ?_|refine AtT.ze ?_|(refine AtT.qy ?_)
     all_goals (refine AtT.qj (d := 78) rfl ((by omega)) ?_)
     all_goals first|refine AtT.zg ?_|refine AtT.ze ?_|(refine AtT.zf ?_)
     all_goals (first | refine AtT.kL 79 ?_ | refine AtT.zA (d := 79) rfl (fun hg79 => ?_) (fun hg79 => ?_) | refine AtT.zz (d := 79) rfl (fun hg79 => ?_) (fun hg79 => ?_))
     all_goals first|refine AtT.zg ?_|refine AtT.ze ?_|(refine AtT.zf ?_)
     all_goals first|refine AtT.zg ?_|refine AtT.ze ?_|(first | refine AtT.zU Tryz.underlying39 ?_ | refine AtT.zV Tryz.underlying39 ?_)
     all_goals first|refine AtT.zg ?_|refine AtT.ze ?_|(refine AtT.zf ?_)
     all_goals first|refine AtT.zg ?_|refine AtT.ze ?_|(first | refine AtT.zU Tryz.underlying39 ?_ | refine AtT.zV Tryz.underlying39 ?_)
     all_goals first|refine AtT.zg ?_|refine AtT.ze ?_|(refine AtT.qK ?_)
     all_goals (refine AtT.qj (d := 84) rfl ((by omega)) ?_)
     all_goals first|refine AtT.zg ?_|refine AtT.ze ?_|(refine AtT.zf ?_)
     all_goals (first | refine AtT.kL 85 ?_ | refine AtT.zA (d := 85) rfl (fun hg85 => ?_) (fun hg85 => ?_) | refine AtT.zz (d := 85) rfl (fun hg85 => ?_) (fun hg85 => ?_))
     all_goals first|refine AtT.zg ?_|refine AtT.ze ?_|(refine AtT.zf ?_)
     all_goals first|refine AtT.zg ?_|refine AtT.ze ?_|(refine AtT.zf ?_)
     all_goals (first | refine AtT.zP ?_ | refine AtT.zJ ?_ | ((fail)))
     all_goals first|refine AtT.zg ?_|refine AtT.ze ?_|(refine AtT.zy ?_)
     all_goals first|refine AtT.zg ?_|refine AtT.ze ?_|(refine AtT.zy ?_)
     all_goals (refine AtT.zy ?_)
     all_goals refine AtT.done ?_
     all_goals (refine At.nrm ?_)
     exact At.qf () rfl ⟨rfl, rfl, rfl, rfl, rfl, bsome (by simp [h2, h3]), trivial⟩ Pt.zI
 rintro _ _ ks' O' rfl hk2 hO hl5
 subst hk2 hO
 refine At.zX rfl (fun hc => ?_) (fun hc => ?_)
 ·rw [if_pos hc] at hstep
  refine At.nrm ?_
  refine At.zi (.q 0 (.q 1 .done)) ?_
  refine AtT.zf ?_
  refine AtT.zh ?_
  refine AtT.done ?_
  refine At.nrm ?_
  refine At.zi (.q 0 (.q 1 (.q 2 .done))) ?_
  refine AtT.zf ?_
  first | refine AtT.qh ?_ | refine AtT.zT ?_
  refine AtT.zh ?_
  refine AtT.done ?_
  refine At.nrm ?_
  refine At.round (k + 1, a52, c52) ?_ ?_ ?_ ?_
  ·show 2 ^ (knL s).length - (k + 1) < 2 ^ (knL s).length - k; omega
  ·exact ⟨hVV.trans hV52, by dsimp only; omega, by dsimp only; rw [hstep]; exact hs52⟩
  ·dsimp only; rw [hstep]; exact ⟨rfl, rfl, rfl, ivs (by omega), trivial⟩
  ·exact Pt.zI
 ·rw [if_neg hc] at hstep
  refine At.nrm ?_
  refine At.zi (.q 0 (.q 1 (.q 2 .done))) ?_
  refine AtT.zf ?_
  first | refine AtT.qh ?_ | refine AtT.zT ?_
  refine AtT.zh ?_
  refine AtT.done ?_
  refine At.nrm ?_
  refine At.round (k + 1, ao, co) ?_ ?_ ?_ ?_
  ·show 2 ^ (knL s).length - (k + 1) < 2 ^ (knL s).length - k; omega
  ·exact ⟨hVV.trans hV52, by dsimp only; omega, by dsimp only; rw [hstep]; exact hso3⟩
  ·dsimp only; rw [hstep]; exact ⟨rfl, rfl, rfl, ivs (by omega), trivial⟩
  ·exact Pt.zI
end Go.Proofs.YtghomjjffllkeaaGreatDoor
set_option linter.unusedVariables false
namespace Go.Bl
open Go.Gl Go.Lw
structure Pq where
 m : Int
 o : Int
 h : Int
 deriving DecidableEq
structure Tq where
 p : Pq
 f : Bool
abbrev stv (s : Nat) : Value := .agg #[iv (s : Int)]
def btL (l : List Int) : Nat := l.foldl (fun n i => n ||| 2 ^ i.toNat) 0
theorem btL_snoc (l : List Int) (i : Int) : btL (l ++ [i]) = btL l ||| 2 ^ i.toNat := by simp [btL, List.foldl_append]
theorem btF_bit {i : Nat} : ∀ (l : List Int) (n : Nat), (∀ x ∈ l, 0 ≤ x) → ((l.foldl (fun n i => n ||| 2 ^ i.toNat) n).testBit i = true ↔ n.testBit i = true ∨ (i : Int) ∈ l)
 | [], n, _ => by simp
 | x :: l, n, h => by
  have h0 := h x List.mem_cons_self
  rw [List.foldl_cons, btF_bit l _ fun y hy => h y (List.mem_cons_of_mem _ hy), Nat.testBit_or, Bool.or_eq_true, Nat.testBit_two_pow, decide_eq_true_eq, List.mem_cons]
  constructor
  ·rintro ((h1 | h1) | h1)
   ·exact .inl h1
   ·exact .inr (.inl (by omega))
   ·exact .inr (.inr h1)
  ·rintro (h1 | h1 | h1)
   ·exact .inl (.inl h1)
   ·exact .inl (.inr (by omega))
   ·exact .inr h1
theorem btL_bit {l : List Int} {i : Nat} (h : ∀ x ∈ l, 0 ≤ x) : (btL l).testBit i = true ↔ (i : Int) ∈ l := by
 unfold btL; rw [btF_bit l 0 h]; simp
theorem btL_lt {l : List Int} {n : Nat} (h : ∀ x ∈ l, 0 ≤ x ∧ x < (n : Int)) : btL l < 2 ^ n := by
 refine Nat.lt_pow_two_of_testBit _ fun i hi => ?_
 cases c : (btL l).testBit i with
 | false => rfl
 | true =>
  have := (btL_bit fun x hx => (h x hx).1).1 c
  have := h _ this; omega
end Go.Bl
set_option linter.unusedVariables false
namespace Go.Bl
open Go.Gl Go.Lw
theorem btL_take {l : List Int} {k : Nat} {x : Int} (h : l[k]? = some x) : btL (l.take (k + 1)) = btL (l.take k) ||| 2 ^ x.toNat := by rw [take_snoc' h, btL_snoc]
theorem bitL_btL {l : List Int} {n : Nat} (h : l.Pairwise (· < ·)) (hx : ∀ x ∈ l, 0 ≤ x ∧ x < (n : Int)) : qP (btL l) n = l := by
 refine sorted_ext (bitL_lt _ _) h fun x => ?_
 rw [ji]
 constructor
 ·rintro ⟨i, _, rfl, hb⟩; exact (btL_bit fun y hy => (hx y hy).1).1 hb
 ·intro hm
  have := hx x hm
  exact ⟨x.toNat, by omega, by omega, (btL_bit fun y hy => (hx y hy).1).2 (by rw [show ((x.toNat : Nat) : Int) = x by omega]; exact hm)⟩
end Go.Bl
set_option linter.unusedVariables false
namespace Go.Pm
open Go.Gl Go.Lw
def cAe (s : Sh) (l : List Int) : Int :=
 if chE s ≠ 0 then chE s else if lstB l (knL s).length = false then 3 else if okS (shI (gdS s) (knL s)) l = false then 16 else 0
def aloL (s : Sh) : List Int := alG (knL s).length (shI (gdS s) (knL s)) (knL s).length [] []
theorem okS_no {S : Int → Int → Bool} {l : List Int} {k : Nat} {x : Int} (h : l[k]? = some x) (hs : shS S (l.take k) x = true) : okS S l = false := by
 unfold okS
 rw [decide_eq_false_iff_not]
 intro hp
 unfold shS at hs
 obtain ⟨y, hy, hS⟩ := List.any_eq_true.1 hs
 obtain ⟨i, hi, rfl⟩ := List.mem_take_iff_getElem.1 hy
 have hkl := (List.getElem?_eq_some_iff.1 h).1
 have e : l[k] = x := (List.getElem?_eq_some_iff.1 h).2
 have := List.pairwise_iff_getElem.1 hp i k (by omega) hkl (by omega)
 rw [e, hS] at this; cases this
theorem okS_yes {S : Int → Int → Bool} {l : List Int} (h : ∀ k x, l[k]? = some x → shS S (l.take k) x = false) : okS S l = true := by
 unfold okS
 rw [decide_eq_true_eq, List.pairwise_iff_getElem]
 intro i j hi hj hij
 have := h j _ (List.getElem?_eq_getElem hj)
 unfold shS at this
 cases c : S l[i] l[j] with
 | false => rfl
 | true =>
  rw [List.any_eq_true.2 ⟨l[i], List.mem_take_iff_getElem.2 ⟨i, by omega, rfl⟩, c⟩] at this; cases this
theorem okS_bits {g : Gd} {K : List Cl} {b n : Nat} (hb : b < 2 ^ n) : okS (shI g K) (qP b n) = true ↔ ∀ i k, i < k → k < n → b.testBit i = true → b.testBit k = true → shN g K i k = false := by
 unfold okS
 rw [decide_eq_true_eq]
 have hlt := bitL_lt b n
 constructor
 ·intro hp i k hik hkn hi hk
  have mi : (i : Int) ∈ qP b n := ji.2 ⟨i, by omega, rfl, hi⟩
  have mk : (k : Int) ∈ qP b n := ji.2 ⟨k, hkn, rfl, hk⟩
  obtain ⟨u, hu, eu⟩ := List.getElem_of_mem mi
  obtain ⟨w, hw, ew⟩ := List.getElem_of_mem mk
  have huw : u < w := by
   apply Classical.byContradiction
   intro hc
   by_cases e : u = w
   ·subst e; rw [eu] at ew; omega
   ·have := List.pairwise_iff_getElem.1 hlt w u hw hu (by omega)
    rw [eu, ew] at this; omega
  have := List.pairwise_iff_getElem.1 hp u w hu hw huw
  rw [eu, ew] at this
  unfold shI at this
  rwa [Int.toNat_natCast, Int.toNat_natCast] at this
 ·intro h
  refine List.Pairwise.imp_of_mem (fun {x y} hx hy hxy => ?_) hlt
  obtain ⟨i, hi, rfl, hib⟩ := ji.1 hx
  obtain ⟨k, hk, rfl, hkb⟩ := ji.1 hy
  unfold shI
  rw [Int.toNat_natCast, Int.toNat_natCast]
  exact h i k (by omega) hk hib hkb
theorem okS_btL {g : Gd} {K : List Cl} {l : List Int} {n : Nat} (h : lstB l (n : Int) = true) : Bl.btL l < 2 ^ n ∧ qP (Bl.btL l) n = l := by
 obtain ⟨h1, h2⟩ := lstB_iff.1 h
 have hb := Bl.bitL_btL h1 h2
 refine ⟨?_, hb⟩
 exact Bl.btL_lt h2
end Go.Pm
set_option linter.unusedVariables false
namespace Go.Proofs.YtghomjjffllkeaaGreatDoor
open Go.Lw Go.Gl Go.Pm Go.RowKit
theorem aloneP_f (s : Sh) (V : View) (v : Value) (hv : ShV V v s) : Fnc Tryz.prog 28 [v] V fun r V' => ∃ u, r = .tuple #[u, iv (chE s)] ∧ SlI V' u (if chE s = 0 then aloL s else []) := by
 obtain ⟨a, c, rfl, hs⟩ := id hv
 refine qc Tryz.func28 rfl Tryz.ntmps28 (Nat.le_of_ble_eq_true rfl) ?_
 intro w0 hw0
 refine At.nrm ?_
 refine At.zi (.n false 0 (.q 1 (.q 2 .done))) ?_
 refine AtT.qV ?_
 intro b1
 refine AtT.zh ?_
 refine AtT.zh ?_
 refine AtT.done ?_
 refine At.nrm ?_
 by_cases h0 : chE s = 0
 rotate_left
 ·refine At.zi (.q 0 (.n false 1 (.q 2 (.q 3 (.q 4 (.q 5 (.q 6 .done))))))) ?_
  first | refine AtT.zu zx ?_ | refine AtT.zC zx ?_ | refine AtT.zt zx ?_
  refine AtT.qg rfl rfl ok57 (open_bad s h0 _ _ hv) ?_
  rintro v8 V8 hV8 rfl
  refine AtT.zf ?_
  refine AtT.zO ?_
  refine AtT.zO ?_
  refine AtT.zh ?_
  refine AtT.zh ?_
  refine AtT.done ?_
  refine At.nrm ?_
  refine At.nrm ?_
  refine At.zi (.q 0 (.q 1 .done)) ?_
  refine AtT.zf ?_
  refine AtT.qC ?_
  refine AtT.done ?_
  refine At.nrm ?_
  refine At.qB rfl (decide_eq_true h0) ?_
  refine At.nrm ?_
  refine At.zi (.q 0 (.q 1 (.q 2 .done))) ?_
  refine AtT.zf ?_
  refine AtT.zh ?_
  refine AtT.zh ?_
  refine AtT.done ?_
  refine At.nrm ?_
  exact At.jb rfl (.tmp rfl) (.tmp rfl) ⟨_, rfl, by rw [if_neg h0]; exact Sl.nil _ _ _⟩
 refine At.zi (.q 0 (.n false 1 (.q 2 (.q 3 (.q 4 (.q 5 (.q 6 .done))))))) ?_
 first | refine AtT.zu zx ?_ | refine AtT.zC zx ?_ | refine AtT.zt zx ?_
 refine AtT.qg rfl rfl ok57 (open_ok s h0 _ _ hv) ?_
 rintro v8 V8 hV8 ⟨b, rfl, hb⟩
 refine AtT.zf ?_
 refine AtT.zO ?_
 refine AtT.zO ?_
 refine AtT.zh ?_
 refine AtT.zh ?_
 refine AtT.done ?_
 refine At.nrm ?_
 refine At.nrm ?_
 refine At.zi (.q 0 (.q 1 .done)) ?_
 refine AtT.zf ?_
 refine AtT.qC ?_
 refine AtT.done ?_
 refine At.nrm ?_
 refine At.qE rfl rfl ?_
 refine At.nrm ?_
 refine At.zi (.q 0 (.n false 1 (.q 2 (.q 3 .done)))) ?_
 refine AtT.zf ?_
 refine AtT.qg rfl rfl ok64 (alone_f s (jl h0) b (knL s).length [] 0 _ _ (by omega) (by omega) (by simp) (fun i hi => by cases hi) hb (Sl.nil _ _ _)) ?_
 rintro v15 V15 hV15 hs15
 refine AtT.zh ?_
 refine AtT.zh ?_
 refine AtT.done ?_
 refine At.nrm ?_
 exact At.jb rfl (.tmp rfl) (.tmp rfl) ⟨_, by rw [h0], by rw [if_pos h0]; exact hs15⟩
theorem raloneP_f (s : Sh) (V : View) (v : Value) (hv : ShV V v s) : Fnc Tryz.prog 29 [v] V fun r V' => ∃ u, r = .tuple #[u, iv (chE s)] ∧ SlI V' u (if chE s = 0 then aloL s else []) := by
 obtain ⟨a, c, rfl, hs⟩ := id hv
 refine qc Tryz.func29 rfl Tryz.ntmps29 (Nat.le_of_ble_eq_true rfl) ?_
 intro w0 hw0
 refine At.nrm ?_
 refine At.zi (.n false 0 (.q 1 (.q 2 .done))) ?_
 refine AtT.qV ?_
 intro b1
 refine AtT.zh ?_
 refine AtT.zh ?_
 refine AtT.done ?_
 refine At.nrm ?_
 refine At.zi (.q 0 (.n false 1 (.q 2 .done))) ?_
 first | refine AtT.zu zx ?_ | refine AtT.zC zx ?_ | refine AtT.zt zx ?_
 refine AtT.zq rfl rfl ok20 (qJ s _ _ hv) ?_
 rintro _ rfl
 refine AtT.qC ?_
 refine AtT.done ?_
 refine At.nrm ?_
 refine At.zX rfl (fun h0 => ?_) (fun h0 => ?_)
 ·refine At.nrm ?_
  refine At.zi (.q 0 (.n false 1 (.q 2 (.q 3 .done)))) ?_
  first | refine AtT.zu zx ?_ | refine AtT.zC zx ?_ | refine AtT.zt zx ?_
  refine AtT.zq rfl rfl ok20 (qJ s _ _ hv) ?_
  rintro _ rfl
  refine AtT.zh ?_
  refine AtT.zh ?_
  refine AtT.done ?_
  refine At.nrm ?_
  exact At.jb rfl (.tmp rfl) (.tmp rfl) ⟨_, rfl, by rw [if_neg h0]; exact Sl.nil _ _ _⟩
 have h0' := Classical.not_not.1 h0
 refine At.nrm ?_
 refine At.zi (.q 0 (.n false 1 (.q 2 (.q 3 .done)))) ?_
 first | refine AtT.zu zx ?_ | refine AtT.zC zx ?_ | refine AtT.zt zx ?_
 refine AtT.qg rfl rfl ok65 (aloneOf_f s (jl h0') _ _ hv) ?_
 rintro v10 V10 hV10 hs10
 refine AtT.zh ?_
 refine AtT.zh ?_
 refine AtT.done ?_
 refine At.nrm ?_
 exact At.jb rfl (.tmp rfl) (.tmp rfl) ⟨_, by rw [h0'], by rw [if_pos h0']; unfold aloL; rw [al_same]; exact hs10⟩
theorem share2_f (s : Sh) (hok : jH s) (z x : Int) (hz : 0 ≤ z ∧ z < ((knL s).length : Int)) (hx : 0 ≤ x ∧ x < ((knL s).length : Int)) (V : View) (b : Nat) (p3 p8 : Addr) (hb : BnV V b s) (q3 : Cells V p3 [.func (.func 69) #[.pointer (some ⟨b, 0, none⟩)] #[]]) (q8 : Cells V p8 [iv x]) :
  Fnc Tryz.prog 71 ([] ++ [iv z] ++ [.pointer (some p3), .pointer (some p8)]) V fun r _ => r = .bool (shI (gdS s) (knL s) z x) := by
 obtain ⟨i, rfl⟩ : ∃ i : Nat, z = (i : Int) := ⟨z.toNat, by omega⟩
 obtain ⟨k, rfl⟩ : ∃ k : Nat, x = (k : Int) := ⟨x.toNat, by omega⟩
 have hf := fun V' (hV : Le V V') => share_f s hok i k (by omega) (by omega) V' b (hb.le hV)
 refine qc Tryz.func71 rfl Tryz.ntmps71 (Nat.le_of_ble_eq_true rfl) ?_
 intro w0 hw0
 refine At.nrm ?_
 refine At.zi (.q 0 .done) ?_
 refine AtT.zh ?_
 refine AtT.done ?_
 refine At.nrm ?_
 refine At.zi (.q 0 (.q 1 (.q 2 (.n false 3 (.q 4 .done))))) ?_
 first | refine AtT.zm tk102 ?_ | refine AtT.zo tk102 ?_
 refine AtT.zf ?_
 first | refine AtT.zm tk3 ?_ | refine AtT.zo tk3 ?_
 refine AtT.kcallV rfl rfl rfl ok69 (hf _ (Le.refl _)) ?_
 rintro _ rfl
 refine AtT.zh ?_
 refine AtT.done ?_
 refine At.nrm ?_
 exact At.qd rfl (.tmp rfl) (by unfold shI; rw [Int.toNat_natCast, Int.toNat_natCast])
theorem zD (s : Sh) (l : List Int) (V : View) (v u : Value) (hv : ShV V v s) (hl : SlI V u l) : Fnc Tryz.prog 32 [v, u] V fun r _ => r = iv (cAe s l) := by
 obtain ⟨a, c, rfl, hs⟩ := id hv
 obtain ⟨a1, c1, rfl, k1, k2, _⟩ := id hl
 clear k1 k2
 have hlen := hl.jq
 refine qc Tryz.func32 rfl Tryz.ntmps32 (Nat.le_of_ble_eq_true rfl) ?_
 intro w0 hw0
 refine At.nrm ?_
 refine At.zi (.n false 0 (.q 1 .done)) ?_
 refine AtT.qV ?_
 intro b2
 refine AtT.zh ?_
 refine AtT.done ?_
 refine At.nrm ?_
 by_cases h0 : chE s = 0
 rotate_left
 ·refine At.zi (.q 0 (.n false 1 (.q 2 (.q 3 (.q 4 (.q 5 (.q 6 .done))))))) ?_
  first | refine AtT.zu zx ?_ | refine AtT.zC zx ?_ | refine AtT.zt zx ?_
  refine AtT.qg rfl rfl ok57 (open_bad s h0 _ _ hv) ?_
  rintro v15 V15 hV15 rfl
  refine AtT.zf ?_
  refine AtT.zO ?_
  refine AtT.zO ?_
  refine AtT.zh ?_
  refine AtT.zh ?_
  refine AtT.done ?_
  refine At.nrm ?_
  refine At.nrm ?_
  refine At.zi (.q 0 (.q 1 .done)) ?_
  refine AtT.zf ?_
  refine AtT.qC ?_
  refine AtT.done ?_
  refine At.nrm ?_
  refine At.qB rfl (decide_eq_true h0) ?_
  refine At.nrm ?_
  refine At.zi (.q 0 (.q 1 .done)) ?_
  refine AtT.zf ?_
  refine AtT.zh ?_
  refine AtT.done ?_
  refine At.nrm ?_
  exact At.qd rfl (.tmp rfl) (by unfold cAe; rw [if_pos h0])
 have hok := jl h0
 have hkn := hok.kn
 have e0 : ¬ chE s ≠ 0 := by simpa using h0
 refine At.zi (.q 0 (.n false 1 (.q 2 (.q 3 (.q 4 (.q 5 (.q 6 .done))))))) ?_
 first | refine AtT.zu zx ?_ | refine AtT.zC zx ?_ | refine AtT.zt zx ?_
 refine AtT.qg rfl rfl ok57 (open_ok s h0 _ _ hv) ?_
 rintro v15 V15 hV15 ⟨b, rfl, hb⟩
 refine AtT.zf ?_
 refine AtT.zO ?_
 refine AtT.zO ?_
 refine AtT.zh ?_
 refine AtT.zh ?_
 refine AtT.done ?_
 refine At.nrm ?_
 obtain ⟨ab, cb, ak, ck, hc0, hc1, hc2, hc3, hsb, hsk⟩ := bn_get hb
 have hl2 := hl.le hV15
 refine At.nrm ?_
 refine At.zi (.q 0 (.q 1 .done)) ?_
 refine AtT.zf ?_
 refine AtT.qC ?_
 refine AtT.done ?_
 refine At.nrm ?_
 refine At.qE rfl rfl ?_
 refine At.nrm ?_
 refine At.zi (.q 0 .done) ?_
 refine AtT.zh ?_
 refine AtT.done ?_
 refine At.nrm ?_
 refine At.zi (.q 0 (.q 1 (.q 2 .done))) ?_
 refine AtT.zf ?_
 first | refine AtT.zU Tryz.underlying39 ?_ | refine AtT.zV Tryz.underlying39 ?_
 refine AtT.zf ?_
 refine AtT.done ?_
 refine At.nrm ?_
 refine At.lp (ι := Nat) (KS := fun k => [(1, .slice a1 l.length c1), (5, .pointer (some ⟨b, 0, none⟩)), (7, iv (prevN l k)), (21, .slice a1 l.length c1), (22, iv l.length), (23, iv k)]) (OS := fun _ => [])
  (VS := fun k V' => Le V15 V' ∧ k ≤ l.length ∧ ∀ j, j < k → okAt l (knL s).length j = true) (μ := fun k => l.length - k) 0 ?_ ?_ ?_ ?_
 ·exact ⟨rfl, rfl, rfl, rfl, rfl, rfl, trivial⟩
 ·exact Pt.zI
 ·exact ⟨Le.refl _, Nat.zero_le _, fun j hj => absurd hj (Nat.not_lt_zero j)⟩
 rintro k V' ks' O' ⟨hVV, hkl, hokk⟩ hk hO hl3
 subst hk hO
 have hp0 := prevN_pos hokk
 have hl3 := hl2.le hVV
 have hc2' := hc2.le hVV
 have hsk' := hsk.le hVV
 refine At.nrm ?_
 refine At.zi (.q 0 .done) ?_
 refine AtT.zY ?_
 refine AtT.done ?_
 refine At.nrm ?_
 refine At.zX rfl (fun hp => ?_) (fun hp => ?_)
 ·obtain ⟨x, hx⟩ : ∃ x, l[k]? = some x := ⟨_, List.getElem?_eq_getElem (by omega)⟩
  have hgx : l.getD k 0 = x := by simp [List.getD, hx]
  refine At.nrm ?_
  refine At.zi (.q 0 (.q 1 (.q 2 .done))) ?_
  refine AtT.qi Tryz.underlying39 tk3 ?_
  intro p25 e25 he25 hc25
  first | refine AtT.zm tk3 ?_ | refine AtT.zo tk3 ?_
  obtain rfl : x = e25 := by have : l[k]? = some e25 := (by simpa using he25); rw [hx] at this; simpa using this
  refine AtT.zh ?_
  refine AtT.done ?_
  refine At.nrm ?_
  by_cases c1' : prevN l k ≤ x ∧ x ≤ ((knL s).length : Int) - 1
  ·refine At.nrm ?_
   refine At.zi (.q 0 (.q 1 (.q 2 (.q 3 (.q 4 (.q 5 (.q 6 (.q 7 (.n false 8 (.n false 9 (.q 10 .done))))))))))) ?_
   refine AtT.zf ?_
   refine AtT.zf ?_
   refine AtT.knil ?_
   first | refine AtT.zk qG ?_ | with_reducible refine AtT.zl qG ?_ | refine AtT.zn qG ?_
   first | refine AtT.zm tk84 ?_ | refine AtT.zo tk84 ?_
   first | refine AtT.zU Tryz.underlying84 ?_ | refine AtT.zV Tryz.underlying84 ?_
   first | refine AtT.qz ?_ | refine AtT.qA ?_
   refine AtT.zf ?_
   refine AtT.zB (qb _) ?_
   intro q35 V35 hV35 hq35
   have g35 : Le V V35 := by first | exact hV35 | exact Le.trans (by assumption) hV35
   refine AtT.zq rfl rfl jG (qx (prevN l k) (((knL s).length : Int) - 1) [x] _ _ (Sl.lit hq35 rfl (by simp))) ?_
   rintro _ rfl; rw [jI, decide_eq_true c1']
   refine AtT.jh ?_
   refine AtT.done ?_
   refine At.nrm ?_
   refine At.qE rfl rfl ?_
   refine At.nrm ?_
   refine At.zi (.q 0 (.q 1 (.q 2 .done))) ?_
   refine AtT.zf ?_
   first | refine AtT.qh ?_ | refine AtT.zT ?_
   refine AtT.zh ?_
   refine AtT.done ?_
   refine At.nrm ?_
   refine At.zi (.q 0 (.q 1 .done)) ?_
   first | refine AtT.qh ?_ | refine AtT.zT ?_
   refine AtT.zf ?_
   refine AtT.done ?_
   refine At.nrm ?_
   refine At.round (k + 1) ?_ ?_ ?_ ?_
   ·show l.length - (k + 1) < l.length - k; omega
   ·refine ⟨hVV.trans (by assumption), by omega, fun j hj => ?_⟩
    by_cases hjk : j = k
    ·subst hjk; unfold okAt; rw [hgx]; exact decide_eq_true (by omega)
    ·exact hokk j (by omega)
   ·exact ⟨rfl, rfl, ivs (by simp only [prevN]; rw [hgx]), rfl, rfl, ivs (by omega), trivial⟩
   ·exact Pt.zI
  ·refine At.nrm ?_
   refine At.zi (.q 0 (.q 1 (.q 2 (.q 3 (.q 4 (.q 5 (.q 6 (.q 7 (.n false 8 (.n false 9 (.q 10 .done))))))))))) ?_
   refine AtT.zf ?_
   refine AtT.zf ?_
   refine AtT.knil ?_
   first | refine AtT.zk qG ?_ | with_reducible refine AtT.zl qG ?_ | refine AtT.zn qG ?_
   first | refine AtT.zm tk84 ?_ | refine AtT.zo tk84 ?_
   first | refine AtT.zU Tryz.underlying84 ?_ | refine AtT.zV Tryz.underlying84 ?_
   first | refine AtT.qz ?_ | refine AtT.qA ?_
   refine AtT.zf ?_
   refine AtT.zB (qb _) ?_
   intro q35 V35 hV35 hq35
   have g35 : Le V V35 := by first | exact hV35 | exact Le.trans (by assumption) hV35
   refine AtT.zq rfl rfl jG (qx (prevN l k) (((knL s).length : Int) - 1) [x] _ _ (Sl.lit hq35 rfl (by simp))) ?_
   rintro _ rfl; rw [jI, decide_eq_false c1']
   refine AtT.jh ?_
   refine AtT.done ?_
   refine At.nrm ?_
   refine At.qB rfl rfl ?_
   have hno : lstB l (knL s).length = false := lstB_false (k := k) (by omega) (by unfold okAt; rw [hgx]; exact decide_eq_false (by omega))
   refine At.nrm ?_
   refine At.zi (.q 0 .done) ?_
   refine AtT.zh ?_
   refine AtT.done ?_
   refine At.nrm ?_
   exact At.qd rfl (.tmp rfl) (by unfold cAe; rw [if_neg e0, if_pos hno])
 obtain rfl : k = l.length := by omega
 have hlst := lstB_true hokk
 have hin := lstB_in hlst
 have e1 : ¬ lstB l (knL s).length = false := by rw [hlst]; simp
 have hb2 := hb.le hVV
 refine At.nrm ?_
 refine At.zi (.q 0 (.q 1 (.n false 2 (.n true 3 .done)))) ?_
 refine AtT.zf ?_
 refine AtT.kfn ?_
 refine AtT.qw z102 ?_
 intro b10
 first | refine AtT.jk tk102 ?_ | refine AtT.zW tk102 ?_
 refine AtT.done ?_
 refine At.nrm ?_
 refine At.giveB (b := b10) zZ.zI (fun V2 hV2 hb10 => ?_)
 have q10 := qY hb10
 have hb3 := hb2.le hV2
 have hl4 := hl3.le hV2
 refine At.zi (.q 0 (.q 1 (.q 2 .done))) ?_
 refine AtT.zf ?_
 first | refine AtT.zU Tryz.underlying39 ?_ | refine AtT.zV Tryz.underlying39 ?_
 refine AtT.zf ?_
 refine AtT.done ?_
 refine At.nrm ?_
 refine At.lp (ι := Nat) (KS := fun k => [(1, .slice a1 l.length c1), (10, .pointer (some ⟨b10, 0, none⟩)), (43, .slice a1 l.length c1), (44, iv l.length), (45, iv k)]) (OS := fun _ => [])
  (VS := fun k V' => Le V2 V' ∧ k ≤ l.length ∧ ∀ j x, j < k → l[j]? = some x → shS (shI (gdS s) (knL s)) (l.take j) x = false) (μ := fun k => l.length - k) 0 ?_ ?_ ?_ ?_
 ·exact ⟨rfl, rfl, rfl, rfl, rfl, trivial⟩
 ·exact Pt.zI
 ·exact ⟨Le.refl _, Nat.zero_le _, fun j x hj => absurd hj (Nat.not_lt_zero j)⟩
 rintro k V3 ks' O' ⟨hV3, hkl, hall⟩ hk hO hl5
 subst hk hO
 have hl5 := hl4.le hV3
 refine At.nrm ?_
 refine At.zi (.q 0 .done) ?_
 refine AtT.zY ?_
 refine AtT.done ?_
 refine At.nrm ?_
 refine At.zX rfl (fun hp2 => ?_) (fun hp2 => ?_)
 rotate_left
 ·obtain rfl : k = l.length := by omega
  have hyes := okS_yes (S := shI (gdS s) (knL s)) (l := l) fun j x hj => hall j x (List.getElem?_eq_some_iff.1 hj).1 hj
  refine At.nrm ?_
  refine At.zi (.q 0 .done) ?_
  refine AtT.zh ?_
  refine AtT.done ?_
  refine At.nrm ?_
  exact At.qd rfl (.tmp rfl) (by unfold cAe; rw [if_neg e0, if_neg e1, if_neg (by rw [hyes]; simp)])
 obtain ⟨x, hx⟩ : ∃ x, l[k]? = some x := ⟨_, List.getElem?_eq_getElem (by omega)⟩
 have hxin := hin x (List.mem_of_getElem? hx)
 refine At.nrm ?_
 refine At.zi (.q 0 (.q 1 (.q 2 (.n false 3 (.q 4 (.n true 5 .done)))))) ?_
 refine AtT.zf ?_
 refine AtT.qi Tryz.underlying39 tk3 ?_
 intro p48 e48 he48 hc48
 first | refine AtT.zm tk3 ?_ | refine AtT.zo tk3 ?_
 obtain rfl : x = e48 := by have : l[k]? = some e48 := (by simpa using he48); rw [hx] at this; simpa using this
 refine AtT.qw z3 ?_
 intro b12
 refine AtT.zh ?_
 first | refine AtT.jk tk3 ?_ | refine AtT.zW tk3 ?_
 refine AtT.done ?_
 refine At.nrm ?_
 refine At.giveB (b := b12) zZ.zI (fun V4 hV4 hb12 => ?_)
 have q12 := qY hb12
 have hb5 := (hb3.le hV3).le hV4
 have q10' := (q10.le hV3).le hV4
 have hl6 := hl5.le hV4
 refine At.nrm ?_
 refine At.zi (.q 0 (.q 1 (.q 2 (.q 3 (.n false 4 .done))))) ?_
 refine AtT.zf ?_
 refine AtT.zf ?_
 refine AtT.khead Tryz.underlying39 tk3 ?_
 intro a52 c52 hs52
 refine AtT.kfn ?_
 refine AtT.zq rfl rfl ok70 (contains_n 71 [.pointer (some ⟨b10, 0, none⟩), .pointer (some ⟨b12, 0, none⟩)] (fun z => shI (gdS s) (knL s) z x) _ _ _ hs52 ok71 (fun z hz => share2_f s hok z x (hin z (List.mem_of_mem_take hz)) hxin _ b _ _ hb5 q10' q12)) ?_
 rintro _ rfl
 refine AtT.done ?_
 refine At.nrm ?_
 refine At.cond rfl (fun hc => ?_) (fun hc => ?_)
 ·have hno : okS (shI (gdS s) (knL s)) l = false := okS_no hx (by rw [Int.toNat_natCast] at hc; exact hc)
  refine At.nrm ?_
  refine At.zi (.q 0 .done) ?_
  refine AtT.zh ?_
  refine AtT.done ?_
  refine At.nrm ?_
  exact At.qd rfl (.tmp rfl) (by unfold cAe; rw [if_neg e0, if_neg e1, if_pos hno])
 ·refine At.nrm ?_
  refine At.zi (.q 0 (.q 1 .done)) ?_
  first | refine AtT.qh ?_ | refine AtT.zT ?_
  refine AtT.zf ?_
  refine AtT.done ?_
  refine At.nrm ?_
  refine At.round (k + 1) ?_ ?_ ?_ ?_
  ·show l.length - (k + 1) < l.length - k; omega
  ·refine ⟨hV3.trans hV4, by omega, fun j y hj hy => ?_⟩
   by_cases e : j = k
   ·subst e
    rw [hx] at hy; cases hy
    rw [Int.toNat_natCast] at hc; exact hc
   ·exact hall j y (by omega) hy
  ·exact ⟨rfl, rfl, rfl, rfl, ivs (by omega), trivial⟩
  ·exact Pt.zI
end Go.Proofs.YtghomjjffllkeaaGreatDoor
set_option linter.unusedVariables false
namespace Go.Proofs.YtghomjjffllkeaaGreatDoor
open Go.Lw Go.Gl Go.Pm Go.RowKit
theorem isAlone_f (s : Sh) (hok : jH s) (b : Nat) (hb : b < 2 ^ (knL s).length) (V : View) (v : Value) (hv : ShV V v s) : Fnc Tryz.prog 72 [v, iv b] V fun r _ => r = .bool (okS (shI (gdS s) (knL s)) (qP b (knL s).length)) := by
 obtain ⟨a, c, rfl, hs⟩ := id hv
 have n10 := hok.kn
 have hn6 := hok.n
 have hw6 := hok.w
 have hpow : 2 ^ (knL s).length ≤ 1024 := Nat.pow_le_pow_right (n := 2) (by decide) n10
 have hiff := okS_bits (g := gdS s) (K := knL s) hb
 have hshr : ∀ i, b >>> i < 9223372036854775808 := fun i => Nat.lt_of_le_of_lt (Nat.shiftRight_le _ _) (by omega)
 refine qc Tryz.func72 rfl Tryz.ntmps72 (Nat.le_of_ble_eq_true rfl) ?_
 intro w0 hw0
 refine At.nrm ?_
 refine At.zi (.n false 0 (.q 1 .done)) ?_
 refine AtT.qV ?_
 intro b2
 refine AtT.zh ?_
 refine AtT.done ?_
 refine At.nrm ?_
 refine At.zi (.q 0 (.n false 1 (.q 2 (.q 3 .done)))) ?_
 first | refine AtT.zu zx ?_ | refine AtT.zC zx ?_ | refine AtT.zt zx ?_
 refine AtT.qg rfl rfl ok44 (jr s (by omega) (fun r hr => by have := hok.sz r hr; omega) _ _ hv) ?_
 rintro v9 V9 hV9 hs9; obtain ⟨ak, ck, rfl, _⟩ := id hs9
 first | refine AtT.zU Tryz.underlying58 ?_ | refine AtT.zV Tryz.underlying58 ?_
 refine AtT.zh ?_
 refine AtT.done ?_
 refine At.nrm ?_
 have hv9 := hv.le hV9
 refine At.zi (.q 0 .done) ?_
 refine AtT.zh ?_
 refine AtT.done ?_
 refine At.nrm ?_
 refine At.lp (ι := Nat) (KS := fun i => [(1, iv b), (2, .pointer (some ⟨b2, 0, none⟩)), (5, iv (knL s).length), (6, iv i)]) (OS := fun _ => [.blk b2 (LC [.slice a s.rows.length c, iv s.most] 24)])
  (VS := fun i V' => V9 = V' ∧ i ≤ (knL s).length ∧ ∀ i' k', i' < i → i' < k' → k' < (knL s).length → b.testBit i' = true → b.testBit k' = true → shN (gdS s) (knL s) i' k' = false) (μ := fun i => (knL s).length - i) 0 ?_ ?_ ?_ ?_
 ·exact ⟨rfl, rfl, rfl, rfl, trivial⟩
 ·exact Pt.zI
 ·exact ⟨rfl, Nat.zero_le _, fun i' k' h => absurd h (Nat.not_lt_zero _)⟩
 rintro i _ ks' O' ⟨rfl, hil, hall⟩ hk hO hl2
 subst hk hO
 refine At.nrm ?_
 refine At.zi (.q 0 (.q 1 (.q 2 .done))) ?_
 refine AtT.zf ?_
 refine AtT.zf ?_
 refine AtT.zY ?_
 refine AtT.done ?_
 refine At.nrm ?_
 refine At.zX rfl (fun hp => ?_) (fun hp => ?_)
 rotate_left
 ·obtain rfl : i = (knL s).length := by omega
  have : okS (shI (gdS s) (knL s)) (qP b (knL s).length) = true := hiff.2 fun i k h1 h2 => hall i k (by omega) h1 h2
  rw [this]
  refine At.nrm ?_
  refine At.zi (.q 0 .done) ?_
  refine AtT.zh ?_
  refine AtT.done ?_
  refine At.nrm ?_
  exact At.qd rfl (.tmp rfl) rfl
 refine At.nrm ?_
 refine At.zi (.q 0 (.q 1 (.q 2 .done))) ?_
 refine AtT.zf ?_
 first | refine AtT.qh ?_ | refine AtT.zT ?_
 refine AtT.zh ?_
 refine AtT.done ?_
 refine At.nrm ?_
 refine At.lp (ι := Nat) (KS := fun k => [(1, iv b), (2, .pointer (some ⟨b2, 0, none⟩)), (5, iv (knL s).length), (6, iv i), (7, iv k)]) (OS := fun _ => [.blk b2 (LC [.slice a s.rows.length c, iv s.most] 24)])
  (VS := fun k V' => V9 = V' ∧ i < k ∧ k ≤ (knL s).length ∧ ∀ k', i < k' → k' < k → b.testBit i = true → b.testBit k' = true → shN (gdS s) (knL s) i k' = false) (μ := fun k => (knL s).length - k) (i + 1) ?_ ?_ ?_ ?_
 ·exact ⟨rfl, rfl, rfl, rfl, ivs (by omega), trivial⟩
 ·exact Pt.zI
 ·exact ⟨rfl, by omega, by omega, fun k' h1 h2 => by omega⟩
 rintro k _ ks' O' ⟨rfl, hik, hkl, hall2⟩ hk hO hl3
 subst hk hO
 refine At.nrm ?_
 refine At.zi (.q 0 (.q 1 (.q 2 .done))) ?_
 refine AtT.zf ?_
 refine AtT.zf ?_
 refine AtT.zY ?_
 refine AtT.done ?_
 refine At.nrm ?_
 refine At.zX rfl (fun hp2 => ?_) (fun hp2 => ?_)
 rotate_left
 ·obtain rfl : k = (knL s).length := by omega
  refine At.nrm ?_
  refine At.zi (.q 0 (.q 1 (.q 2 .done))) ?_
  refine AtT.zf ?_
  first | refine AtT.qh ?_ | refine AtT.zT ?_
  refine AtT.zh ?_
  refine AtT.done ?_
  refine At.nrm ?_
  refine At.round (i + 1) ?_ ?_ ?_ ?_
  ·show (knL s).length - (i + 1) < (knL s).length - i; omega
  ·refine ⟨rfl, by omega, fun i' k' h1 h2 h3 => ?_⟩
   by_cases e : i' = i
   ·subst e; exact hall2 k' h2 h3
   ·exact hall i' k' (by omega) h2 h3
  ·exact ⟨rfl, rfl, rfl, ivs (by omega), trivial⟩
  ·exact Pt.zI
 refine At.nrmB ?_
 by_cases hno : b.testBit i = true ∧ b.testBit k = true ∧ shN (gdS s) (knL s) i k = true
 ·obtain ⟨t1, t2, t3⟩ := hno
  have hfalse : okS (shI (gdS s) (knL s)) (qP b (knL s).length) = false := by
   cases h : okS (shI (gdS s) (knL s)) (qP b (knL s).length) with
   | false => rfl
   | true =>
    have := hiff.1 h i k hik (by omega) t1 t2
    rw [t3] at this; cases this
  rw [hfalse]
  refine At.nrm ?_
  refine At.zi (.q 0 (.q 1 (.q 2 (.q 3 (.q 4 (.q 5 (.q 6 (.q 7 (.q 8 (.q 9 (.q 10 (.q 11 (.q 12 (.q 13 (.q 14 (.q 15 (.n false 16 (.q 17 .done)))))))))))))))))) ?_
  refine AtT.zf ?_
  refine AtT.zf ?_
  refine AtT.shrN rfl trivial rfl rfl rfl rfl (by omega) (by decide) (A := b) (N := i) ?_
  refine AtT.andN rfl trivial rfl rfl rfl rfl (hshr i) (by decide) (by decide) (A := b >>> i) (B := 1) ?_
  refine AtT.qK ?_
  refine AtT.qp (d := 27) rfl (((jf b i).2 t1)) ?_
  refine AtT.zf ?_
  all_goals (first | refine AtT.kL 28 ?_ | refine AtT.zA (d := 28) rfl (fun hg28 => ?_) (fun hg28 => ?_) | refine AtT.zz (d := 28) rfl (fun hg28 => ?_) (fun hg28 => ?_))
  all_goals first|refine AtT.zg ?_|refine AtT.ze ?_|(refine AtT.zf ?_)
  all_goals first|refine AtT.zg ?_|refine AtT.ze ?_|(refine AtT.zf ?_)
  all_goals first|refine AtT.zg ?_|refine AtT.ze ?_|(refine AtT.shrN rfl ⟨_, _, rfl, rfl, rfl⟩ rfl rfl rfl rfl (by omega) (by decide) (A := b) (N := k) ?_)
  all_goals first|refine AtT.zg ?_|refine AtT.ze ?_|(refine AtT.andN rfl ⟨_, _, rfl, rfl, rfl⟩ rfl rfl rfl rfl (hshr k) (by decide) (by decide) (A := b >>> k) (B := 1) ?_)
  all_goals first|refine AtT.zg ?_|refine AtT.ze ?_|(refine AtT.qK ?_)
  all_goals (refine AtT.qp (d := 33) rfl (((jf b k).2 t2)) ?_)
  all_goals (refine AtT.zy ?_)
  all_goals (refine AtT.zf ?_)
  all_goals (first | refine AtT.kL 35 ?_ | refine AtT.zA (d := 35) rfl (fun hg35 => ?_) (fun hg35 => ?_) | refine AtT.zz (d := 35) rfl (fun hg35 => ?_) (fun hg35 => ?_))
  all_goals first|refine AtT.zg ?_|refine AtT.ze ?_|(first | refine AtT.zu zx ?_ | refine AtT.zC zx ?_ | refine AtT.zt zx ?_)
  all_goals first|refine AtT.zg ?_|refine AtT.ze ?_|(refine AtT.zf ?_)
  all_goals first|refine AtT.zg ?_|refine AtT.ze ?_|(refine AtT.zf ?_)
  all_goals (first | refine AtT.zP ?_ | refine AtT.zJ ?_ | ((refine AtT.zq rfl rfl ok95 (rshare_f s hok i k (by omega) (by omega) _ _ hv9) ?_) ; (rintro _ rfl; rw [t3])))
  all_goals (refine AtT.zy ?_)
  all_goals refine AtT.done ?_
  all_goals (refine At.nrm ?_)
  refine At.qB rfl rfl ?_
  refine At.nrm ?_
  refine At.zi (.q 0 .done) ?_
  refine AtT.zh ?_
  refine AtT.done ?_
  refine At.nrm ?_
  exact At.qd rfl (.tmp rfl) rfl
 refine At.jo (ι := Unit) (fun _ => [(1, iv b), (2, .pointer (some ⟨b2, 0, none⟩)), (5, iv (knL s).length), (6, iv i), (7, iv k)]) (fun _ => [.blk b2 (LC [.slice a s.rows.length c, iv s.most] 24)]) (fun _ V'' => V9 = V'') ?_ ?_
 ·cases t1 : b.testBit i with
  | false =>
   refine At.nrm ?_
   refine At.zi (.q 0 (.q 1 (.q 2 (.q 3 (.q 4 (.q 5 (.q 6 (.q 7 (.q 8 (.q 9 (.q 10 (.q 11 (.q 12 (.q 13 (.q 14 (.q 15 (.n false 16 (.q 17 .done)))))))))))))))))) ?_
   refine AtT.zf ?_
   refine AtT.zf ?_
   refine AtT.shrN rfl trivial rfl rfl rfl rfl (by omega) (by decide) (A := b) (N := i) ?_
   refine AtT.andN rfl trivial rfl rfl rfl rfl (hshr i) (by decide) (by decide) (A := b >>> i) (B := 1) ?_
   refine AtT.qK ?_
   refine AtT.qj (d := 27) rfl ((fun h => by rw [(jf b i).1 h] at t1; cases t1)) ?_
   refine AtT.zf ?_
   all_goals (first | refine AtT.kL 28 ?_ | refine AtT.zA (d := 28) rfl (fun hg28 => ?_) (fun hg28 => ?_) | refine AtT.zz (d := 28) rfl (fun hg28 => ?_) (fun hg28 => ?_))
   all_goals first|refine AtT.zg ?_|refine AtT.ze ?_|(refine AtT.zf ?_)
   all_goals first|refine AtT.zg ?_|refine AtT.ze ?_|(refine AtT.zf ?_)
   all_goals first|refine AtT.zg ?_|refine AtT.ze ?_|(fail)
   all_goals first|refine AtT.zg ?_|refine AtT.ze ?_|(fail)
   all_goals first|refine AtT.zg ?_|refine AtT.ze ?_|(refine AtT.qK ?_)
   all_goals (refine AtT.zy ?_)
   all_goals (refine AtT.zf ?_)
   all_goals (first | refine AtT.kL 35 ?_ | refine AtT.zA (d := 35) rfl (fun hg35 => ?_) (fun hg35 => ?_) | refine AtT.zz (d := 35) rfl (fun hg35 => ?_) (fun hg35 => ?_))
   all_goals first|refine AtT.zg ?_|refine AtT.ze ?_|(first | refine AtT.zu zx ?_ | refine AtT.zC zx ?_ | refine AtT.zt zx ?_)
   all_goals first|refine AtT.zg ?_|refine AtT.ze ?_|(refine AtT.zf ?_)
   all_goals first|refine AtT.zg ?_|refine AtT.ze ?_|(refine AtT.zf ?_)
   all_goals (first | refine AtT.zP ?_ | refine AtT.zJ ?_ | ((fail)))
   all_goals (refine AtT.zy ?_)
   all_goals refine AtT.done ?_
   all_goals (refine At.nrm ?_)
   refine At.qE rfl rfl ?_
   refine At.nrm ?_
   exact At.qf () rfl ⟨rfl, rfl, rfl, rfl, rfl, trivial⟩ Pt.zI
  | true =>
   cases t2 : b.testBit k with
   | false =>
    refine At.nrm ?_
    refine At.zi (.q 0 (.q 1 (.q 2 (.q 3 (.q 4 (.q 5 (.q 6 (.q 7 (.q 8 (.q 9 (.q 10 (.q 11 (.q 12 (.q 13 (.q 14 (.q 15 (.n false 16 (.q 17 .done)))))))))))))))))) ?_
    refine AtT.zf ?_
    refine AtT.zf ?_
    refine AtT.shrN rfl trivial rfl rfl rfl rfl (by omega) (by decide) (A := b) (N := i) ?_
    refine AtT.andN rfl trivial rfl rfl rfl rfl (hshr i) (by decide) (by decide) (A := b >>> i) (B := 1) ?_
    refine AtT.qK ?_
    refine AtT.qp (d := 27) rfl (((jf b i).2 t1)) ?_
    refine AtT.zf ?_
    all_goals (first | refine AtT.kL 28 ?_ | refine AtT.zA (d := 28) rfl (fun hg28 => ?_) (fun hg28 => ?_) | refine AtT.zz (d := 28) rfl (fun hg28 => ?_) (fun hg28 => ?_))
    all_goals first|refine AtT.zg ?_|refine AtT.ze ?_|(refine AtT.zf ?_)
    all_goals first|refine AtT.zg ?_|refine AtT.ze ?_|(refine AtT.zf ?_)
    all_goals first|refine AtT.zg ?_|refine AtT.ze ?_|(refine AtT.shrN rfl ⟨_, _, rfl, rfl, rfl⟩ rfl rfl rfl rfl (by omega) (by decide) (A := b) (N := k) ?_)
    all_goals first|refine AtT.zg ?_|refine AtT.ze ?_|(refine AtT.andN rfl ⟨_, _, rfl, rfl, rfl⟩ rfl rfl rfl rfl (hshr k) (by decide) (by decide) (A := b >>> k) (B := 1) ?_)
    all_goals first|refine AtT.zg ?_|refine AtT.ze ?_|(refine AtT.qK ?_)
    all_goals (refine AtT.qj (d := 33) rfl ((fun h => by rw [(jf b k).1 h] at t2; cases t2)) ?_)
    all_goals (refine AtT.zy ?_)
    all_goals (refine AtT.zf ?_)
    all_goals (first | refine AtT.kL 35 ?_ | refine AtT.zA (d := 35) rfl (fun hg35 => ?_) (fun hg35 => ?_) | refine AtT.zz (d := 35) rfl (fun hg35 => ?_) (fun hg35 => ?_))
    all_goals first|refine AtT.zg ?_|refine AtT.ze ?_|(first | refine AtT.zu zx ?_ | refine AtT.zC zx ?_ | refine AtT.zt zx ?_)
    all_goals first|refine AtT.zg ?_|refine AtT.ze ?_|(refine AtT.zf ?_)
    all_goals first|refine AtT.zg ?_|refine AtT.ze ?_|(refine AtT.zf ?_)
    all_goals (first | refine AtT.zP ?_ | refine AtT.zJ ?_ | ((fail)))
    all_goals (refine AtT.zy ?_)
    all_goals refine AtT.done ?_
    all_goals (refine At.nrm ?_)
    refine At.qE rfl rfl ?_
    refine At.nrm ?_
    exact At.qf () rfl ⟨rfl, rfl, rfl, rfl, rfl, trivial⟩ Pt.zI
   | true =>
    have t3 : shN (gdS s) (knL s) i k = false := by
     cases h : shN (gdS s) (knL s) i k with
     | false => rfl
     | true => exact absurd ⟨t1, t2, h⟩ hno
    refine At.nrm ?_
    refine At.zi (.q 0 (.q 1 (.q 2 (.q 3 (.q 4 (.q 5 (.q 6 (.q 7 (.q 8 (.q 9 (.q 10 (.q 11 (.q 12 (.q 13 (.q 14 (.q 15 (.n false 16 (.q 17 .done)))))))))))))))))) ?_
    refine AtT.zf ?_
    refine AtT.zf ?_
    refine AtT.shrN rfl trivial rfl rfl rfl rfl (by omega) (by decide) (A := b) (N := i) ?_
    refine AtT.andN rfl trivial rfl rfl rfl rfl (hshr i) (by decide) (by decide) (A := b >>> i) (B := 1) ?_
    refine AtT.qK ?_
    refine AtT.qp (d := 27) rfl (((jf b i).2 t1)) ?_
    refine AtT.zf ?_
    all_goals (first | refine AtT.kL 28 ?_ | refine AtT.zA (d := 28) rfl (fun hg28 => ?_) (fun hg28 => ?_) | refine AtT.zz (d := 28) rfl (fun hg28 => ?_) (fun hg28 => ?_))
    all_goals first|refine AtT.zg ?_|refine AtT.ze ?_|(refine AtT.zf ?_)
    all_goals first|refine AtT.zg ?_|refine AtT.ze ?_|(refine AtT.zf ?_)
    all_goals first|refine AtT.zg ?_|refine AtT.ze ?_|(refine AtT.shrN rfl ⟨_, _, rfl, rfl, rfl⟩ rfl rfl rfl rfl (by omega) (by decide) (A := b) (N := k) ?_)
    all_goals first|refine AtT.zg ?_|refine AtT.ze ?_|(refine AtT.andN rfl ⟨_, _, rfl, rfl, rfl⟩ rfl rfl rfl rfl (hshr k) (by decide) (by decide) (A := b >>> k) (B := 1) ?_)
    all_goals first|refine AtT.zg ?_|refine AtT.ze ?_|(refine AtT.qK ?_)
    all_goals (refine AtT.qp (d := 33) rfl (((jf b k).2 t2)) ?_)
    all_goals (refine AtT.zy ?_)
    all_goals (refine AtT.zf ?_)
    all_goals (first | refine AtT.kL 35 ?_ | refine AtT.zA (d := 35) rfl (fun hg35 => ?_) (fun hg35 => ?_) | refine AtT.zz (d := 35) rfl (fun hg35 => ?_) (fun hg35 => ?_))
    all_goals first|refine AtT.zg ?_|refine AtT.ze ?_|(first | refine AtT.zu zx ?_ | refine AtT.zC zx ?_ | refine AtT.zt zx ?_)
    all_goals first|refine AtT.zg ?_|refine AtT.ze ?_|(refine AtT.zf ?_)
    all_goals first|refine AtT.zg ?_|refine AtT.ze ?_|(refine AtT.zf ?_)
    all_goals (first | refine AtT.zP ?_ | refine AtT.zJ ?_ | ((refine AtT.zq rfl rfl ok95 (rshare_f s hok i k (by omega) (by omega) _ _ hv9) ?_) ; (rintro _ rfl; rw [t3])))
    all_goals (refine AtT.zy ?_)
    all_goals refine AtT.done ?_
    all_goals (refine At.nrm ?_)
    refine At.qE rfl rfl ?_
    refine At.nrm ?_
    exact At.qf () rfl ⟨rfl, rfl, rfl, rfl, rfl, trivial⟩ Pt.zI
 rintro _ _ ks' O' rfl hk hO hl4
 subst hk hO
 refine At.nrm ?_
 refine At.zi (.q 0 (.q 1 (.q 2 .done))) ?_
 refine AtT.zf ?_
 first | refine AtT.qh ?_ | refine AtT.zT ?_
 refine AtT.zh ?_
 refine AtT.done ?_
 refine At.nrm ?_
 refine At.round (k + 1) ?_ ?_ ?_ ?_
 ·show (knL s).length - (k + 1) < (knL s).length - k; omega
 ·refine ⟨rfl, by omega, by omega, fun k' h1 h2 t1 t2 => ?_⟩
  by_cases e : k' = k
  ·subst e
   cases h : shN (gdS s) (knL s) i k' with
   | false => rfl
   | true => exact absurd ⟨t1, t2, h⟩ hno
  ·exact hall2 k' h1 (by omega) t1 t2
 ·exact ⟨rfl, rfl, rfl, rfl, ivs (by omega), trivial⟩
 ·exact Pt.zI
theorem rcheckAlone_f (s : Sh) (l : List Int) (V : View) (v u : Value) (hv : ShV V v s) (hl : SlI V u l) : Fnc Tryz.prog 33 [v, u] V fun r _ => r = iv (cAe s l) := by
 obtain ⟨a, c, rfl, hs⟩ := id hv
 obtain ⟨a1, c1, rfl, k1, k2, _⟩ := id hl
 clear k1 k2
 have hlen := hl.jq
 refine qc Tryz.func33 rfl Tryz.ntmps33 (Nat.le_of_ble_eq_true rfl) ?_
 intro w0 hw0
 refine At.nrm ?_
 refine At.zi (.n false 0 (.q 1 .done)) ?_
 refine AtT.qV ?_
 intro b2
 refine AtT.zh ?_
 refine AtT.done ?_
 refine At.nrm ?_
 refine At.zi (.q 0 (.n false 1 (.q 2 .done))) ?_
 first | refine AtT.zu zx ?_ | refine AtT.zC zx ?_ | refine AtT.zt zx ?_
 refine AtT.zq rfl rfl ok20 (qJ s _ _ hv) ?_
 rintro _ rfl
 refine AtT.qC ?_
 refine AtT.done ?_
 refine At.nrm ?_
 refine At.zX rfl (fun h0 => ?_) (fun h0 => ?_)
 ·refine At.nrm ?_
  refine At.zi (.q 0 (.n false 1 (.q 2 .done))) ?_
  first | refine AtT.zu zx ?_ | refine AtT.zC zx ?_ | refine AtT.zt zx ?_
  refine AtT.zq rfl rfl ok20 (qJ s _ _ hv) ?_
  rintro _ rfl
  refine AtT.zh ?_
  refine AtT.done ?_
  refine At.nrm ?_
  exact At.qd rfl (.tmp rfl) (by unfold cAe; rw [if_pos h0])
 have h0' := Classical.not_not.1 h0
 have hok := jl h0'
 have n10 := hok.kn
 have hn6 := hok.n
 have hw6 := hok.w
 refine At.nrm ?_
 refine At.zi (.q 0 .done) ?_
 refine AtT.zh ?_
 refine AtT.done ?_
 refine At.nrm ?_
 refine At.zi (.q 0 .done) ?_
 refine AtT.zh ?_
 refine AtT.done ?_
 refine At.nrm ?_
 refine At.lp (ι := Nat) (KS := fun k => [(1, .slice a1 l.length c1), (2, .pointer (some ⟨b2, 0, none⟩)), (5, iv (Bl.btL (l.take k))), (6, iv k)]) (OS := fun _ => [.blk b2 (LC [.slice a s.rows.length c, iv s.most] 24)])
  (VS := fun k V' => Le V V' ∧ k ≤ l.length ∧ ∀ j, j < k → okAt l (knL s).length j = true) (μ := fun k => l.length - k) 0 ?_ ?_ ?_ ?_
 ·exact ⟨rfl, rfl, rfl, rfl, trivial⟩
 ·exact Pt.zI
 ·exact ⟨Le.refl _, Nat.zero_le _, fun j hj => absurd hj (Nat.not_lt_zero j)⟩
 rintro k V' ks' O' ⟨hVV, hkl, hokk⟩ hk hO hl3
 subst hk hO
 have hp0 := prevN_pos hokk
 have hl2 := hl.le hVV
 have hv2 := hv.le hVV
 refine At.nrm ?_
 refine At.zi (.q 0 (.q 1 (.q 2 (.q 3 .done)))) ?_
 refine AtT.zf ?_
 refine AtT.zf ?_
 first | refine AtT.zU Tryz.underlying39 ?_ | refine AtT.zV Tryz.underlying39 ?_
 refine AtT.zY ?_
 refine AtT.done ?_
 refine At.nrm ?_
 refine At.zX rfl (fun hp => ?_) (fun hp => ?_)
 rotate_left
 ·obtain rfl : k = l.length := by omega
  have hlst := lstB_true hokk
  obtain ⟨hbl, hbb⟩ := okS_btL (g := gdS s) (K := knL s) hlst
  have e1 : ¬ lstB l (knL s).length = false := by rw [hlst]; simp
  rw [List.take_length]
  refine At.nrm ?_
  refine At.zi (.q 0 (.q 1 (.n false 2 (.q 3 .done)))) ?_
  first | refine AtT.zu zx ?_ | refine AtT.zC zx ?_ | refine AtT.zt zx ?_
  refine AtT.zf ?_
  refine AtT.zq rfl rfl ok72 (isAlone_f s hok (Bl.btL l) hbl _ _ hv2) ?_
  rintro _ rfl; rw [hbb]
  refine AtT.jh ?_
  refine AtT.done ?_
  refine At.nrm ?_
  cases hoo : okS (shI (gdS s) (knL s)) l with
  | false =>
   refine At.qB rfl rfl ?_
   refine At.nrm ?_
   refine At.zi (.q 0 .done) ?_
   refine AtT.zh ?_
   refine AtT.done ?_
   refine At.nrm ?_
   exact At.qd rfl (.tmp rfl) (by unfold cAe; rw [if_neg h0, if_neg e1, if_pos hoo])
  | true =>
   refine At.qE rfl rfl ?_
   refine At.nrm ?_
   refine At.zi (.q 0 .done) ?_
   refine AtT.zh ?_
   refine AtT.done ?_
   refine At.nrm ?_
   exact At.qd rfl (.tmp rfl) (by unfold cAe; rw [if_neg h0, if_neg e1, if_neg (by rw [hoo]; simp)])
 obtain ⟨x, hx⟩ : ∃ x, l[k]? = some x := ⟨_, List.getElem?_eq_getElem (by omega)⟩
 have hgx : l.getD k 0 = x := by simp [List.getD, hx]
 refine At.nrm ?_
 refine At.jo (ι := Unit) (fun _ => [(1, .slice a1 l.length c1), (2, .pointer (some ⟨b2, 0, none⟩)), (5, iv (Bl.btL (l.take k))), (6, iv k), (48, .bool (!okAt l (knL s).length k))]) (fun _ => [.blk b2 (LC [.slice a s.rows.length c, iv s.most] 24)]) (fun _ V'' => Le V' V'') ?_ ?_
 ·have hX : ∀ e : Int, l[k]? = some e → e = x := fun e he => by rw [hx] at he; exact (Option.some.inj he).symm
  by_cases c1' : x < 0
  ·have hoa : okAt l (knL s).length k = false := by unfold okAt; rw [hgx]; exact decide_eq_false (by omega)
   rw [hoa]
   refine At.draw (.q 0 (.q 1 (.q 2 (.q 3 (.q 4 (.q 5 (.q 6 (.q 7 (.q 8 (.q 9 (.q 10 (.n false 11 (.q 12 (.q 13 (.q 14 (.q 15 (.q 16 (.q 17 (.q 18 (.q 19 (.q 20 (.q 21 (.q 22 (.q 23 (.q 24 (.q 25 (.q 26 (.q 27 (.q 28 (.q 29 (.q 30 .done))))))))))))))))))))))))))))))) ffm (by kernel_rfl) ?_
   refine AtT.zf ?_
   refine AtT.zf ?_
   refine AtT.qi Tryz.underlying39 tk3 ?_
   intro p20 e20 he20 hc20
   first | refine AtT.zm tk3 ?_ | refine AtT.zo tk3 ?_
   obtain rfl := hX e20 (by simpa using he20)
   refine AtT.zY ?_
   refine AtT.qp (d := 22) rfl (c1') ?_
   refine AtT.zf ?_
   all_goals (first | refine AtT.kL 23 ?_ | refine AtT.zA (d := 23) rfl (fun hg23 => ?_) (fun hg23 => ?_) | refine AtT.zz (d := 23) rfl (fun hg23 => ?_) (fun hg23 => ?_))
   all_goals first|refine AtT.zg ?_|refine AtT.ze ?_|(refine AtT.zf ?_)
   all_goals first|refine AtT.zg ?_|refine AtT.ze ?_|(refine AtT.zf ?_)
   all_goals first|refine AtT.zg ?_|refine AtT.ze ?_|(refine AtT.qi Tryz.underlying39 tk3 ?_) ; (intro p26 e26 he26 hc26)
   all_goals first|refine AtT.zg ?_|refine AtT.ze ?_|(first | refine AtT.zm tk3 ?_ | refine AtT.zo tk3 ?_)
   all_goals first|refine AtT.zg ?_|refine AtT.ze ?_|(first | refine AtT.zu zx ?_ | refine AtT.zC zx ?_ | refine AtT.zt zx ?_)
   all_goals (first | refine AtT.zP ?_ | refine AtT.zJ ?_ | ((fail)))
   all_goals first|refine AtT.zg ?_|refine AtT.ze ?_|(first | refine AtT.zU Tryz.underlying58 ?_ | refine AtT.zV Tryz.underlying58 ?_)
   all_goals first|refine AtT.zg ?_|refine AtT.ze ?_|(refine AtT.kgeq ?_)
   all_goals (refine AtT.zy ?_)
   all_goals (refine AtT.zf ?_)
   all_goals (first | refine AtT.kL 33 ?_ | refine AtT.zA (d := 33) rfl (fun hg33 => ?_) (fun hg33 => ?_) | refine AtT.zz (d := 33) rfl (fun hg33 => ?_) (fun hg33 => ?_))
   all_goals first|refine AtT.zg ?_|refine AtT.ze ?_|(refine AtT.zf ?_)
   all_goals first|refine AtT.zg ?_|refine AtT.ze ?_|(refine AtT.qy ?_)
   all_goals first|refine AtT.zg ?_|refine AtT.ze ?_|(refine AtT.zf ?_)
   all_goals (first | refine AtT.kL 36 ?_ | refine AtT.zA (d := 36) rfl (fun hg36 => ?_) (fun hg36 => ?_) | refine AtT.zz (d := 36) rfl (fun hg36 => ?_) (fun hg36 => ?_))
   all_goals first|refine AtT.zg ?_|refine AtT.ze ?_|(refine AtT.zf ?_)
   all_goals first|refine AtT.zg ?_|refine AtT.ze ?_|(refine AtT.zf ?_)
   all_goals first|refine AtT.zg ?_|refine AtT.ze ?_|(refine AtT.qi Tryz.underlying39 tk3 ?_) ; (intro p39 e39 he39 hc39)
   all_goals first|refine AtT.zg ?_|refine AtT.ze ?_|(first | refine AtT.zm tk3 ?_ | refine AtT.zo tk3 ?_)
   all_goals first|refine AtT.zg ?_|refine AtT.ze ?_|(refine AtT.zf ?_)
   all_goals first|refine AtT.zg ?_|refine AtT.ze ?_|(refine AtT.zf ?_)
   all_goals first|refine AtT.zg ?_|refine AtT.ze ?_|(first | refine AtT.qz ?_ | refine AtT.qA ?_)
   all_goals first|refine AtT.zg ?_|refine AtT.ze ?_|(refine AtT.qi Tryz.underlying39 tk3 ?_) ; (intro p44 e44 he44 hc44)
   all_goals first|refine AtT.zg ?_|refine AtT.ze ?_|(first | refine AtT.zm tk3 ?_ | refine AtT.zo tk3 ?_)
   all_goals first|refine AtT.zg ?_|refine AtT.ze ?_|(refine AtT.kleq ?_)
   all_goals first|refine AtT.zg ?_|refine AtT.ze ?_|(refine AtT.zy ?_)
   all_goals (refine AtT.zy ?_)
   all_goals refine AtT.done ?_
   all_goals (refine At.nrm ?_)
   all_goals (exact At.qf () (by first | exact Le.refl _ | assumption | exact Le.trans (by assumption) (by assumption)) ⟨rfl, rfl, rfl, rfl, rfl, trivial⟩ Pt.zI)
  by_cases c2' : ((knL s).length : Int) ≤ x
  ·have hoa : okAt l (knL s).length k = false := by unfold okAt; rw [hgx]; exact decide_eq_false (by omega)
   rw [hoa]
   refine At.draw (.q 0 (.q 1 (.q 2 (.q 3 (.q 4 (.q 5 (.q 6 (.q 7 (.q 8 (.q 9 (.q 10 (.n false 11 (.q 12 (.q 13 (.q 14 (.q 15 (.q 16 (.q 17 (.q 18 (.q 19 (.q 20 (.q 21 (.q 22 (.q 23 (.q 24 (.q 25 (.q 26 (.q 27 (.q 28 (.q 29 (.q 30 .done))))))))))))))))))))))))))))))) ffm (by kernel_rfl) ?_
   refine AtT.zf ?_
   refine AtT.zf ?_
   refine AtT.qi Tryz.underlying39 tk3 ?_
   intro p20 e20 he20 hc20
   first | refine AtT.zm tk3 ?_ | refine AtT.zo tk3 ?_
   obtain rfl := hX e20 (by simpa using he20)
   refine AtT.zY ?_
   refine AtT.qj (d := 22) rfl (c1') ?_
   refine AtT.zf ?_
   all_goals (first | refine AtT.kL 23 ?_ | refine AtT.zA (d := 23) rfl (fun hg23 => ?_) (fun hg23 => ?_) | refine AtT.zz (d := 23) rfl (fun hg23 => ?_) (fun hg23 => ?_))
   all_goals first|refine AtT.zg ?_|refine AtT.ze ?_|(refine AtT.zf ?_)
   all_goals first|refine AtT.zg ?_|refine AtT.ze ?_|(refine AtT.zf ?_)
   all_goals first|refine AtT.zg ?_|refine AtT.ze ?_|(refine AtT.qi Tryz.underlying39 tk3 ?_) ; (intro p26 e26 he26 hc26)
   all_goals first|refine AtT.zg ?_|refine AtT.ze ?_|(first | refine AtT.zm tk3 ?_ | refine AtT.zo tk3 ?_)
   all_goals (obtain rfl := hX e26 (by simpa using he26))
   all_goals first|refine AtT.zg ?_|refine AtT.ze ?_|(first | refine AtT.zu zx ?_ | refine AtT.zC zx ?_ | refine AtT.zt zx ?_)
   all_goals (first | refine AtT.zP ?_ | refine AtT.zJ ?_ | ((refine AtT.qg rfl rfl ok44 (jr s (by omega) (fun r hr => by have := hok.sz r hr; omega) _ _ hv2) ?_) ; (rintro v29 V29 hV29 hs29; obtain ⟨ak, ck, rfl, _⟩ := id hs29)))
   all_goals first|refine AtT.zg ?_|refine AtT.ze ?_|(first | refine AtT.zU Tryz.underlying58 ?_ | refine AtT.zV Tryz.underlying58 ?_)
   all_goals first|refine AtT.zg ?_|refine AtT.ze ?_|(refine AtT.kgeq ?_)
   all_goals (refine AtT.qp (d := 31) rfl ((by omega)) ?_)
   all_goals (refine AtT.zy ?_)
   all_goals (refine AtT.zf ?_)
   all_goals (first | refine AtT.kL 33 ?_ | refine AtT.zA (d := 33) rfl (fun hg33 => ?_) (fun hg33 => ?_) | refine AtT.zz (d := 33) rfl (fun hg33 => ?_) (fun hg33 => ?_))
   all_goals first|refine AtT.zg ?_|refine AtT.ze ?_|(refine AtT.zf ?_)
   all_goals first|refine AtT.zg ?_|refine AtT.ze ?_|(refine AtT.qy ?_)
   all_goals first|refine AtT.zg ?_|refine AtT.ze ?_|(refine AtT.zf ?_)
   all_goals (first | refine AtT.kL 36 ?_ | refine AtT.zA (d := 36) rfl (fun hg36 => ?_) (fun hg36 => ?_) | refine AtT.zz (d := 36) rfl (fun hg36 => ?_) (fun hg36 => ?_))
   all_goals first|refine AtT.zg ?_|refine AtT.ze ?_|(refine AtT.zf ?_)
   all_goals first|refine AtT.zg ?_|refine AtT.ze ?_|(refine AtT.zf ?_)
   all_goals first|refine AtT.zg ?_|refine AtT.ze ?_|(refine AtT.qi Tryz.underlying39 tk3 ?_) ; (intro p39 e39 he39 hc39)
   all_goals first|refine AtT.zg ?_|refine AtT.ze ?_|(first | refine AtT.zm tk3 ?_ | refine AtT.zo tk3 ?_)
   all_goals first|refine AtT.zg ?_|refine AtT.ze ?_|(refine AtT.zf ?_)
   all_goals first|refine AtT.zg ?_|refine AtT.ze ?_|(refine AtT.zf ?_)
   all_goals first|refine AtT.zg ?_|refine AtT.ze ?_|(first | refine AtT.qz ?_ | refine AtT.qA ?_)
   all_goals first|refine AtT.zg ?_|refine AtT.ze ?_|(refine AtT.qi Tryz.underlying39 tk3 ?_) ; (intro p44 e44 he44 hc44)
   all_goals first|refine AtT.zg ?_|refine AtT.ze ?_|(first | refine AtT.zm tk3 ?_ | refine AtT.zo tk3 ?_)
   all_goals first|refine AtT.zg ?_|refine AtT.ze ?_|(refine AtT.kleq ?_)
   all_goals first|refine AtT.zg ?_|refine AtT.ze ?_|(refine AtT.zy ?_)
   all_goals (refine AtT.zy ?_)
   all_goals refine AtT.done ?_
   all_goals (refine At.nrm ?_)
   all_goals (exact At.qf () (by first | exact Le.refl _ | assumption | exact Le.trans (by assumption) (by assumption)) ⟨rfl, rfl, rfl, rfl, rfl, trivial⟩ Pt.zI)
  by_cases c3' : k = 0
  ·subst c3'
   have hoa : okAt l (knL s).length 0 = true := by unfold okAt; rw [hgx]; simp only [prevN]; exact decide_eq_true (by omega)
   rw [hoa]
   refine At.draw (.q 0 (.q 1 (.q 2 (.q 3 (.q 4 (.q 5 (.q 6 (.q 7 (.q 8 (.q 9 (.q 10 (.n false 11 (.q 12 (.q 13 (.q 14 (.q 15 (.q 16 (.q 17 (.q 18 (.q 19 (.q 20 (.q 21 (.q 22 (.q 23 (.q 24 (.q 25 (.q 26 (.q 27 (.q 28 (.q 29 (.q 30 .done))))))))))))))))))))))))))))))) ffm (by kernel_rfl) ?_
   refine AtT.zf ?_
   refine AtT.zf ?_
   refine AtT.qi Tryz.underlying39 tk3 ?_
   intro p20 e20 he20 hc20
   first | refine AtT.zm tk3 ?_ | refine AtT.zo tk3 ?_
   obtain rfl := hX e20 (by simpa using he20)
   refine AtT.zY ?_
   refine AtT.qj (d := 22) rfl (c1') ?_
   refine AtT.zf ?_
   all_goals (first | refine AtT.kL 23 ?_ | refine AtT.zA (d := 23) rfl (fun hg23 => ?_) (fun hg23 => ?_) | refine AtT.zz (d := 23) rfl (fun hg23 => ?_) (fun hg23 => ?_))
   all_goals first|refine AtT.zg ?_|refine AtT.ze ?_|(refine AtT.zf ?_)
   all_goals first|refine AtT.zg ?_|refine AtT.ze ?_|(refine AtT.zf ?_)
   all_goals first|refine AtT.zg ?_|refine AtT.ze ?_|(refine AtT.qi Tryz.underlying39 tk3 ?_) ; (intro p26 e26 he26 hc26)
   all_goals first|refine AtT.zg ?_|refine AtT.ze ?_|(first | refine AtT.zm tk3 ?_ | refine AtT.zo tk3 ?_)
   all_goals (obtain rfl := hX e26 (by simpa using he26))
   all_goals first|refine AtT.zg ?_|refine AtT.ze ?_|(first | refine AtT.zu zx ?_ | refine AtT.zC zx ?_ | refine AtT.zt zx ?_)
   all_goals (first | refine AtT.zP ?_ | refine AtT.zJ ?_ | ((refine AtT.qg rfl rfl ok44 (jr s (by omega) (fun r hr => by have := hok.sz r hr; omega) _ _ hv2) ?_) ; (rintro v29 V29 hV29 hs29; obtain ⟨ak, ck, rfl, _⟩ := id hs29)))
   all_goals first|refine AtT.zg ?_|refine AtT.ze ?_|(first | refine AtT.zU Tryz.underlying58 ?_ | refine AtT.zV Tryz.underlying58 ?_)
   all_goals first|refine AtT.zg ?_|refine AtT.ze ?_|(refine AtT.kgeq ?_)
   all_goals (refine AtT.qj (d := 31) rfl ((by omega)) ?_)
   all_goals (refine AtT.zy ?_)
   all_goals (refine AtT.zf ?_)
   all_goals (first | refine AtT.kL 33 ?_ | refine AtT.zA (d := 33) rfl (fun hg33 => ?_) (fun hg33 => ?_) | refine AtT.zz (d := 33) rfl (fun hg33 => ?_) (fun hg33 => ?_))
   all_goals first|refine AtT.zg ?_|refine AtT.ze ?_|(refine AtT.zf ?_)
   all_goals first|refine AtT.zg ?_|refine AtT.ze ?_|(refine AtT.qy ?_)
   all_goals (refine AtT.qj (d := 35) rfl ((by omega)) ?_)
   all_goals first|refine AtT.zg ?_|refine AtT.ze ?_|(refine AtT.zf ?_)
   all_goals (first | refine AtT.kL 36 ?_ | refine AtT.zA (d := 36) rfl (fun hg36 => ?_) (fun hg36 => ?_) | refine AtT.zz (d := 36) rfl (fun hg36 => ?_) (fun hg36 => ?_))
   all_goals first|refine AtT.zg ?_|refine AtT.ze ?_|(refine AtT.zf ?_)
   all_goals first|refine AtT.zg ?_|refine AtT.ze ?_|(refine AtT.zf ?_)
   all_goals first|refine AtT.zg ?_|refine AtT.ze ?_|(refine AtT.qi Tryz.underlying39 tk3 ?_) ; (intro p39 e39 he39 hc39)
   all_goals first|refine AtT.zg ?_|refine AtT.ze ?_|(first | refine AtT.zm tk3 ?_ | refine AtT.zo tk3 ?_)
   all_goals first|refine AtT.zg ?_|refine AtT.ze ?_|(refine AtT.zf ?_)
   all_goals first|refine AtT.zg ?_|refine AtT.ze ?_|(refine AtT.zf ?_)
   all_goals first|refine AtT.zg ?_|refine AtT.ze ?_|(first | refine AtT.qz ?_ | refine AtT.qA ?_)
   all_goals first|refine AtT.zg ?_|refine AtT.ze ?_|(refine AtT.qi Tryz.underlying39 tk3 ?_) ; (intro p44 e44 he44 hc44)
   all_goals first|refine AtT.zg ?_|refine AtT.ze ?_|(first | refine AtT.zm tk3 ?_ | refine AtT.zo tk3 ?_)
   all_goals first|refine AtT.zg ?_|refine AtT.ze ?_|(refine AtT.kleq ?_)
   all_goals first|refine AtT.zg ?_|refine AtT.ze ?_|(refine AtT.zy ?_)
   all_goals (refine AtT.zy ?_)
   all_goals refine AtT.done ?_
   all_goals (refine At.nrm ?_)
   all_goals (exact At.qf () (by first | exact Le.refl _ | assumption | exact Le.trans (by assumption) (by assumption)) ⟨rfl, rfl, rfl, rfl, rfl, trivial⟩ Pt.zI)
  obtain ⟨m, rfl⟩ : ∃ m, k = m + 1 := ⟨k - 1, by omega⟩
  obtain ⟨y, hy⟩ : ∃ y, l[m]? = some y := ⟨_, List.getElem?_eq_getElem (by omega)⟩
  have hgy : l.getD m 0 = y := by simp [List.getD, hy]
  have hY : ∀ e : Int, l[m]? = some e → e = y := fun e he => by rw [hy] at he; exact (Option.some.inj he).symm
  have hmm : ((m + 1 : Nat) : Int) - 1 = (m : Int) := by omega
  have hoa : (!okAt l (knL s).length (m + 1)) = decide (x ≤ y) := by
   have hpv : prevN l (m + 1) = y + 1 := by simp only [prevN]; rw [hgy]
   unfold okAt
   rw [hgx, hpv]
   by_cases e : x ≤ y
   ·rw [decide_eq_true e, decide_eq_false (by omega)]; rfl
   ·rw [decide_eq_false e, decide_eq_true (by omega)]; rfl
  rw [hoa]
  refine At.draw (.q 0 (.q 1 (.q 2 (.q 3 (.q 4 (.q 5 (.q 6 (.q 7 (.q 8 (.q 9 (.q 10 (.n false 11 (.q 12 (.q 13 (.q 14 (.q 15 (.q 16 (.q 17 (.q 18 (.q 19 (.q 20 (.q 21 (.q 22 (.q 23 (.q 24 (.q 25 (.q 26 (.q 27 (.q 28 (.q 29 (.q 30 .done))))))))))))))))))))))))))))))) ffm (by kernel_rfl) ?_
  refine AtT.zf ?_
  refine AtT.zf ?_
  refine AtT.qi Tryz.underlying39 tk3 ?_
  intro p20 e20 he20 hc20
  first | refine AtT.zm tk3 ?_ | refine AtT.zo tk3 ?_
  obtain rfl := hX e20 (by simpa using he20)
  refine AtT.zY ?_
  refine AtT.qj (d := 22) rfl (c1') ?_
  refine AtT.zf ?_
  all_goals (first | refine AtT.kL 23 ?_ | refine AtT.zA (d := 23) rfl (fun hg23 => ?_) (fun hg23 => ?_) | refine AtT.zz (d := 23) rfl (fun hg23 => ?_) (fun hg23 => ?_))
  all_goals first|refine AtT.zg ?_|refine AtT.ze ?_|(refine AtT.zf ?_)
  all_goals first|refine AtT.zg ?_|refine AtT.ze ?_|(refine AtT.zf ?_)
  all_goals first|refine AtT.zg ?_|refine AtT.ze ?_|(refine AtT.qi Tryz.underlying39 tk3 ?_) ; (intro p26 e26 he26 hc26)
  all_goals first|refine AtT.zg ?_|refine AtT.ze ?_|(first | refine AtT.zm tk3 ?_ | refine AtT.zo tk3 ?_)
  all_goals (obtain rfl := hX e26 (by simpa using he26))
  all_goals first|refine AtT.zg ?_|refine AtT.ze ?_|(first | refine AtT.zu zx ?_ | refine AtT.zC zx ?_ | refine AtT.zt zx ?_)
  all_goals (first | refine AtT.zP ?_ | refine AtT.zJ ?_ | ((refine AtT.qg rfl rfl ok44 (jr s (by omega) (fun r hr => by have := hok.sz r hr; omega) _ _ hv2) ?_) ; (rintro v29 V29 hV29 hs29; obtain ⟨ak, ck, rfl, _⟩ := id hs29)))
  all_goals first|refine AtT.zg ?_|refine AtT.ze ?_|(first | refine AtT.zU Tryz.underlying58 ?_ | refine AtT.zV Tryz.underlying58 ?_)
  all_goals first|refine AtT.zg ?_|refine AtT.ze ?_|(refine AtT.kgeq ?_)
  all_goals (refine AtT.qj (d := 31) rfl ((by omega)) ?_)
  all_goals (refine AtT.zy ?_)
  all_goals (refine AtT.zf ?_)
  all_goals (first | refine AtT.kL 33 ?_ | refine AtT.zA (d := 33) rfl (fun hg33 => ?_) (fun hg33 => ?_) | refine AtT.zz (d := 33) rfl (fun hg33 => ?_) (fun hg33 => ?_))
  all_goals first|refine AtT.zg ?_|refine AtT.ze ?_|(refine AtT.zf ?_)
  all_goals first|refine AtT.zg ?_|refine AtT.ze ?_|(refine AtT.qy ?_)
  all_goals (refine AtT.qp (d := 35) rfl ((by omega)) ?_)
  all_goals first|refine AtT.zg ?_|refine AtT.ze ?_|(refine AtT.zf ?_)
  all_goals (first | refine AtT.kL 36 ?_ | refine AtT.zA (d := 36) rfl (fun hg36 => ?_) (fun hg36 => ?_) | refine AtT.zz (d := 36) rfl (fun hg36 => ?_) (fun hg36 => ?_))
  all_goals first|refine AtT.zg ?_|refine AtT.ze ?_|(refine AtT.zf ?_)
  all_goals first|refine AtT.zg ?_|refine AtT.ze ?_|(refine AtT.zf ?_)
  all_goals first|refine AtT.zg ?_|refine AtT.ze ?_|(refine AtT.qi Tryz.underlying39 tk3 ?_) ; (intro p39 e39 he39 hc39)
  all_goals first|refine AtT.zg ?_|refine AtT.ze ?_|(first | refine AtT.zm tk3 ?_ | refine AtT.zo tk3 ?_)
  all_goals (obtain rfl := hX e39 (by simpa using he39))
  all_goals first|refine AtT.zg ?_|refine AtT.ze ?_|(refine AtT.zf ?_)
  all_goals first|refine AtT.zg ?_|refine AtT.ze ?_|(refine AtT.zf ?_)
  all_goals first|refine AtT.zg ?_|refine AtT.ze ?_|(first | refine AtT.qz ?_ | refine AtT.qA ?_)
  all_goals (rw [hmm])
  all_goals first|refine AtT.zg ?_|refine AtT.ze ?_|(refine AtT.qi Tryz.underlying39 tk3 ?_) ; (intro p44 e44 he44 hc44)
  all_goals first|refine AtT.zg ?_|refine AtT.ze ?_|(first | refine AtT.zm tk3 ?_ | refine AtT.zo tk3 ?_)
  all_goals (obtain rfl := hY e44 (by simpa using he44))
  all_goals first|refine AtT.zg ?_|refine AtT.ze ?_|(refine AtT.kleq ?_)
  all_goals first|refine AtT.zg ?_|refine AtT.ze ?_|(refine AtT.zy ?_)
  all_goals (refine AtT.zy ?_)
  all_goals refine AtT.done ?_
  all_goals (refine At.nrm ?_)
  all_goals (exact At.qf () (by first | exact Le.refl _ | assumption | exact Le.trans (by assumption) (by assumption)) ⟨rfl, rfl, rfl, rfl, rfl, trivial⟩ Pt.zI)
 rintro _ V2 ks' O' hV2 hk hO hl4
 subst hk hO
 have hl3 := hl2.le hV2
 cases hoa : okAt l (knL s).length k with
 | false =>
  refine At.qB rfl rfl ?_
  have hno : lstB l (knL s).length = false := lstB_false (k := k) (by omega) hoa
  refine At.nrm ?_
  refine At.zi (.q 0 .done) ?_
  refine AtT.zh ?_
  refine AtT.done ?_
  refine At.nrm ?_
  exact At.qd rfl (.tmp rfl) (by unfold cAe; rw [if_neg h0, if_pos hno])
 | true =>
  refine At.qE rfl rfl ?_
  have hbd := hoa
  unfold okAt at hbd
  rw [hgx, decide_eq_true_eq] at hbd
  obtain ⟨i, rfl⟩ : ∃ i : Nat, x = (i : Int) := ⟨x.toNat, by omega⟩
  have hbt := Bl.btL_take hx
  rw [Int.toNat_natCast] at hbt
  have hpre : ∀ y ∈ l.take k, 0 ≤ y ∧ y < (((knL s).length : Nat) : Int) := fun y hy => by
   obtain ⟨j, hj, rfl⟩ := List.mem_take_iff_getElem.1 hy
   have h1 := hokk j (by omega)
   unfold okAt at h1
   rw [decide_eq_true_eq, show l.getD j 0 = l[j] by simp [List.getD, List.getElem?_eq_getElem (show j < l.length by omega)]] at h1
   omega
  have hlt := Bl.btL_lt hpre
  have hpow : 2 ^ (knL s).length ≤ 1024 := Nat.pow_le_pow_right (n := 2) (by decide) n10
  have hl1 : 2 ^ i < 2 ^ 10 := Nat.pow_lt_pow_right (by omega) (by omega)
  refine At.nrm ?_
  refine At.zi (.q 0 (.q 1 (.q 2 (.q 3 (.q 4 (.q 5 (.q 6 (.q 7 .done)))))))) ?_
  refine AtT.zf ?_
  refine AtT.zf ?_
  refine AtT.zf ?_
  refine AtT.qi Tryz.underlying39 tk3 ?_
  intro p52 e52 he52 hc52
  first | refine AtT.zm tk3 ?_ | refine AtT.zo tk3 ?_
  obtain rfl : (i : Int) = e52 := by have : l[k]? = some e52 := (by simpa using he52); rw [hx] at this; simpa using this
  refine AtT.shlN rfl trivial rfl rfl rfl (by omega) (by decide) (N := i) ?_
  refine AtT.orN rfl trivial rfl rfl rfl rfl (by omega) (by omega) (by decide) (A := Bl.btL (l.take k)) (B := 2 ^ i) ?_
  refine AtT.zh ?_
  refine AtT.done ?_
  refine At.nrm ?_
  refine At.nrm ?_
  refine At.zi (.q 0 (.q 1 (.q 2 .done))) ?_
  refine AtT.zf ?_
  first | refine AtT.qh ?_ | refine AtT.zT ?_
  refine AtT.zh ?_
  refine AtT.done ?_
  refine At.nrm ?_
  refine At.round (k + 1) ?_ ?_ ?_ ?_
  ·show l.length - (k + 1) < l.length - k; omega
  ·refine ⟨hVV.trans hV2, by omega, fun j hj => ?_⟩
   by_cases hjk : j = k
   ·subst hjk; exact hoa
   ·exact hokk j (by omega)
  ·rw [hbt]; exact ⟨rfl, rfl, rfl, ivs (by omega), trivial⟩
  ·exact Pt.zI
end Go.Proofs.YtghomjjffllkeaaGreatDoor
set_option linter.unusedVariables false
namespace Go.Proofs.YtghomjjffllkeaaGreatDoor
open Go.Lw Go.Gl Go.Pm Go.RowKit Go.Sort Go.Shelf
abbrev srtI (l : List Int) : List Int := l.mergeSort fun x y => decide (x ≤ y)
theorem sortI_f (l : List Int) (rest : List Value) (b cap : Nat) (w : World) (hb : w.heap[b]? = some (LC (flat ei l ++ rest) 3)) (hl : l.length < 4611686018427387904) :
  Calls Tryz.prog 100 #[.slice (some ⟨b, 0, none⟩) l.length cap] w fun e w' => e = .returned (.tuple #[]) ∧ w'.os = w.os ∧ w'.tape = w.tape ∧ w'.output = w.output ∧ w.heap.size ≤ w'.heap.size ∧ (∀ k, k < w.heap.size → k ≠ b → w'.heap[k]? = w.heap[k]?) ∧ w'.heap[b]? = some (LC (flat ei (srtI l) ++ rest) 3) := by
 have hbs : b < w.heap.size := (Array.getElem?_eq_some_iff.1 hb).1
 have hlen : (flat ei l).length = l.length * 1 := qX Lw.ei_len l
 have hH : Holds (Value.int .i64) w b 0 l.toArray := by
  intro j hj
  rw [List.size_toArray] at hj
  refine ⟨?_, ?_⟩
  ·rw [Nat.zero_add, cell_blk hb, List.getElem?_append_left (by rw [hlen]; omega), jK, List.getElem?_map, List.getElem?_eq_getElem hj, getElem!_pos _ _ (by simpa using hj)]
   simp
  ·simp [World.frozen?, hb, LC]
 refine (Any.slices_Sort_int lay_sort b 0 cap l w hH hbs hl).mono fun e w' ⟨he, n, os, hw⟩ => ?_
 have hsz : (srtI l).length = l.length := List.length_mergeSort l
 have hf1 : (flat ei (srtI l)).length = (srtI l).length * 1 := qX Lw.ei_len _
 subst hw
 refine ⟨he, rfl, rfl, rfl, ?_, fun k hk hkb => ?_, ?_⟩
 ·show w.heap.size ≤ ((w.heap.modify b _) ++ os).size
  simp
 ·show ((w.heap.modify b _) ++ os)[k]? = _
  rw [Array.getElem?_append_left (by simpa using hk), Array.getElem?_modify, if_neg (fun h => hkb h.symm)]
 ·show ((w.heap.modify b _) ++ os)[b]? = _
  rw [Array.getElem?_append_left (by simpa using hbs), Array.getElem?_modify, if_pos rfl, hb]
  simp only [Option.map_some, onCells, LC]
  congr 2
  apply Array.ext
  ·simp [putCells]; omega
  ·intro t h1 h2
   simp only [putCells, Array.size_mapIdx, List.size_toArray] at h1
   simp only [putCells, Array.getElem_mapIdx, Nat.zero_le, true_and, Nat.zero_add, List.size_toArray, Nat.sub_zero, id]
   by_cases c : t < (srtI l).length
   ·rw [if_pos c, getElem!_pos _ _ (by simpa using c)]
    simp only [List.getElem_toArray]
    rw [List.getElem_append_left (by omega)]
    simp [jK]
   ·rw [if_neg c]
    simp only [List.getElem_toArray]
    rw [List.getElem_append_right (by omega), List.getElem_append_right (by omega)]
    congr 1; omega
theorem srtI_perm (l : List Int) : (srtI l).Perm l := List.mergeSort_perm _ _
theorem srtI_sorted {l : List Int} (h : l.Nodup) : (srtI l).Pairwise (· < ·) := by
 have h1 : (srtI l).Pairwise (fun x y => decide (x ≤ y) = true) := List.pairwise_mergeSort (fun a b c h1 h2 => by simp only [decide_eq_true_eq] at *; omega) (fun a b => by simp only [Bool.or_eq_true, decide_eq_true_eq]; omega) l
 have h2 : (srtI l).Nodup := (srtI_perm l).nodup_iff.2 h
 refine (h1.and h2).imp fun {a b} hab => ?_
 have := of_decide_eq_true hab.1
 have := hab.2
 omega
theorem AtT.sortI {cx : Cx} {n : Nat} {ks : List (Nat × Value)} {O R : List Own} {V : View} {ops : Array Oper} {Qn : Act → World → Prop} {t : Tr} {i d : Nat} {T : TypeId} {pos : String} {after : Array Edge} {gd : Option (Nat × Bool)} {x : Operand} {ts : Array TypeId} {b cap : Nat} {l : List Int} {rest : List Value}
  (ho : ops[i]? = some ⟨some d, .call ⟨.value (.func 100), #[x], ts⟩, T, pos, after, gd⟩) (hg : Gd ks ops gd) (hx : ev ks x = some (.slice (some ⟨b, 0, none⟩) l.length cap)) (hl : l.length < 4611686018427387904) (hp : zZ (.blk b (LC (flat ei l ++ rest) 3)) O R) (hn : d < n)
  (next : AtT cx n ((d, .tuple #[]) :: ks) (.blk b (LC (flat ei (srtI l) ++ rest) 3) :: R) V Tryz.prog ops Qn t) : AtT cx n ks O V Tryz.prog ops Qn (.n true i t) :=
 .x ho hg fun a w hk hm => by
  have hm1 := hm.pick hp
  have e : (#[x] : Array Operand).map a.eval = #[.slice (some ⟨b, 0, none⟩) l.length cap] := by simp [hk.ev hx]
  have e2 : a.eval (.func 100) = .func (.func 100) #[] #[] := rfl
  simp only [opW, execOp, resolve, e, e2, Deferred.ofValue, Sem.run_bind, Sem.run_pure, Result.andThen_ok, invoke, Array.empty_append, Array.append_empty]
  rw [ok100 _ w]
  refine (sortI_f l rest b cap w hm1.blk hl).mono fun e w' ⟨h0, h3, h4, h5, h6, h7, h8⟩ => ?_
  subst h0
  have hm2 := hm1.set (w' := w') ⟨h3, h4, h5, h6, fun k hk hne => h7 k hk (fun e => hne (by rw [e]))⟩ h8
  exact ⟨_, _, V, hk.put hn _, hm2, fun h => (by cases h), next⟩
theorem containsI_f (l : List Int) (x : Int) (V : View) (v : Value) (hs : SlI V v l) : Fnc Tryz.prog 99 [v, iv x] V fun r _ => r = .bool (l.any (· == x)) := by
 have hlen := hs.jq
 obtain ⟨a, c, rfl, k1, k2, _⟩ := id hs
 clear k1 k2
 have hix : decide (0 ≤ ixI (l.findIdx? (· == x))) = l.any (· == x) := by
  cases h : l.findIdx? (· == x) with
  | none =>
   rw [List.findIdx?_eq_none_iff] at h
   have : l.any (· == x) = false := List.any_eq_false.2 fun y hy => by rw [h y hy]; simp
   rw [this]; rfl
  | some j =>
   obtain ⟨hj, hp, _⟩ := List.findIdx?_eq_some_iff_getElem.1 h
   have : l.any (· == x) = true := List.any_eq_true.2 ⟨_, List.getElem_mem hj, hp⟩
   rw [this]
   exact decide_eq_true (Int.natCast_nonneg _)
 refine qc Tryz.func99 rfl Tryz.ntmps99 (Nat.le_of_ble_eq_true rfl) ?_
 intro w0 hw0
 refine At.nrm ?_
 refine At.zi (.q 0 .done) ?_
 refine AtT.zh ?_
 refine AtT.done ?_
 refine At.nrm ?_
 refine At.zi (.q 0 (.q 1 (.n false 2 (.q 3 (.q 4 .done))))) ?_
 refine AtT.zf ?_
 refine AtT.zf ?_
 refine AtT.zq rfl rfl ok125 (indexI_f l x _ _ hs) ?_
 rintro _ rfl
 refine AtT.kgeq ?_
 refine AtT.zh ?_
 refine AtT.done ?_
 refine At.nrm ?_
 exact At.qd rfl (.tmp rfl) (by rw [← hix])
end Go.Proofs.YtghomjjffllkeaaGreatDoor
set_option linter.unusedVariables false
namespace Go.Pm
open Go.Gl Go.Lw
structure Gat (N : Nat) (S : Nat → Nat → Bool) (i : Nat) (P : List Int) : Prop where
 fst : (i : Int) ∈ P
 nd : P.Nodup
 rch : ∀ x ∈ P, ∃ k : Nat, x = (k : Int) ∧ k < N ∧ Rch N S i k
theorem gat_start {N : Nat} {S : Nat → Nat → Bool} {i : Nat} (hi : i < N) : Gat N S i [(i : Int)] := ⟨by simp, by simp, fun x hx => by
 rw [List.mem_singleton] at hx; exact ⟨i, hx, hi, .refl⟩⟩
theorem gat_len {N : Nat} {S : Nat → Nat → Bool} {i : Nat} {P : List Int} (h : Gat N S i P) : P.length ≤ N := by
 have h1 : (P.map Int.toNat).Nodup := by
  refine List.pairwise_map.2 (h.nd.imp_of_mem fun {a b} ha hb hne e => ?_)
  obtain ⟨k, rfl, _, _⟩ := h.rch a ha
  obtain ⟨m, rfl, _, _⟩ := h.rch b hb
  rw [Int.toNat_natCast, Int.toNat_natCast] at e
  exact hne (by rw [e])
 have := nodup_lt h1 (n := N) fun x hx => by
  obtain ⟨y, hy, rfl⟩ := List.mem_map.1 hx
  obtain ⟨k, rfl, hk, _⟩ := h.rch y hy
  rwa [Int.toNat_natCast]
 rwa [List.length_map] at this
theorem gat_add {N : Nat} {S : Nat → Nat → Bool} {i j k : Nat} {P : List Int} (h : Gat N S i P) (hj : (j : Int) ∈ P) (hk : k < N) (hS : S j k = true) (hn : (k : Int) ∉ P) : Gat N S i (P ++ [(k : Int)]) := by
 refine ⟨List.mem_append_left _ h.fst, List.nodup_append.2 ⟨h.nd, by simp, fun a ha b hb e => ?_⟩, fun x hx => ?_⟩
 ·rw [List.mem_singleton] at hb
  subst hb; subst e; exact hn ha
 ·rcases List.mem_append.1 hx with hx | hx
  ·exact h.rch x hx
  ·rw [List.mem_singleton] at hx
   obtain ⟨j', e, hj', hr⟩ := h.rch _ hj
   have : j' = j := by omega
   subst this
   exact ⟨k, hx, hk, .step hr hk hS⟩
def Cls (N : Nat) (S : Nat → Nat → Bool) (P : List Int) (j : Nat) : Prop := ∀ (u : Nat) (a : Nat), u < j → P[u]? = some (a : Int) → ∀ k, k < N → S a k = true → (k : Int) ∈ P
theorem cls_add {N : Nat} {S : Nat → Nat → Bool} {P : List Int} {j : Nat} {x : Int} (h : Cls N S P j) (hj : j ≤ P.length) : Cls N S (P ++ [x]) j := fun u a hu ha k hk hs => by
 rw [List.getElem?_append_left (by omega)] at ha
 exact List.mem_append_left _ (h u a hu ha k hk hs)
theorem gat_end {N : Nat} {S : Nat → Nat → Bool} {i : Nat} {P : List Int} (hi : i < N) (h : Gat N S i P) (hc : Cls N S P P.length) {l : List Int} (hp : l.Perm P) (hs : l.Pairwise (· < ·)) : IsPart N S i l := by
 refine ⟨hs, fun x => ⟨fun hx => ?_, ?_⟩⟩
 ·obtain ⟨k, e, _, hr⟩ := h.rch x (hp.mem_iff.1 hx)
  exact ⟨k, e, hr⟩
 ·rintro ⟨k, rfl, hr⟩
  rw [hp.mem_iff]
  induction hr with
  | refl => exact h.fst
  | step h1 hk hS ih =>
   obtain ⟨u, hu⟩ := List.getElem?_of_mem ih
   exact hc u _ (List.getElem?_eq_some_iff.1 hu).1 hu _ hk hS
end Go.Pm
set_option linter.unusedVariables false
namespace Go.Pm
open Go.Gl Go.Lw
theorem sl_det {V : View} {v : Value} {l m : List Int} (h : SlI V v l) (k : SlI V v m) : l = m := by
 obtain ⟨a, c, rfl, _, _, ha, hc⟩ := h
 obtain ⟨a', c', e, _, _, ha', hc'⟩ := k
 have e1 : a = a' := by injection e
 have e2 : l.length = m.length := by injection e
 subst e1
 apply List.ext_getElem e2
 intro i h1 h2
 have hne : l ≠ [] := fun h => by rw [h] at h1; simp at h1
 obtain ⟨p, rfl⟩ := Option.isSome_iff_exists.1 (ha hne)
 have x1 := hc p rfl i l[i] (List.getElem?_eq_getElem h1) 0 _ rfl
 have x2 := hc' p rfl i m[i] (List.getElem?_eq_getElem h2) 0 _ rfl
 rw [x1] at x2
 have x3 := Option.some.inj x2
 injection x3
end Go.Pm
namespace Go.Proofs.YtghomjjffllkeaaGreatDoor
open Go.Lw Go.Gl Go.Pm Go.RowKit Go.Sort
abbrev tvl (q : Option Addr × Nat × Nat) : Value := .slice q.1 q.2.1 q.2.2
theorem sl_vle {V : View} {v : Value} {qs : List (Option Addr × Nat × Nat)} (h : Sl V sle 1 v qs) : Sl V vle 1 v (qs.map tvl) := by
 obtain ⟨a, c, rfl, h1, h2, h3, h4⟩ := h
 refine ⟨a, c, by rw [List.length_map], by rw [List.length_map]; exact h1, h2, fun hn => h3 fun e => hn (by rw [e]; rfl), fun p hp i x hx => ?_⟩
 rw [List.getElem?_map] at hx
 cases hq : qs[i]? with
 | none => rw [hq] at hx; cases hx
 | some q =>
  rw [hq] at hx
  obtain rfl := Option.some.inj hx
  exact h4 p hp i q hq
noncomputable def inV (V : View) (i : Int) (x : Value) : Bool := @decide (∃ l, SlI V x l ∧ i ∈ l) (Classical.propDecidable _)
theorem inV_of {V : View} {i : Int} {x : Value} {l : List Int} (h : SlI V x l) : inV V i x = l.any (· == i) := by
 unfold inV
 cases c : l.any (· == i) with
 | true =>
  obtain ⟨y, hy, e⟩ := List.any_eq_true.1 c
  have e : y = i := by simpa using e
  subst e
  exact @decide_eq_true _ (Classical.propDecidable _) ⟨l, h, hy⟩
 | false =>
  refine @decide_eq_false _ (Classical.propDecidable _) ?_
  rintro ⟨m, hm, him⟩
  have := sl_det hm h
  subst this
  rw [List.any_eq_true.2 ⟨i, him, by simp⟩] at c; cases c
theorem inV_any {V : View} {i : Int} {qs : List (Option Addr × Nat × Nat)} {ll : List (List Int)} (hlen : qs.length = ll.length) (h : ∀ (j : Nat) (q : Option Addr × Nat × Nat) (l : List Int), qs[j]? = some q → ll[j]? = some l → SlI V (.slice q.1 q.2.1 q.2.2) l) : (qs.map tvl).any (inV V i) = true ↔ ∃ l ∈ ll, i ∈ l := by
 rw [List.any_eq_true]
 constructor
 ·rintro ⟨x, hx, hi⟩
  obtain ⟨q, hq, rfl⟩ := List.mem_map.1 hx
  obtain ⟨j, hj⟩ := List.getElem?_of_mem hq
  have hjl := (List.getElem?_eq_some_iff.1 hj).1
  have hl : ll[j]? = some (ll[j]'(by omega)) := List.getElem?_eq_getElem (by omega)
  have hs := h j q _ hj hl
  rw [inV_of hs] at hi
  obtain ⟨y, hy, e⟩ := List.any_eq_true.1 hi
  have e : y = i := by simpa using e
  subst e
  exact ⟨_, List.mem_of_getElem? hl, hy⟩
 ·rintro ⟨l, hl, hi⟩
  obtain ⟨j, hj⟩ := List.getElem?_of_mem hl
  have hjl := (List.getElem?_eq_some_iff.1 hj).1
  have hq : qs[j]? = some (qs[j]'(by omega)) := List.getElem?_eq_getElem (by omega)
  have hs := h j _ l hq hj
  exact ⟨tvl (qs[j]'(by omega)), List.mem_map_of_mem (List.mem_of_getElem? hq), by rw [inV_of hs]; exact List.any_eq_true.2 ⟨i, hi, by simp⟩⟩
theorem parts1_f (i : Int) (V : View) (q : Addr) (x : Value) (l : List Int) (hq : Cells V q [iv i]) (hs : SlI V x l) : Fnc Tryz.prog 98 ([] ++ [x] ++ [.pointer (some q)]) V fun r _ => r = .bool (inV V i x) := by
 have he := inV_of (i := i) hs
 obtain ⟨a, c, rfl, _⟩ := id hs
 refine qc Tryz.func98 rfl Tryz.ntmps98 (Nat.le_of_ble_eq_true rfl) ?_
 intro w0 hw0
 refine At.nrm ?_
 refine At.zi (.q 0 .done) ?_
 refine AtT.zh ?_
 refine AtT.done ?_
 refine At.nrm ?_
 refine At.zi (.q 0 (.q 1 (.n false 2 (.q 3 .done)))) ?_
 refine AtT.zf ?_
 first | refine AtT.zm tk3 ?_ | refine AtT.zo tk3 ?_
 refine AtT.zq rfl rfl ok99 (containsI_f l i _ _ hs) ?_
 rintro _ rfl
 refine AtT.zh ?_
 refine AtT.done ?_
 refine At.nrm ?_
 exact At.qd rfl (.tmp rfl) (by rw [he])
theorem parts_f (s : Sh) (hok : jH s) (V : View) (b : Nat) (hb : BnV V b s) : Fnc Tryz.prog 66 [.pointer (some ⟨b, 0, none⟩)] V fun r V' => ∃ ll, SL V' r ll ∧ PrtK (knL s).length (shN (gdS s) (knL s)) (knL s).length ll := by
 obtain ⟨ab, cb, ak, ck, hc0, hc1, hc2, hc3, hsb, hsk⟩ := bn_get hb
 have n10 := hok.kn
 refine qc Tryz.func66 rfl Tryz.ntmps66 (Nat.le_of_ble_eq_true rfl) ?_
 intro w0 hw0
 refine At.nrm ?_
 refine At.zi (.q 0 .done) ?_
 refine AtT.zh ?_
 refine AtT.done ?_
 refine At.nrm ?_
 refine At.zi (.q 0 .done) ?_
 refine AtT.zh ?_
 refine AtT.done ?_
 refine At.nrm ?_
 refine At.zi (.q 0 (.q 1 (.q 2 (.q 3 (.q 4 (.q 5 .done)))))) ?_
 refine AtT.zf ?_
 refine AtT.knil ?_
 first | refine AtT.zk qG ?_ | with_reducible refine AtT.zl qG ?_ | refine AtT.zn qG ?_
 first | refine AtT.zm tk84 ?_ | refine AtT.zo tk84 ?_
 first | refine AtT.zU Tryz.underlying84 ?_ | refine AtT.zV Tryz.underlying84 ?_
 refine AtT.zf ?_
 refine AtT.done ?_
 refine At.nrm ?_
 refine At.newRow 39 1 ?_
 refine At.lp (ι := Nat × List (Option Addr × Nat × Nat) × List (List Int) × Option Addr × Nat) (KS := fun g => [(0, .pointer (some ⟨b, 0, none⟩)), (3, .slice g.2.2.2.1 g.2.1.length g.2.2.2.2), (11, .slice ak (knL s).length ck), (12, iv (knL s).length), (13, iv g.1)])
  (OS := fun g => [.row (.slice g.2.2.2.1 g.2.1.length g.2.2.2.2) 39 1 g.2.1.length (flat sle g.2.1)])
  (VS := fun g V' => Le V V' ∧ g.1 ≤ (knL s).length ∧ g.2.1.length = g.2.2.1.length ∧ g.2.1.length ≤ g.1 ∧ PrtK (knL s).length (shN (gdS s) (knL s)) g.1 g.2.2.1 ∧ ∀ (j : Nat) (q : Option Addr × Nat × Nat) (l : List Int), g.2.1[j]? = some q → g.2.2.1[j]? = some l → SlI V' (.slice q.1 q.2.1 q.2.2) l) (μ := fun g => (knL s).length - g.1) (0, [], [], none, 0) ?_ ?_ ?_ ?_
 ·exact ⟨rfl, rfl, rfl, rfl, rfl, trivial⟩
 ·exact Pt.zI
 ·exact ⟨Le.refl _, Nat.zero_le _, rfl, Nat.le_refl _, .zero, fun j q l h => by simp at h⟩
 rintro ⟨i, qs, ll, a3, c3⟩ V' ks' O' ⟨hVV, hil, hql, hqi, hprt, hqs⟩ hk hO hl2
 dsimp only at hil hql hqi hprt hqs hk hO
 subst hk hO
 have hb' := hb.le hVV
 have hc2' := hc2.le hVV
 have hsk' := hsk.le hVV
 refine At.nrm ?_
 refine At.zi (.q 0 .done) ?_
 refine AtT.zY ?_
 refine AtT.done ?_
 refine At.nrm ?_
 refine At.zX rfl (fun hp => ?_) (fun hp => ?_)
 rotate_left
 ·obtain rfl : i = (knL s).length := by omega
  refine At.nrm ?_
  refine At.zi (.q 0 (.q 1 .done)) ?_
  refine AtT.zf ?_
  refine AtT.zh ?_
  refine AtT.done ?_
  refine At.nrm ?_
  refine At.giveSl (l := qs) sle_len rfl rfl zZ.zI (fun V4 hV4 hs4 => ?_)
  exact At.qd rfl (.tmp rfl) ⟨ll, ⟨qs, hs4, hql, fun j q l h1 h2 => (hqs j q l h1 h2).le hV4⟩, hprt⟩
 refine At.nrm ?_
 refine At.zi (.q 0 (.n false 1 (.n true 2 .done))) ?_
 refine AtT.zf ?_
 refine AtT.qw z3 ?_
 intro b4
 first | refine AtT.jk tk3 ?_ | refine AtT.zW tk3 ?_
 refine AtT.done ?_
 refine At.nrm ?_
 refine At.giveB (b := b4) zZ.zI (fun V2 hV2 hb4 => ?_)
 have q4 := qY hb4
 have hl3 := hl2.trans hV2
 refine At.lend zZ.zI (fun V3 hV3 hL => ?_)
 have hsq := sl_vle (hL.sl sle_len)
 have q43 := q4.le hV3
 have hqs3 : ∀ (j : Nat) (q : Option Addr × Nat × Nat) (l : List Int), qs[j]? = some q → ll[j]? = some l → SlI V3 (.slice q.1 q.2.1 q.2.2) l := fun j q l h1 h2 => ((hqs j q l h1 h2).le hV2).le hV3
 have hany := inV_any (V := V3) (i := (i : Int)) hql hqs3
 have hcl : ∀ x, x ∈ qs.map tvl → Fnc Tryz.prog 98 ([] ++ [x] ++ [.pointer (some ⟨b4, 0, none⟩)]) V3 fun v _ => v = .bool (inV V3 i x) := fun x hx => by
  obtain ⟨q, hq, rfl⟩ := List.mem_map.1 hx
  obtain ⟨j, hj⟩ := List.getElem?_of_mem hq
  have hjl := (List.getElem?_eq_some_iff.1 hj).1
  have hl : ll[j]? = some (ll[j]'(by omega)) := List.getElem?_eq_getElem (by omega)
  exact parts1_f i V3 _ _ _ q43 (hqs3 j q _ hj hl)
 refine At.nrm ?_
 refine At.zi (.q 0 (.q 1 (.n false 2 .done))) ?_
 refine AtT.zf ?_
 refine AtT.kfn ?_
 refine AtT.zq rfl rfl ok97 (contains_v 98 [.pointer (some ⟨b4, 0, none⟩)] (inV V3 i) _ _ _ hsq ok98 hcl) ?_
 rintro _ rfl
 refine AtT.done ?_
 refine At.nrm ?_
 refine At.cond rfl (fun hc => ?_) (fun hc => ?_)
 ·refine At.regain hL hV3 (Le.refl _) hl3 (fun V4 hV4 => ?_)
  refine At.nrm ?_
  refine At.zi (.q 0 (.q 1 .done)) ?_
  first | refine AtT.qh ?_ | refine AtT.zT ?_
  refine AtT.zf ?_
  refine AtT.done ?_
  refine At.nrm ?_
  refine At.round (i + 1, qs, ll, a3, c3) ?_ ?_ ?_ ?_
  ·show (knL s).length - (i + 1) < (knL s).length - i; omega
  ·exact ⟨(hVV.trans hV2).trans hV4, by dsimp only; omega, hql, by dsimp only; omega, .skip hprt (hany.1 hc), fun j q l h1 h2 => ((hqs j q l h1 h2).le hV2).le hV4⟩
  ·exact ⟨rfl, rfl, rfl, rfl, ivs (by dsimp only; omega), trivial⟩
  ·exact Pt.zI
 refine At.regain hL hV3 (Le.refl _) hl3 (fun V4 hV4 => ?_)
 have hnone : ¬ ∃ l ∈ ll, (i : Int) ∈ l := fun h => by rw [hany.2 h] at hc; cases hc
 have q44 := q4.le hV4
 have hl4 := hl3.trans hV4
 have hg4 : Le V' V4 := hV2.trans hV4
 refine At.nrm ?_
 refine At.zi (.q 0 (.n false 1 (.q 2 .done))) ?_
 first | refine AtT.zm tk3 ?_ | refine AtT.zo tk3 ?_
 refine AtT.kbslice (qb _) ?_
 intro b20
 refine AtT.zh ?_
 refine AtT.done ?_
 refine At.nrm ?_
 refine At.blkRow (b := b20) (m := 1) (cap := 1) (s := 1) (xs := flat ei [(i : Int)]) (rest := []) zZ.zI rfl rfl (Nat.le_refl _) (by unfold maxLen; omega) ?_
 refine At.nrm ?_
 refine At.zi (.q 0 .done) ?_
 refine AtT.zh ?_
 refine AtT.done ?_
 refine At.nrm ?_
 refine At.lp (ι := Nat × List Int × Option Addr × Nat) (KS := fun g => [(0, .pointer (some ⟨b, 0, none⟩)), (3, .slice a3 qs.length c3), (11, .slice ak (knL s).length ck), (12, iv (knL s).length), (13, iv i), (5, .slice g.2.2.1 g.2.1.length g.2.2.2), (6, iv g.1)])
  (OS := fun g => [.row (.slice g.2.2.1 g.2.1.length g.2.2.2) 3 1 g.2.1.length (flat ei g.2.1), .row (.slice a3 qs.length c3) 39 1 qs.length (flat sle qs)])
  (VS := fun g V'' => Le V' V'' ∧ g.1 ≤ g.2.1.length ∧ Gat (knL s).length (shN (gdS s) (knL s)) i g.2.1 ∧ Cls (knL s).length (shN (gdS s) (knL s)) g.2.1 g.1) (μ := fun g => (knL s).length - g.1) (0, [(i : Int)], some ⟨b20, 0, none⟩, 1) ?_ ?_ ?_ ?_
 ·exact ⟨rfl, rfl, rfl, rfl, rfl, rfl, rfl, trivial⟩
 ·exact Pt.zI
 ·exact ⟨hg4, Nat.zero_le _, gat_start (by omega), fun u a hu => absurd hu (Nat.not_lt_zero u)⟩
 rintro ⟨j, P, a5, c5⟩ V5 ks' O' ⟨hV5, hjP, hgat, hcls⟩ hk hO hl5
 dsimp only at hjP hgat hcls hk hO
 subst hk hO
 have hPl := gat_len hgat
 have hb5 := hb'.le hV5
 have hc25 := hc2'.le hV5
 have hsk5 := hsk'.le hV5
 have hqs5 : ∀ (j : Nat) (q : Option Addr × Nat × Nat) (l : List Int), qs[j]? = some q → ll[j]? = some l → SlI V5 (.slice q.1 q.2.1 q.2.2) l := fun j q l h1 h2 => (hqs j q l h1 h2).le hV5
 refine At.nrm ?_
 refine At.zi (.q 0 (.q 1 (.q 2 (.q 3 .done)))) ?_
 refine AtT.zf ?_
 refine AtT.zf ?_
 first | refine AtT.zU Tryz.underlying39 ?_ | refine AtT.zV Tryz.underlying39 ?_
 refine AtT.zY ?_
 refine AtT.done ?_
 refine At.nrm ?_
 refine At.zX rfl (fun hp2 => ?_) (fun hp2 => ?_)
 rotate_left
 ·obtain rfl : j = P.length := by omega
  have hpos : P.length ≠ 0 := fun h => by
   have := hgat.fst
   rw [List.eq_nil_of_length_eq_zero h] at this; cases this
  have hperm := srtI_perm P
  have hpart := gat_end (by omega) hgat hcls hperm (srtI_sorted hgat.nd)
  have hsl : (srtI P).length = P.length := hperm.length_eq
  refine At.rowSplit (v := .slice a5 P.length c5) zZ.zI (fun h1 h2 _ => absurd h2 hpos) (fun bb cap rest hv hc1 hc2 hc3 => ?_)
  cases hv
  refine At.nrm ?_
  refine At.zi (.q 0 (.n true 1 .done)) ?_
  refine AtT.zf ?_
  refine AtT.sortI rfl trivial rfl (show P.length < 4611686018427387904 by omega) zZ.zI (by decide) ?_ (l := P) (rest := rest) (b := bb) (cap := c5)
  refine AtT.done ?_
  refine At.nrm ?_
  refine At.giveB (b := bb) zZ.zI (fun V6 hV6 hb6 => ?_)
  have hbase6 : Le V V6 := (hVV.trans hV5).trans hV6
  have hsn : SlI V6 (.slice (some ⟨bb, 0, none⟩) P.length c5) (srtI P) := by
   rw [← hsl]
   exact Sl.of_cells Lw.ei_len (cells_pre hb6) (by omega) hc2
  refine At.nrm ?_
  refine At.zi (.q 0 (.q 1 (.n false 2 (.n true 3 (.q 4 .done))))) ?_
  refine AtT.zf ?_
  refine AtT.zf ?_
  refine AtT.zB (bs42_1_0 _ _ _) ?_
  intro q57 V57 hV57 hq57
  have g57 : Le V V57 := by first | exact hV57 | exact Le.trans (by assumption) hV57
  first | refine AtT.jC Tryz.underlying42 rw39 ?_
  intro a58 c58
  refine AtT.zh ?_
  refine AtT.done ?_
  refine At.nrm ?_
  have hql2 : (qs ++ [((some ⟨bb, 0, none⟩ : Option Addr), P.length, c5)]).length = qs.length + 1 := by rw [List.length_append]; rfl
  refine At.nrm ?_
  refine At.zi (.q 0 (.q 1 .done)) ?_
  first | refine AtT.qh ?_ | refine AtT.zT ?_
  refine AtT.zf ?_
  refine AtT.done ?_
  refine At.nrm ?_
  refine At.round (i + 1, qs ++ [((some ⟨bb, 0, none⟩ : Option Addr), P.length, c5)], ll ++ [srtI P], a58, c58) ?_ ?_ ?_ ?_
  ·show (knL s).length - (i + 1) < (knL s).length - i; omega
  ·refine ⟨(hVV.trans hV5).trans (by first | assumption | exact Le.trans (by assumption) (by assumption)), by dsimp only; omega, by dsimp only; rw [hql2, List.length_append, hql]; rfl, by dsimp only; omega, .add hprt hnone hpart, fun j q l h1 h2 => ?_⟩
   by_cases e : j < qs.length
   ·rw [List.getElem?_append_left e] at h1
    rw [List.getElem?_append_left (by omega)] at h2
    exact (hqs5 j q l h1 h2).le (by first | assumption | exact Le.trans (by assumption) (by assumption))
   ·have hj1 := (List.getElem?_eq_some_iff.1 h1).1
    dsimp only at hj1
    rw [hql2] at hj1
    obtain rfl : j = qs.length := by omega
    rw [List.getElem?_append_right (Nat.le_refl _), Nat.sub_self] at h1
    rw [List.getElem?_append_right (by omega), hql, Nat.sub_self] at h2
    obtain rfl := Option.some.inj h1
    obtain rfl := Option.some.inj h2
    exact hsn.le (by first | assumption | exact Le.refl _ | exact Le.trans (by assumption) (by assumption))
  ·dsimp only; rw [hql2]; exact ⟨rfl, rfl, rfl, rfl, ivs (by omega), trivial⟩
  dsimp only
  rw [hql2, jm]
  ·exact Pt.zI
 obtain ⟨x, hx⟩ : ∃ x, P[j]? = some x := ⟨_, List.getElem?_eq_getElem (by omega)⟩
 obtain ⟨m, rfl, hmN, hmr⟩ := hgat.rch x (List.mem_of_getElem? hx)
 refine At.nrm ?_
 refine At.zi (.q 0 (.q 1 (.q 2 (.q 3 (.q 4 (.q 5 .done)))))) ?_
 refine AtT.zf ?_
 refine AtT.knil ?_
 first | refine AtT.zk qG ?_ | with_reducible refine AtT.zl qG ?_ | refine AtT.zn qG ?_
 first | refine AtT.zm tk84 ?_ | refine AtT.zo tk84 ?_
 first | refine AtT.zU Tryz.underlying84 ?_ | refine AtT.zV Tryz.underlying84 ?_
 refine AtT.zf ?_
 refine AtT.done ?_
 refine At.nrm ?_
 refine At.lp (ι := Nat × List Int × Option Addr × Nat) (KS := fun g => [(0, .pointer (some ⟨b, 0, none⟩)), (3, .slice a3 qs.length c3), (11, .slice ak (knL s).length ck), (12, iv (knL s).length), (13, iv i), (5, .slice g.2.2.1 g.2.1.length g.2.2.2), (6, iv j), (30, .slice ak (knL s).length ck), (31, iv (knL s).length), (32, iv g.1)])
  (OS := fun g => [.row (.slice g.2.2.1 g.2.1.length g.2.2.2) 3 1 g.2.1.length (flat ei g.2.1), .row (.slice a3 qs.length c3) 39 1 qs.length (flat sle qs)])
  (VS := fun g V'' => Le V' V'' ∧ g.1 ≤ (knL s).length ∧ j < g.2.1.length ∧ g.2.1[j]? = some (m : Int) ∧ Gat (knL s).length (shN (gdS s) (knL s)) i g.2.1 ∧ Cls (knL s).length (shN (gdS s) (knL s)) g.2.1 j ∧ ∀ k, k < g.1 → shN (gdS s) (knL s) m k = true → (k : Int) ∈ g.2.1) (μ := fun g => (knL s).length - g.1) (0, P, a5, c5) ?_ ?_ ?_ ?_
 ·exact ⟨rfl, rfl, rfl, rfl, rfl, rfl, rfl, rfl, rfl, rfl, trivial⟩
 ·exact Pt.zI
 ·exact ⟨hV5, Nat.zero_le _, by dsimp only; omega, hx, hgat, hcls, fun k hk => absurd hk (Nat.not_lt_zero k)⟩
 rintro ⟨k, P2, a6, c6⟩ V6 ks' O' ⟨hV6, hkl, hjP2, hx2, hgat2, hcls2, hsee⟩ hk hO hl6
 dsimp only at hkl hjP2 hx2 hgat2 hcls2 hsee hk hO
 subst hk hO
 have hP2l := gat_len hgat2
 have hb6 := hb'.le hV6
 have hc26 := hc2'.le hV6
 have hsk6 := hsk'.le hV6
 refine At.nrm ?_
 refine At.zi (.q 0 .done) ?_
 refine AtT.zY ?_
 refine AtT.done ?_
 refine At.nrm ?_
 refine At.zX rfl (fun hp3 => ?_) (fun hp3 => ?_)
 rotate_left
 ·obtain rfl : k = (knL s).length := by omega
  refine At.nrm ?_
  refine At.zi (.q 0 (.q 1 (.q 2 .done))) ?_
  refine AtT.zf ?_
  first | refine AtT.qh ?_ | refine AtT.zT ?_
  refine AtT.zh ?_
  refine AtT.done ?_
  refine At.nrm ?_
  refine At.round (j + 1, P2, a6, c6) ?_ ?_ ?_ ?_
  ·show (knL s).length - (j + 1) < (knL s).length - j; omega
  ·refine ⟨hV6, by dsimp only; omega, hgat2, fun u a hu ha k' hk' hs' => ?_⟩
   by_cases e : u = j
   ·subst e
    rw [hx2] at ha
    have e2 := Option.some.inj ha
    obtain rfl : m = a := by omega
    exact hsee k' hk' hs'
   ·exact hcls2 u a (by omega) ha k' hk' hs'
  ·exact ⟨rfl, rfl, rfl, rfl, rfl, rfl, ivs (by dsimp only; omega), trivial⟩
  ·exact Pt.zI
 refine At.nrm ?_
 refine At.zi (.q 0 (.q 1 .done)) ?_
 refine AtT.zf ?_
 refine AtT.zh ?_
 refine AtT.done ?_
 refine At.nrm ?_
 refine At.lend (xs := flat ei P2) zZ.zI (fun V7 hV7 hL7 => ?_)
 have hsp := hL7.sl Lw.ei_len
 have hb7 := hb6.le hV7
 cases hin : P2.any (· == (k : Int)) with
 | true =>
  refine At.nrm ?_
  refine At.zi (.q 0 (.q 1 (.n false 2 (.q 3 (.q 4 (.q 5 (.q 6 (.q 7 (.q 8 (.q 9 (.q 10 (.n false 11 (.q 12 .done))))))))))))) ?_
  refine AtT.zf ?_
  refine AtT.zf ?_
  refine AtT.zq rfl rfl ok99 (containsI_f P2 k _ _ hsp) ?_
  rintro _ rfl
  refine AtT.jh ?_
  refine AtT.setB (d := 38) rfl ((show (!P2.any (· == (k : Int))) = false by rw [hin]; rfl)) ?_
  refine AtT.zf ?_
  all_goals (first | refine AtT.kL 39 ?_ | refine AtT.zA (d := 39) rfl (fun hg39 => ?_) (fun hg39 => ?_) | refine AtT.zz (d := 39) rfl (fun hg39 => ?_) (fun hg39 => ?_))
  all_goals first|refine AtT.zg ?_|refine AtT.ze ?_|(refine AtT.zf ?_)
  all_goals first|refine AtT.zg ?_|refine AtT.ze ?_|(refine AtT.zf ?_)
  all_goals first|refine AtT.zg ?_|refine AtT.ze ?_|(refine AtT.zf ?_)
  all_goals first|refine AtT.zg ?_|refine AtT.ze ?_|(refine AtT.qi Tryz.underlying39 tk3 ?_) ; (intro p43 e43 he43 hc43)
  all_goals first|refine AtT.zg ?_|refine AtT.ze ?_|(first | refine AtT.zm tk3 ?_ | refine AtT.zo tk3 ?_)
  all_goals first|refine AtT.zg ?_|refine AtT.ze ?_|(refine AtT.zf ?_)
  all_goals (first | refine AtT.zP ?_ | refine AtT.zJ ?_ | ((fail)))
  all_goals (refine AtT.zy ?_)
  all_goals refine AtT.done ?_
  all_goals (refine At.nrm ?_)
  refine At.qE rfl rfl ?_
  refine At.regain hL7 hV7 (Le.refl _) hl6 (fun V8 hV8 => ?_)
  refine At.nrm ?_
  refine At.zi (.q 0 (.q 1 .done)) ?_
  first | refine AtT.qh ?_ | refine AtT.zT ?_
  refine AtT.zf ?_
  refine AtT.done ?_
  refine At.nrm ?_
  have hmem : (k : Int) ∈ P2 := by
   obtain ⟨y, hy, e⟩ := List.any_eq_true.1 hin
   have e : y = (k : Int) := by simpa using e
   rwa [e] at hy
  refine At.round (k + 1, P2, a6, c6) ?_ ?_ ?_ ?_
  ·show (knL s).length - (k + 1) < (knL s).length - k; omega
  ·refine ⟨hV6.trans hV8, by dsimp only; omega, hjP2, hx2, hgat2, hcls2, fun k' hk' hs' => ?_⟩
   by_cases e : k' = k
   ·subst e; exact hmem
   ·exact hsee k' (by dsimp only at hk'; omega) hs'
  ·exact ⟨rfl, rfl, rfl, rfl, rfl, rfl, rfl, rfl, rfl, ivs (by dsimp only; omega), trivial⟩
  ·exact Pt.zI
 | false =>
  have hnmem : (k : Int) ∉ P2 := fun h => by rw [List.any_eq_true.2 ⟨_, h, by simp⟩] at hin; cases hin
  cases hsh : shN (gdS s) (knL s) m k with
  | false =>
   refine At.nrm ?_
   refine At.zi (.q 0 (.q 1 (.n false 2 (.q 3 (.q 4 (.q 5 (.q 6 (.q 7 (.q 8 (.q 9 (.q 10 (.n false 11 (.q 12 .done))))))))))))) ?_
   refine AtT.zf ?_
   refine AtT.zf ?_
   refine AtT.zq rfl rfl ok99 (containsI_f P2 k _ _ hsp) ?_
   rintro _ rfl
   refine AtT.jh ?_
   refine AtT.setB (d := 38) rfl ((show (!P2.any (· == (k : Int))) = true by rw [hin]; rfl)) ?_
   refine AtT.zf ?_
   all_goals (first | refine AtT.kL 39 ?_ | refine AtT.zA (d := 39) rfl (fun hg39 => ?_) (fun hg39 => ?_) | refine AtT.zz (d := 39) rfl (fun hg39 => ?_) (fun hg39 => ?_))
   all_goals first|refine AtT.zg ?_|refine AtT.ze ?_|(refine AtT.zf ?_)
   all_goals first|refine AtT.zg ?_|refine AtT.ze ?_|(refine AtT.zf ?_)
   all_goals first|refine AtT.zg ?_|refine AtT.ze ?_|(refine AtT.zf ?_)
   all_goals first|refine AtT.zg ?_|refine AtT.ze ?_|(refine AtT.qi Tryz.underlying39 tk3 ?_) ; (intro p43 e43 he43 hc43)
   all_goals first|refine AtT.zg ?_|refine AtT.ze ?_|(first | refine AtT.zm tk3 ?_ | refine AtT.zo tk3 ?_)
   all_goals (obtain rfl : (m : Int) = e43 := by have : P2[j]? = some e43 := (by simpa using he43); rw [hx2] at this; simpa using this)
   all_goals first|refine AtT.zg ?_|refine AtT.ze ?_|(refine AtT.zf ?_)
   all_goals (first | refine AtT.zP ?_ | refine AtT.zJ ?_ | ((refine AtT.zq rfl rfl ok69 (share_f s hok m k (by omega) (by omega) _ b hb7) ?_) ; (rintro _ rfl; rw [hsh])))
   all_goals (refine AtT.zy ?_)
   all_goals refine AtT.done ?_
   all_goals (refine At.nrm ?_)
   refine At.qE rfl rfl ?_
   refine At.regain hL7 hV7 (Le.refl _) hl6 (fun V8 hV8 => ?_)
   refine At.nrm ?_
   refine At.zi (.q 0 (.q 1 .done)) ?_
   first | refine AtT.qh ?_ | refine AtT.zT ?_
   refine AtT.zf ?_
   refine AtT.done ?_
   refine At.nrm ?_
   refine At.round (k + 1, P2, a6, c6) ?_ ?_ ?_ ?_
   ·show (knL s).length - (k + 1) < (knL s).length - k; omega
   ·refine ⟨hV6.trans hV8, by dsimp only; omega, hjP2, hx2, hgat2, hcls2, fun k' hk' hs' => ?_⟩
    by_cases e : k' = k
    ·subst e; rw [hsh] at hs'; cases hs'
    ·exact hsee k' (by dsimp only at hk'; omega) hs'
   ·exact ⟨rfl, rfl, rfl, rfl, rfl, rfl, rfl, rfl, rfl, ivs (by dsimp only; omega), trivial⟩
   ·exact Pt.zI
  | true =>
   have hadd := gat_add hgat2 (List.mem_of_getElem? hx2) (by omega) hsh hnmem
   have hal := gat_len hadd
   have hP3 : (P2 ++ [(k : Int)]).length = P2.length + 1 := by rw [List.length_append]; rfl
   refine At.nrm ?_
   refine At.zi (.q 0 (.q 1 (.n false 2 (.q 3 (.q 4 (.q 5 (.q 6 (.q 7 (.q 8 (.q 9 (.q 10 (.n false 11 (.q 12 .done))))))))))))) ?_
   refine AtT.zf ?_
   refine AtT.zf ?_
   refine AtT.zq rfl rfl ok99 (containsI_f P2 k _ _ hsp) ?_
   rintro _ rfl
   refine AtT.jh ?_
   refine AtT.setB (d := 38) rfl ((show (!P2.any (· == (k : Int))) = true by rw [hin]; rfl)) ?_
   refine AtT.zf ?_
   all_goals (first | refine AtT.kL 39 ?_ | refine AtT.zA (d := 39) rfl (fun hg39 => ?_) (fun hg39 => ?_) | refine AtT.zz (d := 39) rfl (fun hg39 => ?_) (fun hg39 => ?_))
   all_goals first|refine AtT.zg ?_|refine AtT.ze ?_|(refine AtT.zf ?_)
   all_goals first|refine AtT.zg ?_|refine AtT.ze ?_|(refine AtT.zf ?_)
   all_goals first|refine AtT.zg ?_|refine AtT.ze ?_|(refine AtT.zf ?_)
   all_goals first|refine AtT.zg ?_|refine AtT.ze ?_|(refine AtT.qi Tryz.underlying39 tk3 ?_) ; (intro p43 e43 he43 hc43)
   all_goals first|refine AtT.zg ?_|refine AtT.ze ?_|(first | refine AtT.zm tk3 ?_ | refine AtT.zo tk3 ?_)
   all_goals (obtain rfl : (m : Int) = e43 := by have : P2[j]? = some e43 := (by simpa using he43); rw [hx2] at this; simpa using this)
   all_goals first|refine AtT.zg ?_|refine AtT.ze ?_|(refine AtT.zf ?_)
   all_goals (first | refine AtT.zP ?_ | refine AtT.zJ ?_ | ((refine AtT.zq rfl rfl ok69 (share_f s hok m k (by omega) (by omega) _ b hb7) ?_) ; (rintro _ rfl; rw [hsh])))
   all_goals (refine AtT.zy ?_)
   all_goals refine AtT.done ?_
   all_goals (refine At.nrm ?_)
   refine At.qB rfl rfl ?_
   refine At.regain hL7 hV7 (Le.refl _) hl6 (fun V8 hV8 => ?_)
   have hbase8 : Le V V8 := (hVV.trans hV6).trans hV8
   refine At.nrm ?_
   refine At.zi (.q 0 (.q 1 (.n false 2 (.n true 3 (.q 4 .done))))) ?_
   refine AtT.zf ?_
   refine AtT.zf ?_
   refine AtT.zB (qb _) ?_
   intro q50 V50 hV50 hq50
   have g50 : Le V V50 := by first | exact hV50 | exact Le.trans (by assumption) hV50
   first | refine AtT.jC Tryz.underlying39 rw3 ?_
   intro a51 c51
   refine AtT.zh ?_
   refine AtT.done ?_
   refine At.nrm ?_
   refine At.nrm ?_
   refine At.zi (.q 0 (.q 1 .done)) ?_
   first | refine AtT.qh ?_ | refine AtT.zT ?_
   refine AtT.zf ?_
   refine AtT.done ?_
   refine At.nrm ?_
   refine At.round (k + 1, P2 ++ [(k : Int)], a51, c51) ?_ ?_ ?_ ?_
   ·show (knL s).length - (k + 1) < (knL s).length - k; omega
   ·refine ⟨(hV6.trans hV8).trans (by first | assumption | exact Le.trans (by assumption) (by assumption)), by dsimp only; omega, by dsimp only; omega, by dsimp only; rw [List.getElem?_append_left hjP2]; exact hx2, hadd, cls_add hcls2 (by omega), fun k' hk' hs' => ?_⟩
    by_cases e : k' = k
    ·subst e; simp
    ·exact List.mem_append_left _ (hsee k' (by dsimp only at hk'; omega) hs')
   ·dsimp only; rw [hP3]; exact ⟨rfl, rfl, rfl, rfl, rfl, rfl, rfl, rfl, rfl, ivs (by omega), trivial⟩
   dsimp only
   rw [hP3, jm]
   ·exact Pt.zI
end Go.Proofs.YtghomjjffllkeaaGreatDoor
set_option linter.unusedVariables false
namespace Go.Pm
open Go.Gl Go.Lw
def Clb (N : Nat) (S : Nat → Nat → Bool) (p : Nat) : Prop := ∀ j k, p.testBit j = true → k < N → S j k = true → p.testBit k = true
structure Rnd (N : Nat) (S : Nat → Nat → Bool) (i p0 p j k : Nat) : Prop where
 lt0 : p0 < 2 ^ N
 lt : p < 2 ^ N
 fst : p0.testBit i = true
 sub : ∀ x, p0.testBit x = true → p.testBit x = true
 rch : ∀ x, p.testBit x = true → Rch N S i x
 seen : ∀ a b, (a < j ∨ a = j ∧ b < k) → b < N → p0.testBit a = true → S a b = true → p.testBit b = true
variable {N : Nat} {S : Nat → Nat → Bool} {i p0 p j k r : Nat}
def Btw (N : Nat) (S : Nat → Nat → Bool) (i r p : Nat) : Prop := p < 2 ^ N ∧ p.testBit i = true ∧ (∀ x, p.testBit x = true → Rch N S i x) ∧ (Clb N S p ∨ r + 1 ≤ (qP p N).length)
theorem bit_in {p x N : Nat} (h : p < 2 ^ N) (hx : p.testBit x = true) : x < N := by
 apply Classical.byContradiction
 intro hc
 have h1 : p < 2 ^ x := Nat.lt_of_lt_of_le h (Nat.pow_le_pow_right (by omega) (by omega))
 rw [Nat.testBit_lt_two_pow h1] at hx; cases hx
theorem bitL_int {p N : Nat} (h : p < 2 ^ N) (x : Nat) : (x : Int) ∈ qP p N ↔ p.testBit x = true := by
 rw [ji]
 constructor
 ·rintro ⟨k, _, e, hk⟩; have : x = k := by omega
  subst this; exact hk
 ·intro hx; exact ⟨x, bit_in h hx, rfl, hx⟩
theorem bitL_le (p : Nat) : ∀ n, (qP p n).length ≤ n
 | 0 => Nat.le_refl _
 | n + 1 => by
  have ih := bitL_le p n
  simp only [qP]
  split
  ·rw [List.length_append, List.length_singleton]; omega
  ·omega
theorem btw_start (hi : i < N) : Btw N S i 0 (2 ^ i) := by
 have hlt : 2 ^ i < 2 ^ N := Nat.pow_lt_pow_right (by omega) hi
 refine ⟨hlt, Nat.testBit_two_pow_self, fun x hx => ?_, .inr ?_⟩
 ·rw [Nat.testBit_two_pow, decide_eq_true_eq] at hx; subst hx; exact .refl
 ·have := (bitL_int hlt i).2 Nat.testBit_two_pow_self
  have := List.length_pos_of_mem this
  omega
theorem rnd_start (h : Btw N S i r p) : Rnd N S i p p 0 0 := ⟨h.1, h.1, h.2.1, fun x hx => hx, h.2.2.1, fun a b hab => by omega⟩
theorem rnd_row (h : Rnd N S i p0 p j N) : Rnd N S i p0 p (j + 1) 0 := ⟨h.lt0, h.lt, h.fst, h.sub, h.rch, fun a b hab hb => h.seen a b (by omega) hb⟩
theorem rnd_skip (h : Rnd N S i p0 p j k) (hn : ¬ (p.testBit j = true ∧ p.testBit k = false ∧ S j k = true)) : Rnd N S i p0 p j (k + 1) := by
 refine ⟨h.lt0, h.lt, h.fst, h.sub, h.rch, fun a b hab hb ha hs => ?_⟩
 by_cases e : a = j ∧ b = k
 ·obtain ⟨rfl, rfl⟩ := e
  cases c : p.testBit b with
  | true => rfl
  | false => exact absurd ⟨h.sub _ ha, c, hs⟩ hn
 ·exact h.seen a b (by omega) hb ha hs
theorem rnd_add (h : Rnd N S i p0 p j k) (hk : k < N) (hj : p.testBit j = true) (hs : S j k = true) : Rnd N S i p0 (p ||| 2 ^ k) j (k + 1) := by
 have hb : ∀ x, (p ||| 2 ^ k).testBit x = (p.testBit x || decide (k = x)) := fun x => by rw [Nat.testBit_or, Nat.testBit_two_pow]
 refine ⟨h.lt0, Nat.or_lt_two_pow h.lt (Nat.pow_lt_pow_right (by omega) hk), h.fst, fun x hx => ?_, fun x hx => ?_, fun a b hab hbn ha hs' => ?_⟩
 ·rw [hb, h.sub x hx]; rfl
 ·rw [hb, Bool.or_eq_true, decide_eq_true_eq] at hx
  rcases hx with hx | rfl
  ·exact h.rch x hx
  ·exact .step (h.rch j hj) hk hs
 ·rw [hb]
  by_cases e : b = k
  ·subst e; simp
  ·rw [h.seen a b (by omega) hbn ha hs']; rfl
theorem btw_step (h : Btw N S i r p0) (g : Rnd N S i p0 p N 0) : Btw N S i (r + 1) p := by
 refine ⟨g.lt, g.sub i g.fst, g.rch, ?_⟩
 by_cases hc : Clb N S p0
 ·left
  have hall : ∀ x, Rch N S i x → p0.testBit x = true := fun x hx => by
   induction hx with
   | refl => exact g.fst
   | step h1 hk hs ih => exact hc _ _ ih hk hs
  intro a b ha hb hs
  exact g.sub b (hc a b (hall a (g.rch a ha)) hb hs)
 ·rcases h.2.2.2 with h4 | h4
  ·exact absurd h4 hc
  ·right
   have hex : ∃ j k, p0.testBit j = true ∧ k < N ∧ S j k = true ∧ p0.testBit k = false := by
    apply Classical.byContradiction
    intro hn
    refine hc fun a b ha hb hs => ?_
    cases c : p0.testBit b with
    | true => rfl
    | false => exact absurd ⟨a, b, ha, hb, hs, c⟩ hn
   obtain ⟨a, b, ha, hb, hs, hn⟩ := hex
   have hpb := g.seen a b (.inl (bit_in g.lt0 ha)) hb ha hs
   have n1 : (qP p0 N).Nodup := (bitL_lt p0 N).imp fun {x y} h => by omega
   have n2 : ((b : Int) :: qP p0 N).Nodup := List.nodup_cons.2 ⟨fun hm => (by rw [(bitL_int g.lt0 b).1 hm] at hn; cases hn), n1⟩
   have hsub : ∀ x ∈ ((b : Int) :: qP p0 N), x ∈ qP p N := fun x hx => by
    rcases List.mem_cons.1 hx with rfl | hx
    ·exact (bitL_int g.lt b).2 hpb
    ·obtain ⟨k, _, rfl, hk⟩ := ji.1 hx
     exact (bitL_int g.lt k).2 (g.sub k hk)
   have key : ∀ {l m : List Int}, l.Nodup → (∀ x ∈ l, x ∈ m) → l.length ≤ m.length := by
    intro l
    induction l with
    | nil => intro m _ _; exact Nat.zero_le _
    | cons a l ih =>
     intro m hn h
     have hn' := List.nodup_cons.1 hn
     have ha := h a List.mem_cons_self
     have := ih (m := m.erase a) hn'.2 fun x hx => (List.mem_erase_of_ne (fun e => by subst e; exact hn'.1 hx)).2 (h x (List.mem_cons_of_mem _ hx))
     rw [List.length_erase_of_mem ha] at this
     have := List.length_pos_of_mem ha
     rw [List.length_cons]; omega
   have := key n2 hsub
   rw [List.length_cons] at this
   omega
theorem btw_end (hi : i < N) (h : Btw N S i N p) : IsPart N S i (qP p N) := by
 have hc : Clb N S p := by
  rcases h.2.2.2 with h4 | h4
  ·exact h4
  ·have := bitL_le p N
   omega
 refine ⟨bitL_lt p N, fun x => ⟨fun hx => ?_, ?_⟩⟩
 ·obtain ⟨k, _, rfl, hk⟩ := ji.1 hx
  exact ⟨k, rfl, h.2.2.1 k hk⟩
 ·rintro ⟨k, rfl, hr⟩
  rw [bitL_int h.1]
  induction hr with
  | refl => exact h.2.1
  | step h1 hk hs ih => exact hc _ _ ih hk hs
end Go.Pm
