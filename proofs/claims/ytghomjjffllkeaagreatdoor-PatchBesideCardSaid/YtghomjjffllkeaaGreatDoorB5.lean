/- Texts that the last one of this claim imports. -/
import Derived.Test.YtghomjjffllkeaaGreatDoorB4
set_option linter.unusedVariables false
set_option linter.unusedSimpArgs false
set_option linter.unusedSectionVars false
set_option linter.unusedVariables false
namespace Go.Proofs.YtghomjjffllkeaaGreatDoor
open Go.Lw Go.Gl Go.Pm Go.RowKit
theorem partsOf_f (s : Sh) (hok : jH s) (V : View) (v : Value) (hv : ShV V v s) : Fnc Tryz.prog 67 [v] V fun r V' => ∃ ll, SL V' r ll ∧ PrtK (knL s).length (shN (gdS s) (knL s)) (knL s).length ll := by
 obtain ⟨a, c, rfl, hs⟩ := id hv
 have n10 := hok.kn
 have hn6 := hok.n
 have hw6 := hok.w
 have hpow : 2 ^ (knL s).length ≤ 1024 := Nat.pow_le_pow_right (n := 2) (by decide) n10
 have hshr : ∀ p i : Nat, p < 1024 → p >>> i < 9223372036854775808 := fun p i h => Nat.lt_of_le_of_lt (Nat.shiftRight_le _ _) (by omega)
 refine qc Tryz.func67 rfl Tryz.ntmps67 (Nat.le_of_ble_eq_true rfl) ?_
 intro w0 hw0
 refine At.nrm ?_
 refine At.zi (.n false 0 (.q 1 .done)) ?_
 refine AtT.qV ?_
 intro b1
 refine AtT.zh ?_
 refine AtT.done ?_
 refine At.nrm ?_
 refine At.zi (.q 0 (.n false 1 (.q 2 (.q 3 .done)))) ?_
 first | refine AtT.zu zx ?_ | refine AtT.zC zx ?_ | refine AtT.zt zx ?_
 refine AtT.qg rfl rfl ok44 (jr s (by omega) (fun r hr => by have := hok.sz r hr; omega) _ _ hv) ?_
 rintro v12 V12 hV12 hs12; obtain ⟨ak, ck, rfl, _⟩ := id hs12
 first | refine AtT.zU Tryz.underlying58 ?_ | refine AtT.zV Tryz.underlying58 ?_
 refine AtT.zh ?_
 refine AtT.done ?_
 refine At.nrm ?_
 have hv12 := hv.le hV12
 refine At.zi (.q 0 .done) ?_
 refine AtT.zh ?_
 refine AtT.done ?_
 refine At.nrm ?_
 refine At.zi (.q 0 .done) ?_
 refine AtT.zh ?_
 refine AtT.done ?_
 refine At.nrm ?_
 refine At.zi (.q 0 .done) ?_
 refine AtT.zh ?_
 refine AtT.done ?_
 refine At.nrm ?_
 refine At.newRow 39 1 ?_
 refine At.lp (ι := Nat × Nat × List (Option Addr × Nat × Nat) × List (List Int) × Option Addr × Nat) (KS := fun g => [(1, .pointer (some ⟨b1, 0, none⟩)), (3, iv (knL s).length), (4, .slice g.2.2.2.2.1 g.2.2.1.length g.2.2.2.2.2), (5, iv g.2.1), (6, iv g.1)])
  (OS := fun g => [.blk b1 (LC [.slice a s.rows.length c, iv s.most] 24), .row (.slice g.2.2.2.2.1 g.2.2.1.length g.2.2.2.2.2) 39 1 g.2.2.1.length (flat sle g.2.2.1)])
  (VS := fun g V' => Le V12 V' ∧ g.1 ≤ (knL s).length ∧ g.2.2.1.length = g.2.2.2.1.length ∧ g.2.2.1.length ≤ g.1 ∧ g.2.1 < 2 ^ (knL s).length ∧ PrtK (knL s).length (shN (gdS s) (knL s)) g.1 g.2.2.2.1 ∧ (∀ x : Nat, g.2.1.testBit x = true ↔ ∃ l ∈ g.2.2.2.1, (x : Int) ∈ l) ∧ ∀ (j : Nat) (q : Option Addr × Nat × Nat) (l : List Int), g.2.2.1[j]? = some q → g.2.2.2.1[j]? = some l → SlI V' (.slice q.1 q.2.1 q.2.2) l) (μ := fun g => (knL s).length - g.1) (0, 0, [], [], none, 0) ?_ ?_ ?_ ?_
 ·exact ⟨rfl, rfl, rfl, rfl, rfl, trivial⟩
 ·exact Pt.zI
 ·exact ⟨Le.refl _, Nat.zero_le _, rfl, Nat.le_refl _, Nat.two_pow_pos _, .zero, fun x => by simp, fun j q l h => by simp at h⟩
 rintro ⟨i, had, qs, ll, a4, c4⟩ V' ks' O' ⟨hVV, hil, hql, hqi, hhl, hprt, hhad, hqs⟩ hk hO hl2
 dsimp only at hil hql hqi hhl hprt hhad hqs hk hO
 subst hk hO
 have hv2 := hv12.le hVV
 refine At.nrm ?_
 refine At.zi (.q 0 (.q 1 (.q 2 .done))) ?_
 refine AtT.zf ?_
 refine AtT.zf ?_
 refine AtT.zY ?_
 refine AtT.done ?_
 refine At.nrm ?_
 refine At.zX rfl (fun hp => ?_) (fun hp => ?_)
 rotate_left
 ·obtain rfl : i = (knL s).length := by omega
  refine At.nrm ?_
  refine At.zi (.q 0 (.q 1 .done)) ?_
  refine AtT.zf ?_
  refine AtT.zh ?_
  refine AtT.done ?_
  refine At.nrm ?_
  refine At.giveSl (l := qs) sle_len rfl rfl zZ.zI (fun V4 hV4 hs4 => ?_)
  exact At.qd rfl (.tmp rfl) ⟨ll, ⟨qs, hs4, hql, fun j q l h1 h2 => (hqs j q l h1 h2).le hV4⟩, hprt⟩
 have hiN : i < (knL s).length := by omega
 cases hbit : had.testBit i with
 | true =>
  refine At.nrm ?_
  refine At.zi (.q 0 (.q 1 (.q 2 (.q 3 (.q 4 .done))))) ?_
  refine AtT.zf ?_
  refine AtT.zf ?_
  refine AtT.shrN rfl trivial rfl rfl rfl rfl (by omega) (by decide) (A := had) (N := i) ?_
  refine AtT.andN rfl trivial rfl rfl rfl rfl (hshr had i (by omega)) (by decide) (by decide) (A := had >>> i) (B := 1) ?_
  refine AtT.qK ?_
  refine AtT.qp (d := 23) rfl (((jf had i).2 hbit)) ?_
  refine AtT.done ?_
  refine At.nrm ?_
  refine At.qB rfl rfl ?_
  refine At.nrm ?_
  refine At.zi (.q 0 (.q 1 (.q 2 .done))) ?_
  refine AtT.zf ?_
  first | refine AtT.qh ?_ | refine AtT.zT ?_
  refine AtT.zh ?_
  refine AtT.done ?_
  refine At.nrm ?_
  refine At.round (i + 1, had, qs, ll, a4, c4) ?_ ?_ ?_ ?_
  ·show (knL s).length - (i + 1) < (knL s).length - i; omega
  ·exact ⟨hVV, by dsimp only; omega, hql, by dsimp only; omega, hhl, .skip hprt ((hhad i).1 hbit), hhad, hqs⟩
  ·exact ⟨rfl, rfl, rfl, rfl, ivs (by dsimp only; omega), trivial⟩
  ·exact Pt.zI
 | false =>
 have hnone : ¬ ∃ l ∈ ll, (i : Int) ∈ l := fun h => by rw [(hhad i).2 h] at hbit; cases hbit
 refine At.nrm ?_
 refine At.zi (.q 0 (.q 1 (.q 2 (.q 3 (.q 4 .done))))) ?_
 refine AtT.zf ?_
 refine AtT.zf ?_
 refine AtT.shrN rfl trivial rfl rfl rfl rfl (by omega) (by decide) (A := had) (N := i) ?_
 refine AtT.andN rfl trivial rfl rfl rfl rfl (hshr had i (by omega)) (by decide) (by decide) (A := had >>> i) (B := 1) ?_
 refine AtT.qK ?_
 refine AtT.qj (d := 23) rfl ((fun h => by rw [(jf had i).1 h] at hbit; cases hbit)) ?_
 refine AtT.done ?_
 refine At.nrm ?_
 refine At.qE rfl rfl ?_
 refine At.nrm ?_
 refine At.zi (.q 0 (.q 1 (.q 2 .done))) ?_
 refine AtT.zf ?_
 refine AtT.shlN rfl trivial rfl rfl rfl (by omega) (by decide) (N := i) ?_
 refine AtT.zh ?_
 refine AtT.done ?_
 refine At.nrm ?_
 refine At.nrm ?_
 refine At.zi (.q 0 .done) ?_
 refine AtT.zh ?_
 refine AtT.done ?_
 refine At.nrm ?_
 refine At.lp (ι := Nat × Nat) (KS := fun g => [(1, .pointer (some ⟨b1, 0, none⟩)), (3, iv (knL s).length), (4, .slice a4 qs.length c4), (5, iv had), (6, iv i), (7, iv g.2), (8, iv g.1)])
  (OS := fun g => [.blk b1 (LC [.slice a s.rows.length c, iv s.most] 24), .row (.slice a4 qs.length c4) 39 1 qs.length (flat sle qs)])
  (VS := fun g V'' => V' = V'' ∧ g.1 ≤ (knL s).length ∧ Btw (knL s).length (shN (gdS s) (knL s)) i g.1 g.2) (μ := fun g => (knL s).length - g.1) (0, 2 ^ i) ?_ ?_ ?_ ?_
 ·exact ⟨rfl, rfl, rfl, rfl, rfl, rfl, rfl, trivial⟩
 ·exact Pt.zI
 ·exact ⟨rfl, Nat.zero_le _, btw_start hiN⟩
 rintro ⟨r, p0⟩ _ ks' O' ⟨rfl, hrl, hbtw⟩ hk hO hl3
 dsimp only at hrl hbtw hk hO
 subst hk hO
 refine At.nrm ?_
 refine At.zi (.q 0 (.q 1 (.q 2 .done))) ?_
 refine AtT.zf ?_
 refine AtT.zf ?_
 refine AtT.zY ?_
 refine AtT.done ?_
 refine At.nrm ?_
 refine At.zX rfl (fun hp2 => ?_) (fun hp2 => ?_)
 rotate_left
 ·obtain rfl : r = (knL s).length := by omega
  have hpart := btw_end hiN hbtw
  have hplt := hbtw.1
  have hbo : ∀ x, (had ||| p0).testBit x = (had.testBit x || p0.testBit x) := fun x => Nat.testBit_or ..
  refine At.nrm ?_
  refine At.zi (.q 0 (.q 1 (.q 2 (.q 3 .done)))) ?_
  refine AtT.zf ?_
  refine AtT.zf ?_
  refine AtT.orN rfl trivial rfl rfl rfl rfl (by omega) (by omega) (by decide) (A := had) (B := p0) ?_
  refine AtT.zh ?_
  refine AtT.done ?_
  refine At.nrm ?_
  refine At.nrm ?_
  refine At.zi (.q 0 (.q 1 (.q 2 (.n false 3 (.n false 4 (.n true 5 (.q 6 .done))))))) ?_
  refine AtT.zf ?_
  refine AtT.zf ?_
  refine AtT.zf ?_
  refine AtT.qg rfl rfl ok46 (bits_f p0 (knL s).length (by omega) (by omega) _) ?_
  rintro v69 V69 hV69 hs69; obtain ⟨a69, c69, rfl, _⟩ := id hs69; have hbase69 : Le V V69 := (hV12.trans hVV).trans hV69
  refine AtT.zB (bs42_1_0 _ _ _) ?_
  intro q70 V70 hV70 hq70
  have g70 : Le V V70 := by first | exact hV70 | exact Le.trans (by assumption) hV70
  first | refine AtT.jC Tryz.underlying42 rw39 ?_
  intro a71 c71
  refine AtT.zh ?_
  refine AtT.done ?_
  refine At.nrm ?_
  have hql2 : (qs ++ [(a69, (qP p0 (knL s).length).length, c69)]).length = qs.length + 1 := by rw [List.length_append]; rfl
  refine At.nrm ?_
  refine At.zi (.q 0 (.q 1 (.q 2 .done))) ?_
  refine AtT.zf ?_
  first | refine AtT.qh ?_ | refine AtT.zT ?_
  refine AtT.zh ?_
  refine AtT.done ?_
  refine At.nrm ?_
  refine At.round (i + 1, had ||| p0, qs ++ [(a69, (qP p0 (knL s).length).length, c69)], ll ++ [qP p0 (knL s).length], a71, c71) ?_ ?_ ?_ ?_
  ·show (knL s).length - (i + 1) < (knL s).length - i; omega
  ·refine ⟨hVV.trans (by first | assumption | exact Le.trans (by assumption) (by assumption)), by dsimp only; omega, by dsimp only; rw [hql2, List.length_append, hql]; rfl, by dsimp only; omega, Nat.or_lt_two_pow hhl hplt, .add hprt hnone hpart, fun x => ?_, fun j q l h1 h2 => ?_⟩
   ·dsimp only
    rw [hbo, Bool.or_eq_true, hhad x, ← bitL_int hplt x]
    constructor
    ·rintro (⟨l, h1, h2⟩ | h)
     ·exact ⟨l, List.mem_append_left _ h1, h2⟩
     ·exact ⟨_, List.mem_append_right _ (List.mem_singleton.2 rfl), h⟩
    ·rintro ⟨l, h1, h2⟩
     rcases List.mem_append.1 h1 with h1 | h1
     ·exact .inl ⟨l, h1, h2⟩
     ·rw [List.mem_singleton] at h1
      subst h1; exact .inr h2
   ·by_cases e : j < qs.length
    ·rw [List.getElem?_append_left e] at h1
     rw [List.getElem?_append_left (by omega)] at h2
     exact (hqs j q l h1 h2).le (by first | assumption | exact Le.trans (by assumption) (by assumption))
    ·have hj1 := (List.getElem?_eq_some_iff.1 h1).1
     dsimp only at hj1
     rw [hql2] at hj1
     obtain rfl : j = qs.length := by omega
     rw [List.getElem?_append_right (Nat.le_refl _), Nat.sub_self] at h1
     rw [List.getElem?_append_right (by omega), hql, Nat.sub_self] at h2
     obtain rfl := Option.some.inj h1
     obtain rfl := Option.some.inj h2
     exact hs69.le (by first | assumption | exact Le.refl _ | exact Le.trans (by assumption) (by assumption))
  ·dsimp only; rw [hql2]; exact ⟨rfl, rfl, rfl, rfl, ivs (by omega), trivial⟩
  dsimp only
  rw [hql2, jm]
  ·exact Pt.zI
 refine At.nrm ?_
 refine At.zi (.q 0 .done) ?_
 refine AtT.zh ?_
 refine AtT.done ?_
 refine At.nrm ?_
 refine At.lp (ι := Nat × Nat) (KS := fun g => [(1, .pointer (some ⟨b1, 0, none⟩)), (3, iv (knL s).length), (4, .slice a4 qs.length c4), (5, iv had), (6, iv i), (7, iv g.2), (8, iv r), (9, iv g.1)])
  (OS := fun g => [.blk b1 (LC [.slice a s.rows.length c, iv s.most] 24), .row (.slice a4 qs.length c4) 39 1 qs.length (flat sle qs)])
  (VS := fun g V'' => V' = V'' ∧ g.1 ≤ (knL s).length ∧ Rnd (knL s).length (shN (gdS s) (knL s)) i p0 g.2 g.1 0) (μ := fun g => (knL s).length - g.1) (0, p0) ?_ ?_ ?_ ?_
 ·exact ⟨rfl, rfl, rfl, rfl, rfl, rfl, rfl, rfl, trivial⟩
 ·exact Pt.zI
 ·exact ⟨rfl, Nat.zero_le _, rnd_start hbtw⟩
 rintro ⟨j, p⟩ _ ks' O' ⟨rfl, hjl, hrnd⟩ hk hO hl4
 dsimp only at hjl hrnd hk hO
 subst hk hO
 refine At.nrm ?_
 refine At.zi (.q 0 (.q 1 (.q 2 .done))) ?_
 refine AtT.zf ?_
 refine AtT.zf ?_
 refine AtT.zY ?_
 refine AtT.done ?_
 refine At.nrm ?_
 refine At.zX rfl (fun hp3 => ?_) (fun hp3 => ?_)
 rotate_left
 ·obtain rfl : j = (knL s).length := by omega
  refine At.nrm ?_
  refine At.zi (.q 0 (.q 1 (.q 2 .done))) ?_
  refine AtT.zf ?_
  first | refine AtT.qh ?_ | refine AtT.zT ?_
  refine AtT.zh ?_
  refine AtT.done ?_
  refine At.nrm ?_
  refine At.round (r + 1, p) ?_ ?_ ?_ ?_
  ·show (knL s).length - (r + 1) < (knL s).length - r; omega
  ·exact ⟨rfl, by dsimp only; omega, btw_step hbtw hrnd⟩
  ·exact ⟨rfl, rfl, rfl, rfl, rfl, rfl, ivs (by dsimp only; omega), trivial⟩
  ·exact Pt.zI
 refine At.nrm ?_
 refine At.zi (.q 0 .done) ?_
 refine AtT.zh ?_
 refine AtT.done ?_
 refine At.nrm ?_
 refine At.lp (ι := Nat × Nat) (KS := fun g => [(1, .pointer (some ⟨b1, 0, none⟩)), (3, iv (knL s).length), (4, .slice a4 qs.length c4), (5, iv had), (6, iv i), (7, iv g.2), (8, iv r), (9, iv j), (10, iv g.1)])
  (OS := fun g => [.blk b1 (LC [.slice a s.rows.length c, iv s.most] 24), .row (.slice a4 qs.length c4) 39 1 qs.length (flat sle qs)])
  (VS := fun g V'' => V' = V'' ∧ g.1 ≤ (knL s).length ∧ Rnd (knL s).length (shN (gdS s) (knL s)) i p0 g.2 j g.1) (μ := fun g => (knL s).length - g.1) (0, p) ?_ ?_ ?_ ?_
 ·exact ⟨rfl, rfl, rfl, rfl, rfl, rfl, rfl, rfl, rfl, trivial⟩
 ·exact Pt.zI
 ·exact ⟨rfl, Nat.zero_le _, hrnd⟩
 rintro ⟨k, p1⟩ _ ks' O' ⟨rfl, hkl, hrnd1⟩ hk hO hl5
 dsimp only at hkl hrnd1 hk hO
 subst hk hO
 have hp1 := hrnd1.lt
 refine At.nrm ?_
 refine At.zi (.q 0 (.q 1 (.q 2 .done))) ?_
 refine AtT.zf ?_
 refine AtT.zf ?_
 refine AtT.zY ?_
 refine AtT.done ?_
 refine At.nrm ?_
 refine At.zX rfl (fun hp4 => ?_) (fun hp4 => ?_)
 rotate_left
 ·obtain rfl : k = (knL s).length := by omega
  refine At.nrm ?_
  refine At.zi (.q 0 (.q 1 (.q 2 .done))) ?_
  refine AtT.zf ?_
  first | refine AtT.qh ?_ | refine AtT.zT ?_
  refine AtT.zh ?_
  refine AtT.done ?_
  refine At.nrm ?_
  refine At.round (j + 1, p1) ?_ ?_ ?_ ?_
  ·show (knL s).length - (j + 1) < (knL s).length - j; omega
  ·exact ⟨rfl, by dsimp only; omega, rnd_row hrnd1⟩
  ·exact ⟨rfl, rfl, rfl, rfl, rfl, rfl, rfl, ivs (by dsimp only; omega), trivial⟩
  ·exact Pt.zI
 refine At.nrmB ?_
 refine At.jo (ι := Nat) (fun g => [(1, .pointer (some ⟨b1, 0, none⟩)), (3, iv (knL s).length), (4, .slice a4 qs.length c4), (5, iv had), (6, iv i), (7, iv g), (8, iv r), (9, iv j), (10, iv k)])
  (fun g => [.blk b1 (LC [.slice a s.rows.length c, iv s.most] 24), .row (.slice a4 qs.length c4) 39 1 qs.length (flat sle qs)]) (fun g V'' => V' = V'' ∧ Rnd (knL s).length (shN (gdS s) (knL s)) i p0 g j (k + 1)) ?_ ?_
 ·cases t1 : p1.testBit j with
  | false =>
   refine At.nrm ?_
   refine At.zi (.q 0 (.q 1 (.q 2 (.q 3 (.q 4 (.q 5 (.q 6 (.q 7 (.q 8 (.q 9 (.q 10 (.q 11 (.q 12 (.q 13 (.q 14 (.q 15 (.n false 16 (.q 17 .done)))))))))))))))))) ?_
   refine AtT.zf ?_
   refine AtT.zf ?_
   refine AtT.shrN rfl trivial rfl rfl rfl rfl (by omega) (by decide) (A := p1) (N := j) ?_
   refine AtT.andN rfl trivial rfl rfl rfl rfl (hshr p1 j (by omega)) (by decide) (by decide) (A := p1 >>> j) (B := 1) ?_
   refine AtT.qK ?_
   refine AtT.qj (d := 45) rfl ((fun h => by rw [(jf p1 j).1 h] at t1; cases t1)) ?_
   refine AtT.zf ?_
   all_goals (first | refine AtT.kL 46 ?_ | refine AtT.zA (d := 46) rfl (fun hg46 => ?_) (fun hg46 => ?_) | refine AtT.zz (d := 46) rfl (fun hg46 => ?_) (fun hg46 => ?_))
   all_goals first|refine AtT.zg ?_|refine AtT.ze ?_|(refine AtT.zf ?_)
   all_goals first|refine AtT.zg ?_|refine AtT.ze ?_|(refine AtT.zf ?_)
   all_goals first|refine AtT.zg ?_|refine AtT.ze ?_|(fail)
   all_goals first|refine AtT.zg ?_|refine AtT.ze ?_|(fail)
   all_goals first|refine AtT.zg ?_|refine AtT.ze ?_|(refine AtT.qK ?_)
   all_goals (refine AtT.zy ?_)
   all_goals (refine AtT.zf ?_)
   all_goals (first | refine AtT.kL 53 ?_ | refine AtT.zA (d := 53) rfl (fun hg53 => ?_) (fun hg53 => ?_) | refine AtT.zz (d := 53) rfl (fun hg53 => ?_) (fun hg53 => ?_))
   all_goals first|refine AtT.zg ?_|refine AtT.ze ?_|(first | refine AtT.zu zx ?_ | refine AtT.zC zx ?_ | refine AtT.zt zx ?_)
   all_goals first|refine AtT.zg ?_|refine AtT.ze ?_|(refine AtT.zf ?_)
   all_goals first|refine AtT.zg ?_|refine AtT.ze ?_|(refine AtT.zf ?_)
   all_goals (first | refine AtT.zP ?_ | refine AtT.zJ ?_ | ((fail)))
   all_goals (refine AtT.zy ?_)
   all_goals refine AtT.done ?_
   all_goals (refine At.nrm ?_)
   refine At.qE rfl rfl ?_
   refine At.nrm ?_
   exact At.qf p1 ⟨rfl, rnd_skip hrnd1 fun h => by rw [h.1] at t1; cases t1⟩ ⟨rfl, rfl, rfl, rfl, rfl, rfl, rfl, rfl, rfl, trivial⟩ Pt.zI
  | true =>
   cases t2 : p1.testBit k with
   | true =>
    refine At.nrm ?_
    refine At.zi (.q 0 (.q 1 (.q 2 (.q 3 (.q 4 (.q 5 (.q 6 (.q 7 (.q 8 (.q 9 (.q 10 (.q 11 (.q 12 (.q 13 (.q 14 (.q 15 (.n false 16 (.q 17 .done)))))))))))))))))) ?_
    refine AtT.zf ?_
    refine AtT.zf ?_
    refine AtT.shrN rfl trivial rfl rfl rfl rfl (by omega) (by decide) (A := p1) (N := j) ?_
    refine AtT.andN rfl trivial rfl rfl rfl rfl (hshr p1 j (by omega)) (by decide) (by decide) (A := p1 >>> j) (B := 1) ?_
    refine AtT.qK ?_
    refine AtT.qp (d := 45) rfl (((jf p1 j).2 t1)) ?_
    refine AtT.zf ?_
    all_goals (first | refine AtT.kL 46 ?_ | refine AtT.zA (d := 46) rfl (fun hg46 => ?_) (fun hg46 => ?_) | refine AtT.zz (d := 46) rfl (fun hg46 => ?_) (fun hg46 => ?_))
    all_goals first|refine AtT.zg ?_|refine AtT.ze ?_|(refine AtT.zf ?_)
    all_goals first|refine AtT.zg ?_|refine AtT.ze ?_|(refine AtT.zf ?_)
    all_goals first|refine AtT.zg ?_|refine AtT.ze ?_|(refine AtT.shrN rfl ⟨_, _, rfl, rfl, rfl⟩ rfl rfl rfl rfl (by omega) (by decide) (A := p1) (N := k) ?_)
    all_goals first|refine AtT.zg ?_|refine AtT.ze ?_|(refine AtT.andN rfl ⟨_, _, rfl, rfl, rfl⟩ rfl rfl rfl rfl (hshr p1 k (by omega)) (by decide) (by decide) (A := p1 >>> k) (B := 1) ?_)
    all_goals first|refine AtT.zg ?_|refine AtT.ze ?_|(refine AtT.qK ?_)
    all_goals (refine AtT.qj (d := 51) rfl ((by have := (jf p1 k).2 t2; omega)) ?_)
    all_goals (refine AtT.zy ?_)
    all_goals (refine AtT.zf ?_)
    all_goals (first | refine AtT.kL 53 ?_ | refine AtT.zA (d := 53) rfl (fun hg53 => ?_) (fun hg53 => ?_) | refine AtT.zz (d := 53) rfl (fun hg53 => ?_) (fun hg53 => ?_))
    all_goals first|refine AtT.zg ?_|refine AtT.ze ?_|(first | refine AtT.zu zx ?_ | refine AtT.zC zx ?_ | refine AtT.zt zx ?_)
    all_goals first|refine AtT.zg ?_|refine AtT.ze ?_|(refine AtT.zf ?_)
    all_goals first|refine AtT.zg ?_|refine AtT.ze ?_|(refine AtT.zf ?_)
    all_goals (first | refine AtT.zP ?_ | refine AtT.zJ ?_ | ((fail)))
    all_goals (refine AtT.zy ?_)
    all_goals refine AtT.done ?_
    all_goals (refine At.nrm ?_)
    refine At.qE rfl rfl ?_
    refine At.nrm ?_
    exact At.qf p1 ⟨rfl, rnd_skip hrnd1 fun h => by rw [h.2.1] at t2; cases t2⟩ ⟨rfl, rfl, rfl, rfl, rfl, rfl, rfl, rfl, rfl, trivial⟩ Pt.zI
   | false =>
    have hz : ((p1 >>> k &&& 1 : Nat) : Int) = 0 := by
     have h1 : p1 >>> k &&& 1 < 2 := Nat.and_lt_two_pow _ (by decide : (1 : Nat) < 2 ^ 1)
     have h2 : ¬ ((p1 >>> k &&& 1 : Nat) : Int) = 1 := fun h => by rw [(jf p1 k).1 h] at t2; cases t2
     omega
    have hl1 : 2 ^ k < 2 ^ 10 := Nat.pow_lt_pow_right (by omega) (by omega)
    cases hsh : shN (gdS s) (knL s) j k with
    | false =>
     refine At.nrm ?_
     refine At.zi (.q 0 (.q 1 (.q 2 (.q 3 (.q 4 (.q 5 (.q 6 (.q 7 (.q 8 (.q 9 (.q 10 (.q 11 (.q 12 (.q 13 (.q 14 (.q 15 (.n false 16 (.q 17 .done)))))))))))))))))) ?_
     refine AtT.zf ?_
     refine AtT.zf ?_
     refine AtT.shrN rfl trivial rfl rfl rfl rfl (by omega) (by decide) (A := p1) (N := j) ?_
     refine AtT.andN rfl trivial rfl rfl rfl rfl (hshr p1 j (by omega)) (by decide) (by decide) (A := p1 >>> j) (B := 1) ?_
     refine AtT.qK ?_
     refine AtT.qp (d := 45) rfl (((jf p1 j).2 t1)) ?_
     refine AtT.zf ?_
     all_goals (first | refine AtT.kL 46 ?_ | refine AtT.zA (d := 46) rfl (fun hg46 => ?_) (fun hg46 => ?_) | refine AtT.zz (d := 46) rfl (fun hg46 => ?_) (fun hg46 => ?_))
     all_goals first|refine AtT.zg ?_|refine AtT.ze ?_|(refine AtT.zf ?_)
     all_goals first|refine AtT.zg ?_|refine AtT.ze ?_|(refine AtT.zf ?_)
     all_goals first|refine AtT.zg ?_|refine AtT.ze ?_|(refine AtT.shrN rfl ⟨_, _, rfl, rfl, rfl⟩ rfl rfl rfl rfl (by omega) (by decide) (A := p1) (N := k) ?_)
     all_goals first|refine AtT.zg ?_|refine AtT.ze ?_|(refine AtT.andN rfl ⟨_, _, rfl, rfl, rfl⟩ rfl rfl rfl rfl (hshr p1 k (by omega)) (by decide) (by decide) (A := p1 >>> k) (B := 1) ?_)
     all_goals first|refine AtT.zg ?_|refine AtT.ze ?_|(refine AtT.qK ?_)
     all_goals (refine AtT.qp (d := 51) rfl (hz) ?_)
     all_goals (refine AtT.zy ?_)
     all_goals (refine AtT.zf ?_)
     all_goals (first | refine AtT.kL 53 ?_ | refine AtT.zA (d := 53) rfl (fun hg53 => ?_) (fun hg53 => ?_) | refine AtT.zz (d := 53) rfl (fun hg53 => ?_) (fun hg53 => ?_))
     all_goals first|refine AtT.zg ?_|refine AtT.ze ?_|(first | refine AtT.zu zx ?_ | refine AtT.zC zx ?_ | refine AtT.zt zx ?_)
     all_goals first|refine AtT.zg ?_|refine AtT.ze ?_|(refine AtT.zf ?_)
     all_goals first|refine AtT.zg ?_|refine AtT.ze ?_|(refine AtT.zf ?_)
     all_goals (first | refine AtT.zP ?_ | refine AtT.zJ ?_ | ((refine AtT.zq rfl rfl ok95 (rshare_f s hok j k (by omega) (by omega) _ _ hv2) ?_) ; (rintro _ rfl; rw [hsh])))
     all_goals (refine AtT.zy ?_)
     all_goals refine AtT.done ?_
     all_goals (refine At.nrm ?_)
     refine At.qE rfl rfl ?_
     refine At.nrm ?_
     exact At.qf p1 ⟨rfl, rnd_skip hrnd1 fun h => by rw [h.2.2] at hsh; cases hsh⟩ ⟨rfl, rfl, rfl, rfl, rfl, rfl, rfl, rfl, rfl, trivial⟩ Pt.zI
    | true =>
     refine At.nrm ?_
     refine At.zi (.q 0 (.q 1 (.q 2 (.q 3 (.q 4 (.q 5 (.q 6 (.q 7 (.q 8 (.q 9 (.q 10 (.q 11 (.q 12 (.q 13 (.q 14 (.q 15 (.n false 16 (.q 17 .done)))))))))))))))))) ?_
     refine AtT.zf ?_
     refine AtT.zf ?_
     refine AtT.shrN rfl trivial rfl rfl rfl rfl (by omega) (by decide) (A := p1) (N := j) ?_
     refine AtT.andN rfl trivial rfl rfl rfl rfl (hshr p1 j (by omega)) (by decide) (by decide) (A := p1 >>> j) (B := 1) ?_
     refine AtT.qK ?_
     refine AtT.qp (d := 45) rfl (((jf p1 j).2 t1)) ?_
     refine AtT.zf ?_
     all_goals (first | refine AtT.kL 46 ?_ | refine AtT.zA (d := 46) rfl (fun hg46 => ?_) (fun hg46 => ?_) | refine AtT.zz (d := 46) rfl (fun hg46 => ?_) (fun hg46 => ?_))
     all_goals first|refine AtT.zg ?_|refine AtT.ze ?_|(refine AtT.zf ?_)
     all_goals first|refine AtT.zg ?_|refine AtT.ze ?_|(refine AtT.zf ?_)
     all_goals first|refine AtT.zg ?_|refine AtT.ze ?_|(refine AtT.shrN rfl ⟨_, _, rfl, rfl, rfl⟩ rfl rfl rfl rfl (by omega) (by decide) (A := p1) (N := k) ?_)
     all_goals first|refine AtT.zg ?_|refine AtT.ze ?_|(refine AtT.andN rfl ⟨_, _, rfl, rfl, rfl⟩ rfl rfl rfl rfl (hshr p1 k (by omega)) (by decide) (by decide) (A := p1 >>> k) (B := 1) ?_)
     all_goals first|refine AtT.zg ?_|refine AtT.ze ?_|(refine AtT.qK ?_)
     all_goals (refine AtT.qp (d := 51) rfl (hz) ?_)
     all_goals (refine AtT.zy ?_)
     all_goals (refine AtT.zf ?_)
     all_goals (first | refine AtT.kL 53 ?_ | refine AtT.zA (d := 53) rfl (fun hg53 => ?_) (fun hg53 => ?_) | refine AtT.zz (d := 53) rfl (fun hg53 => ?_) (fun hg53 => ?_))
     all_goals first|refine AtT.zg ?_|refine AtT.ze ?_|(first | refine AtT.zu zx ?_ | refine AtT.zC zx ?_ | refine AtT.zt zx ?_)
     all_goals first|refine AtT.zg ?_|refine AtT.ze ?_|(refine AtT.zf ?_)
     all_goals first|refine AtT.zg ?_|refine AtT.ze ?_|(refine AtT.zf ?_)
     all_goals (first | refine AtT.zP ?_ | refine AtT.zJ ?_ | ((refine AtT.zq rfl rfl ok95 (rshare_f s hok j k (by omega) (by omega) _ _ hv2) ?_) ; (rintro _ rfl; rw [hsh])))
     all_goals (refine AtT.zy ?_)
     all_goals refine AtT.done ?_
     all_goals (refine At.nrm ?_)
     refine At.qB rfl rfl ?_
     refine At.nrm ?_
     refine At.zi (.q 0 (.q 1 (.q 2 (.q 3 (.q 4 .done))))) ?_
     refine AtT.zf ?_
     refine AtT.zf ?_
     refine AtT.shlN rfl trivial rfl rfl rfl (by omega) (by decide) (N := k) ?_
     refine AtT.orN rfl trivial rfl rfl rfl rfl (by omega) (by omega) (by decide) (A := p1) (B := 2 ^ k) ?_
     refine AtT.zh ?_
     refine AtT.done ?_
     refine At.nrm ?_
     exact At.qf (p1 ||| 2 ^ k) ⟨rfl, rnd_add hrnd1 (by omega) t1 hsh⟩ ⟨rfl, rfl, rfl, rfl, rfl, rfl, rfl, rfl, rfl, trivial⟩ Pt.zI
 rintro p2 _ ks' O' ⟨rfl, hrnd2⟩ hk hO hl6
 subst hk hO
 refine At.nrm ?_
 refine At.zi (.q 0 (.q 1 (.q 2 .done))) ?_
 refine AtT.zf ?_
 first | refine AtT.qh ?_ | refine AtT.zT ?_
 refine AtT.zh ?_
 refine AtT.done ?_
 refine At.nrm ?_
 refine At.round (k + 1, p2) ?_ ?_ ?_ ?_
 ·show (knL s).length - (k + 1) < (knL s).length - k; omega
 ·exact ⟨rfl, by dsimp only; omega, hrnd2⟩
 ·exact ⟨rfl, rfl, rfl, rfl, rfl, rfl, rfl, rfl, ivs (by dsimp only; omega), trivial⟩
 ·exact Pt.zI
end Go.Proofs.YtghomjjffllkeaaGreatDoor
set_option linter.unusedVariables false
namespace Go.Proofs.YtghomjjffllkeaaGreatDoor
open Go.Lw Go.Gl Go.Pm Go.RowKit
def PrR (s : Sh) (r : Value) (V' : View) : Prop := ∃ u ll, r = .tuple #[u, iv (chE s)] ∧ SL V' u ll ∧ ((chE s ≠ 0 ∧ ll = []) ∨ (chE s = 0 ∧ PrtK (knL s).length (shN (gdS s) (knL s)) (knL s).length ll))
theorem partsP_f (s : Sh) (V : View) (v : Value) (hv : ShV V v s) : Fnc Tryz.prog 30 [v] V (PrR s) := by
 obtain ⟨a, c, rfl, hs⟩ := id hv
 refine qc Tryz.func30 rfl Tryz.ntmps30 (Nat.le_of_ble_eq_true rfl) ?_
 intro w0 hw0
 refine At.nrm ?_
 refine At.zi (.n false 0 (.q 1 (.q 2 .done))) ?_
 refine AtT.qV ?_
 intro b1
 refine AtT.zh ?_
 refine AtT.zh ?_
 refine AtT.done ?_
 refine At.nrm ?_
 by_cases h0 : chE s = 0
 rotate_left
 ·refine At.zi (.q 0 (.n false 1 (.q 2 (.q 3 (.q 4 (.q 5 (.q 6 .done))))))) ?_
  first | refine AtT.zu zx ?_ | refine AtT.zC zx ?_ | refine AtT.zt zx ?_
  refine AtT.qg rfl rfl ok57 (open_bad s h0 _ _ hv) ?_
  rintro v8 V8 hV8 rfl
  refine AtT.zf ?_
  refine AtT.zO ?_
  refine AtT.zO ?_
  refine AtT.zh ?_
  refine AtT.zh ?_
  refine AtT.done ?_
  refine At.nrm ?_
  refine At.nrm ?_
  refine At.zi (.q 0 (.q 1 .done)) ?_
  refine AtT.zf ?_
  refine AtT.qC ?_
  refine AtT.done ?_
  refine At.nrm ?_
  refine At.qB rfl (decide_eq_true h0) ?_
  refine At.nrm ?_
  refine At.zi (.q 0 (.q 1 (.q 2 .done))) ?_
  refine AtT.zf ?_
  refine AtT.zh ?_
  refine AtT.zh ?_
  refine AtT.done ?_
  refine At.nrm ?_
  exact At.jb rfl (.tmp rfl) (.tmp rfl) ⟨_, [], rfl, SL.nil _, .inl ⟨h0, rfl⟩⟩
 refine At.zi (.q 0 (.n false 1 (.q 2 (.q 3 (.q 4 (.q 5 (.q 6 .done))))))) ?_
 first | refine AtT.zu zx ?_ | refine AtT.zC zx ?_ | refine AtT.zt zx ?_
 refine AtT.qg rfl rfl ok57 (open_ok s h0 _ _ hv) ?_
 rintro v8 V8 hV8 ⟨b, rfl, hb⟩
 refine AtT.zf ?_
 refine AtT.zO ?_
 refine AtT.zO ?_
 refine AtT.zh ?_
 refine AtT.zh ?_
 refine AtT.done ?_
 refine At.nrm ?_
 refine At.nrm ?_
 refine At.zi (.q 0 (.q 1 .done)) ?_
 refine AtT.zf ?_
 refine AtT.qC ?_
 refine AtT.done ?_
 refine At.nrm ?_
 refine At.qE rfl rfl ?_
 refine At.nrm ?_
 refine At.zi (.q 0 (.n false 1 (.q 2 (.q 3 .done)))) ?_
 refine AtT.zf ?_
 refine AtT.qg rfl rfl ok66 (parts_f s (jl h0) _ b hb) ?_
 rintro v15 V15 hV15 ⟨ll, hs15, hk15⟩
 refine AtT.zh ?_
 refine AtT.zh ?_
 refine AtT.done ?_
 refine At.nrm ?_
 exact At.jb rfl (.tmp rfl) (.tmp rfl) ⟨_, ll, by rw [h0], hs15, .inr ⟨h0, hk15⟩⟩
theorem rpartsP_f (s : Sh) (V : View) (v : Value) (hv : ShV V v s) : Fnc Tryz.prog 31 [v] V (PrR s) := by
 obtain ⟨a, c, rfl, hs⟩ := id hv
 refine qc Tryz.func31 rfl Tryz.ntmps31 (Nat.le_of_ble_eq_true rfl) ?_
 intro w0 hw0
 refine At.nrm ?_
 refine At.zi (.n false 0 (.q 1 (.q 2 .done))) ?_
 refine AtT.qV ?_
 intro b1
 refine AtT.zh ?_
 refine AtT.zh ?_
 refine AtT.done ?_
 refine At.nrm ?_
 refine At.zi (.q 0 (.n false 1 (.q 2 .done))) ?_
 first | refine AtT.zu zx ?_ | refine AtT.zC zx ?_ | refine AtT.zt zx ?_
 refine AtT.zq rfl rfl ok20 (qJ s _ _ hv) ?_
 rintro _ rfl
 refine AtT.qC ?_
 refine AtT.done ?_
 refine At.nrm ?_
 refine At.zX rfl (fun h0 => ?_) (fun h0 => ?_)
 ·refine At.nrm ?_
  refine At.zi (.q 0 (.n false 1 (.q 2 (.q 3 .done)))) ?_
  first | refine AtT.zu zx ?_ | refine AtT.zC zx ?_ | refine AtT.zt zx ?_
  refine AtT.zq rfl rfl ok20 (qJ s _ _ hv) ?_
  rintro _ rfl
  refine AtT.zh ?_
  refine AtT.zh ?_
  refine AtT.done ?_
  refine At.nrm ?_
  exact At.jb rfl (.tmp rfl) (.tmp rfl) ⟨_, [], rfl, SL.nil _, .inl ⟨h0, rfl⟩⟩
 have h0' := Classical.not_not.1 h0
 refine At.nrm ?_
 refine At.zi (.q 0 (.n false 1 (.q 2 (.q 3 .done)))) ?_
 first | refine AtT.zu zx ?_ | refine AtT.zC zx ?_ | refine AtT.zt zx ?_
 refine AtT.qg rfl rfl ok67 (partsOf_f s (jl h0') _ _ hv) ?_
 rintro v10 V10 hV10 ⟨ll, hs10, hk10⟩
 refine AtT.zh ?_
 refine AtT.zh ?_
 refine AtT.done ?_
 refine At.nrm ?_
 exact At.jb rfl (.tmp rfl) (.tmp rfl) ⟨_, ll, by rw [h0'], hs10, .inr ⟨h0', hk10⟩⟩
theorem sheetP_f (s : Sh) (V : View) (v : Value) (hv : ShV V v s) : Fnc Tryz.prog 19 [v] V fun r _ => r = iv (chE s) := by
 obtain ⟨a, c, rfl, hs⟩ := id hv
 refine qc Tryz.func19 rfl Tryz.ntmps19 (Nat.le_of_ble_eq_true rfl) ?_
 intro w0 hw0
 refine At.nrm ?_
 refine At.zi (.n false 0 (.q 1 .done)) ?_
 refine AtT.qV ?_
 intro b1
 refine AtT.zh ?_
 refine AtT.done ?_
 refine At.nrm ?_
 by_cases h0 : chE s = 0
 rotate_left
 ·refine At.zi (.q 0 (.n false 1 (.q 2 (.q 3 (.q 4 (.q 5 (.q 6 .done))))))) ?_
  first | refine AtT.zu zx ?_ | refine AtT.zC zx ?_ | refine AtT.zt zx ?_
  refine AtT.qg rfl rfl ok57 (open_bad s h0 _ _ hv) ?_
  rintro v7 V7 hV7 rfl
  refine AtT.zf ?_
  refine AtT.zO ?_
  refine AtT.zO ?_
  refine AtT.zh ?_
  refine AtT.zh ?_
  refine AtT.done ?_
  refine At.nrm ?_
  refine At.nrm ?_
  refine At.zi (.q 0 (.q 1 .done)) ?_
  refine AtT.zf ?_
  refine AtT.zh ?_
  refine AtT.done ?_
  refine At.nrm ?_
  exact At.qd rfl (.tmp rfl) rfl
 refine At.zi (.q 0 (.n false 1 (.q 2 (.q 3 (.q 4 (.q 5 (.q 6 .done))))))) ?_
 first | refine AtT.zu zx ?_ | refine AtT.zC zx ?_ | refine AtT.zt zx ?_
 refine AtT.qg rfl rfl ok57 (open_ok s h0 _ _ hv) ?_
 rintro v7 V7 hV7 ⟨b, rfl, hb⟩
 refine AtT.zf ?_
 refine AtT.zO ?_
 refine AtT.zO ?_
 refine AtT.zh ?_
 refine AtT.zh ?_
 refine AtT.done ?_
 refine At.nrm ?_
 refine At.nrm ?_
 refine At.zi (.q 0 (.q 1 .done)) ?_
 refine AtT.zf ?_
 refine AtT.zh ?_
 refine AtT.done ?_
 refine At.nrm ?_
 exact At.qd rfl (.tmp rfl) (by rw [h0])
theorem take_same {α : Type} {l m : List α} {k : Nat} {x : α} (h : l.take k = m.take k) (hl : l[k]? = some x) (hm : m[k]? = some x) : l.take (k + 1) = m.take (k + 1) := by
 rw [take_snoc' hl, take_snoc' hm, h]
theorem take_diff {α : Type} {l m : List α} {k : Nat} {x y : α} (hl : l[k]? = some x) (hm : m[k]? = some y) (h : x ≠ y) : l ≠ m := fun e => by
 subst e; rw [hl] at hm; exact h (Option.some.inj hm)
theorem equalS_f (l m : List ByteArray) (V : View) (v u : Value) (hl : Sl V bse 1 v l) (hm : Sl V bse 1 u m) : Fnc Tryz.prog 80 [v, u] V fun r _ => r = .bool (decide (l = m)) := by
 have hll := hl.jq
 have hml := hm.jq
 obtain ⟨a, c, rfl, k1, k2, _⟩ := id hl
 clear k1 k2
 obtain ⟨a2, c2, rfl, k1, k2, _⟩ := id hm
 clear k1 k2
 refine qc Tryz.func80 rfl Tryz.ntmps80 (Nat.le_of_ble_eq_true rfl) ?_
 intro w0 hw0
 refine At.nrm ?_
 refine At.zi (.q 0 .done) ?_
 refine AtT.zh ?_
 refine AtT.done ?_
 refine At.nrm ?_
 refine At.zi (.q 0 (.q 1 (.q 2 (.q 3 (.q 4 .done))))) ?_
 refine AtT.zf ?_
 first | refine AtT.zU Tryz.underlying22 ?_ | refine AtT.zV Tryz.underlying22 ?_
 refine AtT.zf ?_
 first | refine AtT.zU Tryz.underlying22 ?_ | refine AtT.zV Tryz.underlying22 ?_
 refine AtT.qC ?_
 refine AtT.done ?_
 refine At.nrm ?_
 refine At.zX rfl (fun h0 => ?_) (fun h0 => ?_)
 ·refine At.nrm ?_
  refine At.zi (.q 0 .done) ?_
  refine AtT.zh ?_
  refine AtT.done ?_
  refine At.nrm ?_
  exact At.qd rfl (.tmp rfl) (by rw [decide_eq_false (fun e => h0 (by rw [e]))])
 refine At.nrm ?_
 refine At.zi (.q 0 (.q 1 (.q 2 .done))) ?_
 refine AtT.zf ?_
 first | refine AtT.zU Tryz.underlying22 ?_ | refine AtT.zV Tryz.underlying22 ?_
 refine AtT.zf ?_
 refine AtT.done ?_
 refine At.nrm ?_
 refine At.lp (ι := Nat) (KS := fun k => [(0, .slice a l.length c), (1, .slice a2 m.length c2), (12, iv l.length), (13, iv k)]) (OS := fun _ => []) (VS := fun k V' => V = V' ∧ k ≤ l.length ∧ l.take k = m.take k) (μ := fun k => l.length - k) 0 ?_ ?_ ?_ ?_
 ·exact ⟨rfl, rfl, rfl, rfl, trivial⟩
 ·exact Pt.zI
 ·exact ⟨rfl, Nat.zero_le _, rfl⟩
 rintro k _ ks' O' ⟨rfl, hkl, htk⟩ hk hO hl2
 subst hk hO
 refine At.nrm ?_
 refine At.zi (.q 0 .done) ?_
 refine AtT.zY ?_
 refine AtT.done ?_
 refine At.nrm ?_
 refine At.zX rfl (fun hp => ?_) (fun hp => ?_)
 rotate_left
 ·obtain rfl : k = l.length := by omega
  rw [List.take_length, List.take_of_length_le (by omega)] at htk
  refine At.nrm ?_
  refine At.zi (.q 0 .done) ?_
  refine AtT.zh ?_
  refine AtT.done ?_
  refine At.nrm ?_
  exact At.qd rfl (.tmp rfl) (by rw [decide_eq_true htk])
 obtain ⟨x, hx⟩ : ∃ x, l[k]? = some x := ⟨_, List.getElem?_eq_getElem (by omega)⟩
 obtain ⟨y, hy⟩ : ∃ y, m[k]? = some y := ⟨_, List.getElem?_eq_getElem (by omega)⟩
 refine At.nrm ?_
 refine At.zi (.q 0 (.q 1 .done)) ?_
 refine AtT.zf ?_
 refine AtT.zh ?_
 refine AtT.done ?_
 refine At.nrm ?_
 refine At.jo (ι := Unit) (fun _ => [(0, .slice a l.length c), (1, .slice a2 m.length c2), (12, iv l.length), (13, iv k), (24, .bool (decide (x ≠ y)))]) (fun _ => []) (fun _ V'' => V = V'') ?_ ?_
 ·refine At.draw (.q 0 (.q 1 (.q 2 (.q 3 (.q 4 (.q 5 (.q 6 (.q 7 (.q 8 .done))))))))) ffm (by kernel_rfl) ?_
  refine AtT.zf ?_
  refine AtT.zf ?_
  refine AtT.qi Tryz.underlying22 tk9 ?_
  intro p18 e18 he18 hc18
  first | refine AtT.zm tk9 ?_ | refine AtT.zo tk9 ?_
  obtain rfl : x = e18 := by have : l[k]? = some e18 := (by simpa using he18); rw [hx] at this; simpa using this
  refine AtT.zf ?_
  refine AtT.zf ?_
  refine AtT.qi Tryz.underlying22 tk9 ?_
  intro p22 e22 he22 hc22
  first | refine AtT.zm tk9 ?_ | refine AtT.zo tk9 ?_
  obtain rfl : y = e22 := by have : m[k]? = some e22 := (by simpa using he22); rw [hy] at this; simpa using this
  refine AtT.neStr rfl trivial rfl rfl (by decide) ?_
  refine AtT.done ?_
  refine At.nrm ?_
  all_goals (exact At.qf () rfl ⟨rfl, rfl, rfl, rfl, rfl, trivial⟩ Pt.zI)
 rintro _ _ ks' O' rfl hk hO hl3
 subst hk hO
 refine At.zX rfl (fun hd => ?_) (fun hd => ?_)
 ·refine At.nrm ?_
  refine At.zi (.q 0 .done) ?_
  refine AtT.zh ?_
  refine AtT.done ?_
  refine At.nrm ?_
  exact At.qd rfl (.tmp rfl) (by rw [decide_eq_false (take_diff hx hy hd)])
 ·obtain rfl := Classical.not_not.1 hd
  refine At.nrm ?_
  refine At.zi (.q 0 (.q 1 .done)) ?_
  first | refine AtT.qh ?_ | refine AtT.zT ?_
  refine AtT.zf ?_
  refine AtT.done ?_
  refine At.nrm ?_
  refine At.round (k + 1) ?_ ?_ ?_ ?_
  ·show l.length - (k + 1) < l.length - k; omega
  ·exact ⟨rfl, by omega, take_same htk hx hy⟩
  ·exact ⟨rfl, rfl, rfl, ivs (by omega), trivial⟩
  ·exact Pt.zI
theorem requal_f (s t : Sh) (V : View) (v u : Value) (hv : ShV V v s) (hu : ShV V u t) : Fnc Tryz.prog 42 [v, u] V fun r _ => r = .bool (decide (s.most = t.most ∧ s.rows = t.rows)) := by
 obtain ⟨a, c, rfl, hl⟩ := hv
 obtain ⟨a2, c2, rfl, hm⟩ := hu
 have hll := hl.jq
 have hml := hm.jq
 refine qc Tryz.func42 rfl Tryz.ntmps42 (Nat.le_of_ble_eq_true rfl) ?_
 intro w0 hw0
 refine At.nrm ?_
 refine At.zi (.n false 0 (.n false 1 (.q 2 .done))) ?_
 refine AtT.qV ?_
 intro b2
 refine AtT.qV ?_
 intro b3
 refine AtT.zh ?_
 refine AtT.done ?_
 refine At.nrm ?_
 by_cases h1 : s.most = t.most
 rotate_left
 ·refine At.zi (.q 0 (.q 1 (.q 2 (.q 3 (.q 4 (.q 5 (.q 6 (.q 7 (.q 8 (.q 9 (.q 10 (.q 11 (.q 12 (.q 13 .done)))))))))))))) ?_
  first | refine AtT.zk zR ?_ | with_reducible refine AtT.zl zR ?_ | refine AtT.zn zR ?_
  first | refine AtT.zm tk3 ?_ | refine AtT.zo tk3 ?_
  first | refine AtT.zk zR ?_ | with_reducible refine AtT.zl zR ?_ | refine AtT.zn zR ?_
  first | refine AtT.zm tk3 ?_ | refine AtT.zo tk3 ?_
  refine AtT.qC ?_
  refine AtT.qp (d := 10) rfl (h1) ?_
  refine AtT.zf ?_
  all_goals (first | refine AtT.kL 11 ?_ | refine AtT.zA (d := 11) rfl (fun hg11 => ?_) (fun hg11 => ?_) | refine AtT.zz (d := 11) rfl (fun hg11 => ?_) (fun hg11 => ?_))
  all_goals first|refine AtT.zg ?_|refine AtT.ze ?_|(first | refine AtT.zk zw ?_ | with_reducible refine AtT.zl zw ?_ | refine AtT.zn zw ?_)
  all_goals first|refine AtT.zg ?_|refine AtT.ze ?_|(first | refine AtT.zm qa ?_ | refine AtT.zo qa ?_)
  all_goals first|refine AtT.zg ?_|refine AtT.ze ?_|(first | refine AtT.zU Tryz.underlying22 ?_ | refine AtT.zV Tryz.underlying22 ?_)
  all_goals first|refine AtT.zg ?_|refine AtT.ze ?_|(first | refine AtT.zk zw ?_ | with_reducible refine AtT.zl zw ?_ | refine AtT.zn zw ?_)
  all_goals first|refine AtT.zg ?_|refine AtT.ze ?_|(first | refine AtT.zm qa ?_ | refine AtT.zo qa ?_)
  all_goals first|refine AtT.zg ?_|refine AtT.ze ?_|(first | refine AtT.zU Tryz.underlying22 ?_ | refine AtT.zV Tryz.underlying22 ?_)
  all_goals first|refine AtT.zg ?_|refine AtT.ze ?_|(refine AtT.qC ?_)
  all_goals (refine AtT.zy ?_)
  all_goals refine AtT.done ?_
  all_goals (refine At.nrm ?_)
  refine At.qB rfl rfl ?_
  refine At.nrm ?_
  refine At.zi (.q 0 .done) ?_
  refine AtT.zh ?_
  refine AtT.done ?_
  refine At.nrm ?_
  exact At.qd rfl (.tmp rfl) (by rw [decide_eq_false (fun e => h1 e.1)])
 by_cases h2 : s.rows.length = t.rows.length
 rotate_left
 ·refine At.zi (.q 0 (.q 1 (.q 2 (.q 3 (.q 4 (.q 5 (.q 6 (.q 7 (.q 8 (.q 9 (.q 10 (.q 11 (.q 12 (.q 13 .done)))))))))))))) ?_
  first | refine AtT.zk zR ?_ | with_reducible refine AtT.zl zR ?_ | refine AtT.zn zR ?_
  first | refine AtT.zm tk3 ?_ | refine AtT.zo tk3 ?_
  first | refine AtT.zk zR ?_ | with_reducible refine AtT.zl zR ?_ | refine AtT.zn zR ?_
  first | refine AtT.zm tk3 ?_ | refine AtT.zo tk3 ?_
  refine AtT.qC ?_
  refine AtT.qj (d := 10) rfl ((by omega)) ?_
  refine AtT.zf ?_
  all_goals (first | refine AtT.kL 11 ?_ | refine AtT.zA (d := 11) rfl (fun hg11 => ?_) (fun hg11 => ?_) | refine AtT.zz (d := 11) rfl (fun hg11 => ?_) (fun hg11 => ?_))
  all_goals first|refine AtT.zg ?_|refine AtT.ze ?_|(first | refine AtT.zk zw ?_ | with_reducible refine AtT.zl zw ?_ | refine AtT.zn zw ?_)
  all_goals first|refine AtT.zg ?_|refine AtT.ze ?_|(first | refine AtT.zm qa ?_ | refine AtT.zo qa ?_)
  all_goals first|refine AtT.zg ?_|refine AtT.ze ?_|(first | refine AtT.zU Tryz.underlying22 ?_ | refine AtT.zV Tryz.underlying22 ?_)
  all_goals first|refine AtT.zg ?_|refine AtT.ze ?_|(first | refine AtT.zk zw ?_ | with_reducible refine AtT.zl zw ?_ | refine AtT.zn zw ?_)
  all_goals first|refine AtT.zg ?_|refine AtT.ze ?_|(first | refine AtT.zm qa ?_ | refine AtT.zo qa ?_)
  all_goals first|refine AtT.zg ?_|refine AtT.ze ?_|(first | refine AtT.zU Tryz.underlying22 ?_ | refine AtT.zV Tryz.underlying22 ?_)
  all_goals first|refine AtT.zg ?_|refine AtT.ze ?_|(refine AtT.qC ?_)
  all_goals (refine AtT.qp (d := 18) rfl ((by omega)) ?_)
  all_goals (refine AtT.zy ?_)
  all_goals refine AtT.done ?_
  all_goals (refine At.nrm ?_)
  refine At.qB rfl rfl ?_
  refine At.nrm ?_
  refine At.zi (.q 0 .done) ?_
  refine AtT.zh ?_
  refine AtT.done ?_
  refine At.nrm ?_
  exact At.qd rfl (.tmp rfl) (by rw [decide_eq_false (fun e => h2 (by rw [e.2]))])
 refine At.zi (.q 0 (.q 1 (.q 2 (.q 3 (.q 4 (.q 5 (.q 6 (.q 7 (.q 8 (.q 9 (.q 10 (.q 11 (.q 12 (.q 13 .done)))))))))))))) ?_
 first | refine AtT.zk zR ?_ | with_reducible refine AtT.zl zR ?_ | refine AtT.zn zR ?_
 first | refine AtT.zm tk3 ?_ | refine AtT.zo tk3 ?_
 first | refine AtT.zk zR ?_ | with_reducible refine AtT.zl zR ?_ | refine AtT.zn zR ?_
 first | refine AtT.zm tk3 ?_ | refine AtT.zo tk3 ?_
 refine AtT.qC ?_
 refine AtT.qj (d := 10) rfl ((by omega)) ?_
 refine AtT.zf ?_
 all_goals (first | refine AtT.kL 11 ?_ | refine AtT.zA (d := 11) rfl (fun hg11 => ?_) (fun hg11 => ?_) | refine AtT.zz (d := 11) rfl (fun hg11 => ?_) (fun hg11 => ?_))
 all_goals first|refine AtT.zg ?_|refine AtT.ze ?_|(first | refine AtT.zk zw ?_ | with_reducible refine AtT.zl zw ?_ | refine AtT.zn zw ?_)
 all_goals first|refine AtT.zg ?_|refine AtT.ze ?_|(first | refine AtT.zm qa ?_ | refine AtT.zo qa ?_)
 all_goals first|refine AtT.zg ?_|refine AtT.ze ?_|(first | refine AtT.zU Tryz.underlying22 ?_ | refine AtT.zV Tryz.underlying22 ?_)
 all_goals first|refine AtT.zg ?_|refine AtT.ze ?_|(first | refine AtT.zk zw ?_ | with_reducible refine AtT.zl zw ?_ | refine AtT.zn zw ?_)
 all_goals first|refine AtT.zg ?_|refine AtT.ze ?_|(first | refine AtT.zm qa ?_ | refine AtT.zo qa ?_)
 all_goals first|refine AtT.zg ?_|refine AtT.ze ?_|(first | refine AtT.zU Tryz.underlying22 ?_ | refine AtT.zV Tryz.underlying22 ?_)
 all_goals first|refine AtT.zg ?_|refine AtT.ze ?_|(refine AtT.qC ?_)
 all_goals (refine AtT.qj (d := 18) rfl ((by omega)) ?_)
 all_goals (refine AtT.zy ?_)
 all_goals refine AtT.done ?_
 all_goals (refine At.nrm ?_)
 refine At.qE rfl rfl ?_
 refine At.nrm ?_
 refine At.zi (.q 0 .done) ?_
 refine AtT.zh ?_
 refine AtT.done ?_
 refine At.nrm ?_
 refine At.lp (ι := Nat) (KS := fun k => [(2, .pointer (some ⟨b2, 0, none⟩)), (3, .pointer (some ⟨b3, 0, none⟩)), (5, iv k)]) (OS := fun _ => [.blk b2 (LC [.slice a s.rows.length c, iv s.most] 24), .blk b3 (LC [.slice a2 t.rows.length c2, iv t.most] 24)]) (VS := fun k V' => V = V' ∧ k ≤ s.rows.length ∧ s.rows.take k = t.rows.take k) (μ := fun k => s.rows.length - k) 0 ?_ ?_ ?_ ?_
 ·exact ⟨rfl, rfl, rfl, trivial⟩
 ·exact Pt.zI
 ·exact ⟨rfl, Nat.zero_le _, rfl⟩
 rintro k _ ks' O' ⟨rfl, hkl, htk⟩ hk hO hl2
 subst hk hO
 refine At.nrm ?_
 refine At.zi (.q 0 (.q 1 (.q 2 (.q 3 (.q 4 .done))))) ?_
 refine AtT.zf ?_
 first | refine AtT.zk zw ?_ | with_reducible refine AtT.zl zw ?_ | refine AtT.zn zw ?_
 first | refine AtT.zm qa ?_ | refine AtT.zo qa ?_
 first | refine AtT.zU Tryz.underlying22 ?_ | refine AtT.zV Tryz.underlying22 ?_
 refine AtT.zY ?_
 refine AtT.done ?_
 refine At.nrm ?_
 refine At.zX rfl (fun hp => ?_) (fun hp => ?_)
 rotate_left
 ·obtain rfl : k = s.rows.length := by omega
  rw [List.take_length, List.take_of_length_le (by omega)] at htk
  refine At.nrm ?_
  refine At.zi (.q 0 .done) ?_
  refine AtT.zh ?_
  refine AtT.done ?_
  refine At.nrm ?_
  exact At.qd rfl (.tmp rfl) (by rw [decide_eq_true ⟨h1, htk⟩])
 obtain ⟨x, hx⟩ : ∃ x, s.rows[k]? = some x := ⟨_, List.getElem?_eq_getElem (by omega)⟩
 obtain ⟨y, hy⟩ : ∃ y, t.rows[k]? = some y := ⟨_, List.getElem?_eq_getElem (by omega)⟩
 refine At.nrm ?_
 refine At.jo (ι := Unit) (fun _ => [(2, .pointer (some ⟨b2, 0, none⟩)), (3, .pointer (some ⟨b3, 0, none⟩)), (5, iv k), (37, .bool (decide (x ≠ y)))]) (fun _ => [.blk b2 (LC [.slice a s.rows.length c, iv s.most] 24), .blk b3 (LC [.slice a2 t.rows.length c2, iv t.most] 24)]) (fun _ V'' => V = V'') ?_ ?_
 ·refine At.draw (.q 0 (.q 1 (.q 2 (.q 3 (.q 4 (.q 5 (.q 6 (.q 7 (.q 8 (.q 9 (.q 10 .done))))))))))) ffm (by kernel_rfl) ?_
  first | refine AtT.zk zw ?_ | with_reducible refine AtT.zl zw ?_ | refine AtT.zn zw ?_
  first | refine AtT.zm qa ?_ | refine AtT.zo qa ?_
  refine AtT.zf ?_
  refine AtT.qi Tryz.underlying22 tk9 ?_
  intro p30 e30 he30 hc30
  first | refine AtT.zm tk9 ?_ | refine AtT.zo tk9 ?_
  obtain rfl : x = e30 := by have : s.rows[k]? = some e30 := (by simpa using he30); rw [hx] at this; simpa using this
  first | refine AtT.zk zw ?_ | with_reducible refine AtT.zl zw ?_ | refine AtT.zn zw ?_
  first | refine AtT.zm qa ?_ | refine AtT.zo qa ?_
  refine AtT.zf ?_
  refine AtT.qi Tryz.underlying22 tk9 ?_
  intro p35 e35 he35 hc35
  first | refine AtT.zm tk9 ?_ | refine AtT.zo tk9 ?_
  obtain rfl : y = e35 := by have : t.rows[k]? = some e35 := (by simpa using he35); rw [hy] at this; simpa using this
  refine AtT.neStr rfl trivial rfl rfl (by decide) ?_
  refine AtT.done ?_
  refine At.nrm ?_
  all_goals (exact At.qf () rfl ⟨rfl, rfl, rfl, rfl, trivial⟩ Pt.zI)
 rintro _ _ ks' O' rfl hk hO hl3
 subst hk hO
 refine At.zX rfl (fun hd => ?_) (fun hd => ?_)
 ·refine At.nrm ?_
  refine At.zi (.q 0 .done) ?_
  refine AtT.zh ?_
  refine AtT.done ?_
  refine At.nrm ?_
  exact At.qd rfl (.tmp rfl) (by rw [decide_eq_false (fun e => take_diff hx hy hd e.2)])
 ·obtain rfl := Classical.not_not.1 hd
  refine At.nrm ?_
  refine At.zi (.q 0 (.q 1 (.q 2 .done))) ?_
  refine AtT.zf ?_
  first | refine AtT.qh ?_ | refine AtT.zT ?_
  refine AtT.zh ?_
  refine AtT.done ?_
  refine At.nrm ?_
  refine At.round (k + 1) ?_ ?_ ?_ ?_
  ·show s.rows.length - (k + 1) < s.rows.length - k; omega
  ·exact ⟨rfl, by omega, take_same htk hx hy⟩
  ·exact ⟨rfl, rfl, ivs (by omega), trivial⟩
  ·exact Pt.zI
end Go.Proofs.YtghomjjffllkeaaGreatDoor
set_option linter.unusedVariables false
namespace Go.Pm
open Go.Gl Go.Lw
def pc0 : Pc := ⟨0, 0, 0, 0⟩
def pcN (n : Nat) : Pc := ⟨((n / 216 : Nat) : Int), ((n / 36 % 6 : Nat) : Int), ((n / 6 % 6 + 1 : Nat) : Int), ((n % 6 + 1 : Nat) : Int)⟩
def lyN (g : Gd) (n : Nat) : List Pc := ((List.range n).map pcN).filter fun p => decide (peE g p = 0)
theorem lyN_snoc (g : Gd) (n : Nat) : lyN g (n + 1) = if peE g (pcN n) = 0 then lyN g n ++ [pcN n] else lyN g n := by
 unfold lyN
 rw [List.range_succ, List.map_append, List.filter_append]
 by_cases c : peE g (pcN n) = 0
 ·rw [if_pos c]; simp [c]
 ·rw [if_neg c]; simp [c]
theorem lyN_mem {g : Gd} {n : Nat} {p : Pc} : p ∈ lyN g n ↔ Lies g p ∧ ∃ k, k < n ∧ p = pcN k := by
 unfold lyN
 rw [List.mem_filter, decide_eq_true_eq, jB, List.mem_map]
 constructor
 ·rintro ⟨⟨k, hk, rfl⟩, h⟩; exact ⟨h, k, List.mem_range.1 hk, rfl⟩
 ·rintro ⟨h, k, hk, rfl⟩; exact ⟨⟨k, List.mem_range.2 hk, rfl⟩, h⟩
def gtA (a b : Pc) : Bool := decide (arP b < arP a)
def laO (g : Gd) (n : Nat) : Pc := qZ gtA pc0 (lyN g n)
theorem laO_snoc (g : Gd) (n : Nat) : laO g (n + 1) = if peE g (pcN n) = 0 ∧ arP (laO g n) < arP (pcN n) then pcN n else laO g n := by
 unfold laO
 rw [lyN_snoc]
 by_cases c : peE g (pcN n) = 0
 ·rw [if_pos c, bestOf_snoc]
  unfold gtA
  by_cases d : arP (qZ (fun a b => decide (arP b < arP a)) pc0 (lyN g n)) < arP (pcN n)
  ·rw [if_pos (decide_eq_true d), if_pos ⟨c, d⟩]
  ·rw [if_neg (by simpa using d), if_neg (fun h => d h.2)]
 ·rw [if_neg c, if_neg (fun h => c h.1)]
theorem laO_in (g : Gd) (n : Nat) : laO g n = pc0 ∨ laO g n ∈ lyN g n := by
 have := bestOf_in gtA (lyN g n) pc0
 exact List.mem_cons.1 this
theorem laO_bd {g : Gd} (hg : GOk g) (n : Nat) : 0 ≤ arP (laO g n) ∧ arP (laO g n) ≤ 36 := by
 rcases laO_in g n with h | h
 ·rw [h]; decide
 ·have hl := (lyN_mem.1 h).1
  have := ar_pos hl
  have := hl.most
  have := hg.most
  omega
theorem laO_cons {g : Gd} {x : Pc} {l : List Pc} (h : lyN g 1296 = x :: l) : laO g 1296 = qZ gtA x l := by
 have hx : Lies g x := (lyN_mem.1 (by rw [h]; exact List.mem_cons_self)).1
 have := ar_pos hx
 unfold laO
 rw [h]
 unfold qZ
 rw [List.foldl_cons, if_pos]
 unfold gtA
 exact decide_eq_true (by show arP pc0 < arP x; have : arP pc0 = 0 := rfl; omega)
theorem laO_h {g : Gd} : (laO g 1296).h = 0 ↔ lyN g 1296 = [] := by
 constructor
 ·intro h
  cases hl : lyN g 1296 with
  | nil => rfl
  | cons x l =>
   have e := laO_cons hl
   have hm := bestOf_in gtA l x
   rw [← e, ← hl] at hm
   have := (lyN_mem.1 hm).1.h
   omega
 ·intro h
  unfold laO; rw [h]; rfl
def laR (s : Sh) : Pc × Int := if chE s ≠ 0 then (pc0, chE s) else if lyN (gdS s) 1296 = [] then (pc0, 5) else (laO (gdS s) 1296, 0)
theorem pcN_at {t l h w : Nat} (ht : t < 6) (hl : l < 6) (hh : h < 6) (hw : w < 6) : pcN (((t * 6 + l) * 6 + h) * 6 + w) = ⟨(t : Int), (l : Int), ((h + 1 : Nat) : Int), ((w + 1 : Nat) : Int)⟩ := by
 unfold pcN
 have e1 : (((t * 6 + l) * 6 + h) * 6 + w) / 216 = t := by omega
 have e2 : (((t * 6 + l) * 6 + h) * 6 + w) / 36 % 6 = l := by omega
 have e3 : (((t * 6 + l) * 6 + h) * 6 + w) / 6 % 6 = h := by omega
 have e4 : (((t * 6 + l) * 6 + h) * 6 + w) % 6 = w := by omega
 rw [e1, e2, e3, e4]
end Go.Pm
set_option linter.unusedVariables false
namespace Go.Proofs.YtghomjjffllkeaaGreatDoor
open Go.Lw Go.Gl Go.Pm Go.RowKit
theorem rlargest_f (s : Sh) (V : View) (v : Value) (hv : ShV V v s) : Fnc Tryz.prog 37 [v] V fun r _ => r = .tuple #[pcv (laR s).1, iv (laR s).2] := by
 obtain ⟨a, c, rfl, hs⟩ := id hv
 refine qc Tryz.func37 rfl Tryz.ntmps37 (Nat.le_of_ble_eq_true rfl) ?_
 intro w0 hw0
 refine At.nrm ?_
 refine At.zi (.n false 0 (.n false 1 (.q 2 .done))) ?_
 refine AtT.qV ?_
 intro b1
 refine AtT.qw z26 ?_
 intro b2
 refine AtT.zh ?_
 refine AtT.done ?_
 refine At.nrm ?_
 refine At.zi (.q 0 (.n false 1 (.q 2 .done))) ?_
 first | refine AtT.zu zx ?_ | refine AtT.zC zx ?_ | refine AtT.zt zx ?_
 refine AtT.zq rfl rfl ok20 (qJ s _ _ hv) ?_
 rintro _ rfl
 refine AtT.qC ?_
 refine AtT.done ?_
 refine At.nrm ?_
 refine At.zX rfl (fun h0 => ?_) (fun h0 => ?_)
 ·refine At.nrm ?_
  refine At.zi (.q 0 (.q 1 (.n false 2 (.n true 3 (.q 4 .done))))) ?_
  refine AtT.qU (bd26) ?_
  first | refine AtT.zu zx ?_ | refine AtT.zC zx ?_ | refine AtT.zt zx ?_
  refine AtT.zq rfl rfl ok20 (qJ s _ _ hv) ?_
  rintro _ rfl
  refine AtT.zW zQ ?_
  refine AtT.zh ?_
  refine AtT.done ?_
  refine At.nrm ?_
  exact At.jb rfl (.agg rfl zQ zZ.zI rfl) (.tmp rfl) (by unfold laR; rw [if_pos h0]; rfl)
 have h0' := Classical.not_not.1 h0
 have hok := jl h0'
 have hg := sh_gok hok
 refine At.nrm ?_
 refine At.zi (.q 0 (.n false 1 (.n true 2 .done))) ?_
 refine AtT.qU (bd26) ?_
 refine AtT.qw z26 ?_
 intro b4
 refine AtT.zW zQ ?_
 refine AtT.done ?_
 refine At.nrm ?_
 refine At.zi (.q 0 .done) ?_
 refine AtT.zh ?_
 refine AtT.done ?_
 refine At.nrm ?_
 refine At.lp (ι := Nat) (KS := fun t => [(1, .pointer (some ⟨b1, 0, none⟩)), (2, .pointer (some ⟨b2, 0, none⟩)), (4, .pointer (some ⟨b4, 0, none⟩)), (5, iv t)])
  (OS := fun t => [.blk b4 (LC (pce (laO (gdS s) (t * 216))) 26), .blk b1 (LC [.slice a s.rows.length c, iv s.most] 24), .blk b2 (LC (pce pc0) 26)])
  (VS := fun t V' => V = V' ∧ t ≤ 6) (μ := fun t => 6 - t) 0 ?_ ?_ ?_ ?_
 ·exact ⟨rfl, rfl, rfl, rfl, trivial⟩
 ·exact Pt.zI
 ·exact ⟨rfl, by decide⟩
 rintro t _ ks' O' ⟨rfl, htl⟩ hk hO hl2
 subst hk hO
 refine At.nrm ?_
 refine At.zi (.q 0 (.q 1 .done)) ?_
 refine AtT.zf ?_
 refine AtT.zY ?_
 refine AtT.done ?_
 refine At.nrm ?_
 refine At.zX rfl (fun hp => ?_) (fun hp => ?_)
 rotate_left
 ·obtain rfl : t = 6 := by omega
  have hh := laO_h (g := gdS s)
  refine At.nrm ?_
  refine At.zi (.q 0 (.q 1 (.q 2 .done))) ?_
  first | refine AtT.zk zG ?_ | with_reducible refine AtT.zl zG ?_ | refine AtT.zn zG ?_
  first | refine AtT.zm tk3 ?_ | refine AtT.zo tk3 ?_
  refine AtT.qK ?_
  refine AtT.done ?_
  refine At.nrm ?_
  refine At.zX rfl (fun hz => ?_) (fun hz => ?_)
  ·have hnil := hh.1 hz
   have hl0 : laO (gdS s) 1296 = pc0 := by unfold laO; rw [hnil]; rfl
   refine At.nrm ?_
   refine At.zi (.q 0 (.n true 1 (.q 2 .done))) ?_
   first | refine AtT.zu zQ ?_ | refine AtT.zC zQ ?_ | refine AtT.zt zQ ?_
   refine AtT.zW zQ ?_
   refine AtT.zh ?_
   refine AtT.done ?_
   refine At.nrm ?_
   exact At.jb rfl (.agg rfl zQ zZ.zI rfl) (.tmp rfl) (by unfold laR; rw [if_neg h0, if_pos hnil]; show _ = Value.tuple #[pcv pc0, iv 5]; rw [← hl0])
  ·have hnil : ¬ lyN (gdS s) 1296 = [] := fun e => hz (hh.2 e)
   refine At.nrm ?_
   refine At.zi (.q 0 (.n true 1 (.q 2 .done))) ?_
   first | refine AtT.zu zQ ?_ | refine AtT.zC zQ ?_ | refine AtT.zt zQ ?_
   refine AtT.zW zQ ?_
   refine AtT.zh ?_
   refine AtT.done ?_
   refine At.nrm ?_
   exact At.jb rfl (.agg rfl zQ zZ.zI rfl) (.tmp rfl) (by unfold laR; rw [if_neg h0, if_neg hnil])
 refine At.nrm ?_
 refine At.zi (.q 0 .done) ?_
 refine AtT.zh ?_
 refine AtT.done ?_
 refine At.nrm ?_
 refine At.lp (ι := Nat) (KS := fun l => [(1, .pointer (some ⟨b1, 0, none⟩)), (2, .pointer (some ⟨b2, 0, none⟩)), (4, .pointer (some ⟨b4, 0, none⟩)), (5, iv t), (6, iv l)])
  (OS := fun l => [.blk b4 (LC (pce (laO (gdS s) ((t * 6 + l) * 36))) 26), .blk b1 (LC [.slice a s.rows.length c, iv s.most] 24), .blk b2 (LC (pce pc0) 26)])
  (VS := fun l V' => V = V' ∧ l ≤ 6) (μ := fun l => 6 - l) 0 ?_ ?_ ?_ ?_
 ·exact ⟨rfl, rfl, rfl, rfl, rfl, trivial⟩
 ·rw [show (t * 6 + 0) * 36 = t * 216 by omega]; exact Pt.zI
 ·exact ⟨rfl, by decide⟩
 rintro l _ ks' O' ⟨rfl, hll⟩ hk hO hl3
 subst hk hO
 refine At.nrm ?_
 refine At.zi (.q 0 (.q 1 .done)) ?_
 refine AtT.zf ?_
 refine AtT.zY ?_
 refine AtT.done ?_
 refine At.nrm ?_
 refine At.zX rfl (fun hp2 => ?_) (fun hp2 => ?_)
 rotate_left
 ·obtain rfl : l = 6 := by omega
  refine At.nrm ?_
  refine At.zi (.q 0 (.q 1 (.q 2 .done))) ?_
  refine AtT.zf ?_
  first | refine AtT.qh ?_ | refine AtT.zT ?_
  refine AtT.zh ?_
  refine AtT.done ?_
  refine At.nrm ?_
  refine At.round (t + 1) ?_ ?_ ?_ ?_
  ·show 6 - (t + 1) < 6 - t; omega
  ·exact ⟨rfl, by omega⟩
  ·exact ⟨rfl, rfl, rfl, ivs (by omega), trivial⟩
  rw [show (t + 1) * 216 = (t * 6 + 6) * 36 by omega]
  ·exact Pt.zI
 refine At.nrm ?_
 refine At.zi (.q 0 .done) ?_
 refine AtT.zh ?_
 refine AtT.done ?_
 refine At.nrm ?_
 refine At.lp (ι := Nat) (KS := fun h => [(1, .pointer (some ⟨b1, 0, none⟩)), (2, .pointer (some ⟨b2, 0, none⟩)), (4, .pointer (some ⟨b4, 0, none⟩)), (5, iv t), (6, iv l), (7, iv ((h + 1 : Nat) : Int))])
  (OS := fun h => [.blk b4 (LC (pce (laO (gdS s) (((t * 6 + l) * 6 + h) * 6))) 26), .blk b1 (LC [.slice a s.rows.length c, iv s.most] 24), .blk b2 (LC (pce pc0) 26)])
  (VS := fun h V' => V = V' ∧ h ≤ 6) (μ := fun h => 6 - h) 0 ?_ ?_ ?_ ?_
 ·exact ⟨rfl, rfl, rfl, rfl, rfl, rfl, trivial⟩
 ·rw [show ((t * 6 + l) * 6 + 0) * 6 = (t * 6 + l) * 36 by omega]; exact Pt.zI
 ·exact ⟨rfl, by decide⟩
 rintro h _ ks' O' ⟨rfl, hhl⟩ hk hO hl4
 subst hk hO
 refine At.nrm ?_
 refine At.zi (.q 0 (.q 1 .done)) ?_
 refine AtT.zf ?_
 refine AtT.kleq ?_
 refine AtT.done ?_
 refine At.nrm ?_
 refine At.zX rfl (fun hp3 => ?_) (fun hp3 => ?_)
 rotate_left
 ·obtain rfl : h = 6 := by omega
  refine At.nrm ?_
  refine At.zi (.q 0 (.q 1 (.q 2 .done))) ?_
  refine AtT.zf ?_
  first | refine AtT.qh ?_ | refine AtT.zT ?_
  refine AtT.zh ?_
  refine AtT.done ?_
  refine At.nrm ?_
  refine At.round (l + 1) ?_ ?_ ?_ ?_
  ·show 6 - (l + 1) < 6 - l; omega
  ·exact ⟨rfl, by omega⟩
  ·exact ⟨rfl, rfl, rfl, rfl, ivs (by omega), trivial⟩
  rw [show (t * 6 + (l + 1)) * 36 = ((t * 6 + l) * 6 + 6) * 6 by omega]
  ·exact Pt.zI
 refine At.nrm ?_
 refine At.zi (.q 0 .done) ?_
 refine AtT.zh ?_
 refine AtT.done ?_
 refine At.nrm ?_
 refine At.lp (ι := Nat) (KS := fun w => [(1, .pointer (some ⟨b1, 0, none⟩)), (2, .pointer (some ⟨b2, 0, none⟩)), (4, .pointer (some ⟨b4, 0, none⟩)), (5, iv t), (6, iv l), (7, iv ((h + 1 : Nat) : Int)), (8, iv ((w + 1 : Nat) : Int))])
  (OS := fun w => [.blk b4 (LC (pce (laO (gdS s) (((t * 6 + l) * 6 + h) * 6 + w))) 26), .blk b1 (LC [.slice a s.rows.length c, iv s.most] 24), .blk b2 (LC (pce pc0) 26)])
  (VS := fun w V' => V = V' ∧ w ≤ 6) (μ := fun w => 6 - w) 0 ?_ ?_ ?_ ?_
 ·exact ⟨rfl, rfl, rfl, rfl, rfl, rfl, rfl, trivial⟩
 ·exact Pt.zI
 ·exact ⟨rfl, by decide⟩
 rintro w _ ks' O' ⟨rfl, hwl⟩ hk hO hl5
 subst hk hO
 refine At.nrm ?_
 refine At.zi (.q 0 (.q 1 .done)) ?_
 refine AtT.zf ?_
 refine AtT.kleq ?_
 refine AtT.done ?_
 refine At.nrm ?_
 refine At.zX rfl (fun hp4 => ?_) (fun hp4 => ?_)
 rotate_left
 ·obtain rfl : w = 6 := by omega
  refine At.nrm ?_
  refine At.zi (.q 0 (.q 1 (.q 2 .done))) ?_
  refine AtT.zf ?_
  first | refine AtT.qh ?_ | refine AtT.zT ?_
  refine AtT.zh ?_
  refine AtT.done ?_
  refine At.nrm ?_
  refine At.round (h + 1) ?_ ?_ ?_ ?_
  ·show 6 - (h + 1) < 6 - h; omega
  ·exact ⟨rfl, by omega⟩
  ·exact ⟨rfl, rfl, rfl, rfl, rfl, ivs (by omega), trivial⟩
  rw [show ((t * 6 + l) * 6 + (h + 1)) * 6 = ((t * 6 + l) * 6 + h) * 6 + 6 by omega]
  ·exact Pt.zI
 have hat := pcN_at (t := t) (l := l) (h := h) (w := w) (by omega) (by omega) (by omega) (by omega)
 have hsn := laO_snoc (gdS s) (((t * 6 + l) * 6 + h) * 6 + w)
 have hbd := laO_bd hg (((t * 6 + l) * 6 + h) * 6 + w)
 obtain ⟨o, ho⟩ : ∃ o, o = laO (gdS s) (((t * 6 + l) * 6 + h) * 6 + w) := ⟨_, rfl⟩
 obtain ⟨p, hpp⟩ : ∃ p, p = pcN (((t * 6 + l) * 6 + h) * 6 + w) := ⟨_, rfl⟩
 rw [← ho] at hsn hbd
 rw [← hpp] at hsn hat
 have hab := ar_bd (h := ((h + 1 : Nat) : Int)) (w := ((w + 1 : Nat) : Int)) (by omega) (by omega)
 have hfit : Fit (((h + 1 : Nat) : Int) * ((w + 1 : Nat) : Int)) := Fit.of (by omega) (by omega)
 have hoa : arP o = o.h * o.w := rfl
 have hpa : arP p = ((h + 1 : Nat) : Int) * ((w + 1 : Nat) : Int) := by rw [hat]; rfl
 have hfit2 : Fit (o.h * o.w) := Fit.of (by omega) (by omega)
 rw [← ho]
 refine At.nrm ?_
 refine At.zi (.q 0 (.q 1 (.q 2 (.q 3 (.q 4 (.n false 5 (.n true 6 .done))))))) ?_
 refine AtT.zf ?_
 refine AtT.zf ?_
 refine AtT.zf ?_
 refine AtT.zf ?_
 refine AtT.qU (jL _ _ _ _) ?_
 refine AtT.qw z26 ?_
 intro b9
 refine AtT.zW zQ ?_
 refine AtT.done ?_
 refine At.nrm ?_
 have hcall : ∀ V', Le V V' → Fnc Tryz.prog 51 [.agg #[.slice a s.rows.length c, iv s.most], .agg #[iv t, iv l, iv ((h + 1 : Nat) : Int), iv ((w + 1 : Nat) : Int)]] V' fun r _ => r = iv (peE (gdS s) p) := fun V' hV => by
  have := rpe_f s hok p V' _ (hv.le hV)
  rw [hat] at this ⊢
  exact this
 refine At.nrm ?_
 refine At.jo (ι := Unit) (fun _ => [(1, .pointer (some ⟨b1, 0, none⟩)), (2, .pointer (some ⟨b2, 0, none⟩)), (4, .pointer (some ⟨b4, 0, none⟩)), (5, iv t), (6, iv l), (7, iv ((h + 1 : Nat) : Int)), (8, iv ((w + 1 : Nat) : Int)), (9, .pointer (some ⟨b9, 0, none⟩)), (52, .bool (decide (peE (gdS s) p = 0 ∧ arP o < arP p)))])
  (fun _ => [.blk b4 (LC (pce o) 26), .blk b9 (LC [iv t, iv l, iv ((h + 1 : Nat) : Int), iv ((w + 1 : Nat) : Int)] 26), .blk b1 (LC [.slice a s.rows.length c, iv s.most] 24), .blk b2 (LC (pce pc0) 26)]) (fun _ V'' => V = V'') ?_ ?_
 ·by_cases c1 : peE (gdS s) p = 0
  rotate_left
  ·rw [show decide (peE (gdS s) p = 0 ∧ arP o < arP p) = false from decide_eq_false (fun e => c1 e.1)]
   refine At.zi (.q 0 (.q 1 (.n false 2 (.q 3 (.q 4 (.q 5 (.q 6 (.q 7 (.q 8 (.q 9 (.q 10 (.q 11 (.q 12 (.q 13 (.q 14 .done))))))))))))))) ?_
   first | refine AtT.zu zx ?_ | refine AtT.zC zx ?_ | refine AtT.zt zx ?_
   first | refine AtT.zu zQ ?_ | refine AtT.zC zQ ?_ | refine AtT.zt zQ ?_
   refine AtT.zq rfl rfl ok51 (hcall _ (Le.refl _)) ?_
   rintro _ rfl
   refine AtT.qK ?_
   refine AtT.qj (d := 41) rfl (c1) ?_
   refine AtT.zf ?_
   all_goals (first | refine AtT.kL 42 ?_ | refine AtT.zA (d := 42) rfl (fun hg42 => ?_) (fun hg42 => ?_) | refine AtT.zz (d := 42) rfl (fun hg42 => ?_) (fun hg42 => ?_))
   all_goals first|refine AtT.zg ?_|refine AtT.ze ?_|(refine AtT.zf ?_)
   all_goals first|refine AtT.zg ?_|refine AtT.ze ?_|(refine AtT.zf ?_)
   all_goals first|refine AtT.zg ?_|refine AtT.ze ?_|(first | refine AtT.kmul ?_ | refine AtT.kmulW ?_)
   all_goals first|refine AtT.zg ?_|refine AtT.ze ?_|(first | refine AtT.zk zG ?_ | with_reducible refine AtT.zl zG ?_ | refine AtT.zn zG ?_)
   all_goals first|refine AtT.zg ?_|refine AtT.ze ?_|(first | refine AtT.zm tk3 ?_ | refine AtT.zo tk3 ?_)
   all_goals first|refine AtT.zg ?_|refine AtT.ze ?_|(first | refine AtT.zk zH ?_ | with_reducible refine AtT.zl zH ?_ | refine AtT.zn zH ?_)
   all_goals first|refine AtT.zg ?_|refine AtT.ze ?_|(first | refine AtT.zm tk3 ?_ | refine AtT.zo tk3 ?_)
   all_goals first|refine AtT.zg ?_|refine AtT.ze ?_|(first | refine AtT.kmul ?_ | refine AtT.kmulW ?_)
   all_goals first|refine AtT.zg ?_|refine AtT.ze ?_|(refine AtT.qy ?_)
   all_goals (refine AtT.zy ?_)
   all_goals refine AtT.done ?_
   all_goals (refine At.nrm ?_)
   exact At.qf () rfl ⟨rfl, rfl, rfl, rfl, rfl, rfl, rfl, rfl, rfl, trivial⟩ Pt.zI
  by_cases c2 : arP o < arP p
  ·rw [show decide (peE (gdS s) p = 0 ∧ arP o < arP p) = true from decide_eq_true ⟨c1, c2⟩]
   refine At.zi (.q 0 (.q 1 (.n false 2 (.q 3 (.q 4 (.q 5 (.q 6 (.q 7 (.q 8 (.q 9 (.q 10 (.q 11 (.q 12 (.q 13 (.q 14 .done))))))))))))))) ?_
   first | refine AtT.zu zx ?_ | refine AtT.zC zx ?_ | refine AtT.zt zx ?_
   first | refine AtT.zu zQ ?_ | refine AtT.zC zQ ?_ | refine AtT.zt zQ ?_
   refine AtT.zq rfl rfl ok51 (hcall _ (Le.refl _)) ?_
   rintro _ rfl
   refine AtT.qK ?_
   refine AtT.qp (d := 41) rfl (c1) ?_
   refine AtT.zf ?_
   all_goals (first | refine AtT.kL 42 ?_ | refine AtT.zA (d := 42) rfl (fun hg42 => ?_) (fun hg42 => ?_) | refine AtT.zz (d := 42) rfl (fun hg42 => ?_) (fun hg42 => ?_))
   all_goals first|refine AtT.zg ?_|refine AtT.ze ?_|(refine AtT.zf ?_)
   all_goals first|refine AtT.zg ?_|refine AtT.ze ?_|(refine AtT.zf ?_)
   all_goals first|refine AtT.zg ?_|refine AtT.ze ?_|(first | refine AtT.kmul ?_ | refine AtT.kmulW ?_)
   all_goals first|refine AtT.zg ?_|refine AtT.ze ?_|(first | refine AtT.zk zG ?_ | with_reducible refine AtT.zl zG ?_ | refine AtT.zn zG ?_)
   all_goals first|refine AtT.zg ?_|refine AtT.ze ?_|(first | refine AtT.zm tk3 ?_ | refine AtT.zo tk3 ?_)
   all_goals first|refine AtT.zg ?_|refine AtT.ze ?_|(first | refine AtT.zk zH ?_ | with_reducible refine AtT.zl zH ?_ | refine AtT.zn zH ?_)
   all_goals first|refine AtT.zg ?_|refine AtT.ze ?_|(first | refine AtT.zm tk3 ?_ | refine AtT.zo tk3 ?_)
   all_goals first|refine AtT.zg ?_|refine AtT.ze ?_|(first | refine AtT.kmul ?_ | refine AtT.kmulW ?_)
   all_goals first|refine AtT.zg ?_|refine AtT.ze ?_|(refine AtT.qy ?_)
   all_goals (refine AtT.qp (d := 51) rfl ((by omega)) ?_)
   all_goals (refine AtT.zy ?_)
   all_goals refine AtT.done ?_
   all_goals (refine At.nrm ?_)
   exact At.qf () rfl ⟨rfl, rfl, rfl, rfl, rfl, rfl, rfl, rfl, rfl, trivial⟩ Pt.zI
  ·rw [show decide (peE (gdS s) p = 0 ∧ arP o < arP p) = false from decide_eq_false (fun e => c2 e.2)]
   refine At.zi (.q 0 (.q 1 (.n false 2 (.q 3 (.q 4 (.q 5 (.q 6 (.q 7 (.q 8 (.q 9 (.q 10 (.q 11 (.q 12 (.q 13 (.q 14 .done))))))))))))))) ?_
   first | refine AtT.zu zx ?_ | refine AtT.zC zx ?_ | refine AtT.zt zx ?_
   first | refine AtT.zu zQ ?_ | refine AtT.zC zQ ?_ | refine AtT.zt zQ ?_
   refine AtT.zq rfl rfl ok51 (hcall _ (Le.refl _)) ?_
   rintro _ rfl
   refine AtT.qK ?_
   refine AtT.qp (d := 41) rfl (c1) ?_
   refine AtT.zf ?_
   all_goals (first | refine AtT.kL 42 ?_ | refine AtT.zA (d := 42) rfl (fun hg42 => ?_) (fun hg42 => ?_) | refine AtT.zz (d := 42) rfl (fun hg42 => ?_) (fun hg42 => ?_))
   all_goals first|refine AtT.zg ?_|refine AtT.ze ?_|(refine AtT.zf ?_)
   all_goals first|refine AtT.zg ?_|refine AtT.ze ?_|(refine AtT.zf ?_)
   all_goals first|refine AtT.zg ?_|refine AtT.ze ?_|(first | refine AtT.kmul ?_ | refine AtT.kmulW ?_)
   all_goals first|refine AtT.zg ?_|refine AtT.ze ?_|(first | refine AtT.zk zG ?_ | with_reducible refine AtT.zl zG ?_ | refine AtT.zn zG ?_)
   all_goals first|refine AtT.zg ?_|refine AtT.ze ?_|(first | refine AtT.zm tk3 ?_ | refine AtT.zo tk3 ?_)
   all_goals first|refine AtT.zg ?_|refine AtT.ze ?_|(first | refine AtT.zk zH ?_ | with_reducible refine AtT.zl zH ?_ | refine AtT.zn zH ?_)
   all_goals first|refine AtT.zg ?_|refine AtT.ze ?_|(first | refine AtT.zm tk3 ?_ | refine AtT.zo tk3 ?_)
   all_goals first|refine AtT.zg ?_|refine AtT.ze ?_|(first | refine AtT.kmul ?_ | refine AtT.kmulW ?_)
   all_goals first|refine AtT.zg ?_|refine AtT.ze ?_|(refine AtT.qy ?_)
   all_goals (refine AtT.qj (d := 51) rfl ((by omega)) ?_)
   all_goals (refine AtT.zy ?_)
   all_goals refine AtT.done ?_
   all_goals (refine At.nrm ?_)
   exact At.qf () rfl ⟨rfl, rfl, rfl, rfl, rfl, rfl, rfl, rfl, rfl, trivial⟩ Pt.zI
 rintro _ _ ks' O' rfl hk hO hl6
 subst hk hO
 refine At.jo (ι := Unit) (fun _ => [(1, .pointer (some ⟨b1, 0, none⟩)), (2, .pointer (some ⟨b2, 0, none⟩)), (4, .pointer (some ⟨b4, 0, none⟩)), (5, iv t), (6, iv l), (7, iv ((h + 1 : Nat) : Int)), (8, iv ((w + 1 : Nat) : Int))])
  (fun _ => [.blk b4 (LC (pce (laO (gdS s) (((t * 6 + l) * 6 + h) * 6 + w + 1))) 26), .blk b1 (LC [.slice a s.rows.length c, iv s.most] 24), .blk b2 (LC (pce pc0) 26)]) (fun _ V'' => V = V'') ?_ ?_
 ·refine At.zX rfl (fun hc => ?_) (fun hc => ?_)
  ·rw [if_pos hc, hat] at hsn
   rw [hsn]
   refine At.nrm ?_
   refine At.zi (.q 0 (.n true 1 .done)) ?_
   first | refine AtT.zu zQ ?_ | refine AtT.zC zQ ?_ | refine AtT.zt zQ ?_
   refine AtT.zW zQ ?_
   refine AtT.done ?_
   refine At.nrm ?_
   exact At.qf () rfl ⟨rfl, rfl, rfl, rfl, rfl, rfl, rfl, trivial⟩ Pt.zI
  ·rw [if_neg hc] at hsn
   rw [hsn]
   refine At.nrm ?_
   exact At.qf () rfl ⟨rfl, rfl, rfl, rfl, rfl, rfl, rfl, trivial⟩ Pt.zI
 rintro _ _ ks' O' rfl hk hO hl6
 subst hk hO
 refine At.nrm ?_
 refine At.zi (.q 0 (.q 1 (.q 2 .done))) ?_
 refine AtT.zf ?_
 first | refine AtT.qh ?_ | refine AtT.zT ?_
 refine AtT.zh ?_
 refine AtT.done ?_
 refine At.nrm ?_
 refine At.round (w + 1) ?_ ?_ ?_ ?_
 ·show 6 - (w + 1) < 6 - w; omega
 ·exact ⟨rfl, by omega⟩
 ·exact ⟨rfl, rfl, rfl, rfl, rfl, rfl, ivs (by omega), trivial⟩
 ·exact Pt.zI
end Go.Proofs.YtghomjjffllkeaaGreatDoor
set_option linter.unusedVariables false
namespace Go.Pm
open Go.Gl Go.Lw
abbrev ysP (g : Gd) : List (List Value) := (lyN g 1296).map fun p => [pcv p]
theorem lyN_pre (g : Gd) : ∀ (m n : Nat), n ≤ m → ∃ t, lyN g m = lyN g n ++ t
 | 0, n, h => by
   obtain rfl : n = 0 := by omega
   exact ⟨[], by simp⟩
 | m + 1, n, h => by
  by_cases e : n = m + 1
  ·subst e; exact ⟨[], by simp⟩
  ·obtain ⟨t, ht⟩ := lyN_pre g m n (by omega)
   rw [lyN_snoc]
   split
   ·exact ⟨t ++ [pcN m], by rw [ht, List.append_assoc]⟩
   ·exact ⟨t, ht⟩
theorem ysP_at {g : Gd} {n : Nat} (hn : n < 1296) (h : peE g (pcN n) = 0) : (ysP g)[(lyN g n).length]? = some [pcv (pcN n)] := by
 obtain ⟨t, ht⟩ := lyN_pre g 1296 (n + 1) (by omega)
 rw [lyN_snoc g n, if_pos h] at ht
 unfold ysP
 rw [ht, List.getElem?_map, List.append_assoc, List.getElem?_append_right (Nat.le_refl _), Nat.sub_self]
 rfl
theorem td6 (a : Nat) : (a : Int).tdiv 6 = ((a / 6 : Nat) : Int) := rfl
theorem tm6 (a : Nat) : (a : Int).tmod 6 = ((a % 6 : Nat) : Int) := rfl
theorem td6_fit (a : Nat) (h : a ≤ 1296) : Fit ((a : Int).tdiv 6) := by rw [td6]; exact Fit.of (by omega) (by omega)
theorem pcN_div (k : Nat) : pcN k = ⟨((k / 6 / 6 / 6 : Nat) : Int), ((k / 6 / 6 % 6 : Nat) : Int), ((k / 6 % 6 : Nat) : Int) + 1, ((k % 6 : Nat) : Int) + 1⟩ := by
 unfold pcN
 have e1 : k / 216 = k / 6 / 6 / 6 := by omega
 have e2 : k / 36 = k / 6 / 6 := by omega
 rw [e1, e2]
 rfl
end Go.Pm
namespace Go.Proofs.YtghomjjffllkeaaGreatDoor
open Go.Lw Go.Gl Go.Pm Go.RowKit
theorem pieces_f (V : View) (b : Nat) : Fnc Tryz.prog 74 [.pointer (some ⟨b, 0, none⟩)] V fun r V' => ∃ q : Addr, r = .func (.func 104) #[] #[.pointer (some q)] ∧ Cells V' q [.pointer (some ⟨b, 0, none⟩)] := by
 refine qc Tryz.func74 rfl Tryz.ntmps74 (Nat.le_of_ble_eq_true rfl) ?_
 intro w0 hw0
 refine At.nrm ?_
 refine At.zi (.n false 0 (.q 1 .done)) ?_
 refine AtT.qV ?_
 intro b1
 refine AtT.zh ?_
 refine AtT.done ?_
 refine At.nrm ?_
 refine At.giveB (b := b1) zZ.zI ?_
 intro V1 hV1 hb1
 refine At.zi (.q 0 (.q 1 .done)) ?_
 refine AtT.kfn ?_
 refine AtT.zh ?_
 refine AtT.done ?_
 refine At.nrm ?_
 exact At.qd rfl (.tmp rfl) ⟨_, rfl, qY hb1⟩
theorem iterP_f (s : Sh) (hok : jH s) (V : View) (b : Nat) (q : Addr) (hq : Cells V q [.pointer (some ⟨b, 0, none⟩)]) (hb : BnV V b s) : It Tryz.prog 104 [.pointer (some q)] V (ysP (gdS s)) := by
 refine it_of Tryz.func104 rfl Tryz.ntmps104 (Nat.le_of_ble_eq_true rfl) rfl ?_
 intro l J E w0 H hJ
 refine At.nrm ?_
 refine At.zi (.q 0 .done) ?_
 refine AtT.zf ?_
 refine AtT.done ?_
 refine At.nrm ?_
 refine At.lpY H (ι := Nat) (fun k => k ≤ 1296) (fun k => [(0, .func (.yield l) #[] #[]), (1, .pointer (some q)), (6, iv k)]) (fun k => (lyN (gdS s) k).length) (fun k => 1296 - k) 0 (Nat.zero_le _) ⟨rfl, rfl, rfl, trivial⟩ hJ ?_
 rintro k w ks' hkl hJ rfl
 have hsn := lyN_snoc (gdS s) k
 refine At.nrm ?_
 refine At.zi (.q 0 .done) ?_
 refine AtT.zY ?_
 refine AtT.done ?_
 refine At.nrm ?_
 refine At.zX rfl (fun hp => ?_) (fun hp => ?_)
 rotate_left
 ·obtain rfl : k = 1296 := by omega
  refine At.nrm ?_
  exact At.itEnd H (.inl rfl) rfl (.inl (by rw [ysP, List.length_map]; exact hJ))
 refine At.nrm ?_
 refine At.zi (.q 0 (.q 1 .done)) ?_
 refine AtT.zf ?_
 refine AtT.zh ?_
 refine AtT.done ?_
 refine At.nrm ?_
 refine At.nrm ?_
 refine At.zi (.q 0 .done) ?_
 refine AtT.zh ?_
 refine AtT.done ?_
 refine At.nrm ?_
 have f1 := td6_fit k (by omega)
 have f2 := td6_fit (k / 6) (by omega)
 have f3 := td6_fit (k / 6 / 6) (by omega)
 have hpc := pcN_div k
 refine At.nrm ?_
 refine At.jo (ι := Nat) (fun g => [(0, .func (.yield l) #[] #[]), (1, .pointer (some q)), (6, iv k), (5, .pointer (some ⟨g, 0, none⟩))]) (fun g => [.blk g (LC (pce (pcN k)) 26)]) (fun _ V'' => V = V'') ?_ ?_
 ·rw [hpc]
  refine At.draw (.q 0 (.q 1 (.q 2 (.q 3 (.q 4 (.q 5 (.q 6 (.q 7 (.q 8 (.q 9 (.q 10 (.q 11 (.q 12 (.q 13 (.q 14 (.q 15 (.q 16 (.q 17 (.q 18 (.q 19 (.q 20 (.q 21 (.q 22 (.q 23 (.q 24 (.n false 25 (.n true 26 .done))))))))))))))))))))))))))) ffm (by kernel_rfl) ?_
  refine AtT.zf ?_
  refine AtT.zf ?_
  refine AtT.kquo ?_
  rw [td6]
  refine AtT.zf ?_
  refine AtT.kquo ?_
  rw [td6]
  refine AtT.zf ?_
  refine AtT.kquo ?_
  rw [td6]
  refine AtT.zf ?_
  refine AtT.zf ?_
  refine AtT.kquo ?_
  rw [td6]
  refine AtT.zf ?_
  refine AtT.kquo ?_
  rw [td6]
  refine AtT.zf ?_
  refine AtT.krem ?_
  rw [tm6]
  refine AtT.zf ?_
  refine AtT.zf ?_
  refine AtT.kquo ?_
  rw [td6]
  refine AtT.zf ?_
  refine AtT.krem ?_
  rw [tm6]
  first | refine AtT.qh ?_ | refine AtT.zT ?_
  refine AtT.zf ?_
  refine AtT.zf ?_
  refine AtT.krem ?_
  rw [tm6]
  first | refine AtT.qh ?_ | refine AtT.zT ?_
  refine AtT.qU (jL _ _ _ _) ?_
  refine AtT.qw z26 ?_
  intro b5
  refine AtT.zW zQ ?_
  refine AtT.done ?_
  refine At.nrm ?_
  all_goals (exact At.qf b5 rfl ⟨rfl, rfl, rfl, rfl, trivial⟩ Pt.zI)
 rintro b5 _ ks' O' rfl hk hO hl6
 subst hk hO
 refine At.nrm ?_
 by_cases hpe : peE (gdS s) (pcN k) = 0
 ·have hys := ysP_at (g := gdS s) (n := k) (by omega) hpe
  rw [if_pos hpe] at hsn
  have hlen : (lyN (gdS s) (k + 1)).length = (lyN (gdS s) k).length + 1 := by rw [hsn, List.length_append]; rfl
  refine At.zi (.q 0 (.q 1 (.n false 2 (.q 3 (.q 4 (.q 5 (.q 6 (.n true 7 (.q 8 (.q 9 .done)))))))))) ?_
  first | refine AtT.zm tk80 ?_ | refine AtT.zo tk80 ?_
  first | refine AtT.zu zQ ?_ | refine AtT.zC zQ ?_ | refine AtT.zt zQ ?_
  refine AtT.zq rfl rfl ok58 (lies_f s hok _ _ b hb) ?_
  rintro _ rfl
  refine AtT.qK ?_
  refine AtT.qp (d := 37) rfl (hpe) ?_
  refine AtT.zf ?_
  all_goals (first | refine AtT.kL 38 ?_ | refine AtT.zA (d := 38) rfl (fun hg38 => ?_) (fun hg38 => ?_) | refine AtT.zz (d := 38) rfl (fun hg38 => ?_) (fun hg38 => ?_))
  all_goals first|refine AtT.zg ?_|refine AtT.ze ?_|(refine AtT.zf ?_)
  all_goals first|refine AtT.zg ?_|refine AtT.ze ?_|(first | refine AtT.zu zQ ?_ | refine AtT.zC zQ ?_ | refine AtT.zt zQ ?_)
  all_goals (first | refine AtT.zP ?_ | refine AtT.zJ ?_ | ((refine AtT.yield rfl ⟨_, _, rfl, rfl, rfl⟩ rfl rfl H (hys) (hJ) (by decide) ?_ ?_)) <;> (intro w41 hJ41))
  all_goals first|refine AtT.zg ?_|refine AtT.ze ?_|(refine AtT.jh ?_)
  all_goals (refine AtT.zy ?_)
  all_goals refine AtT.done ?_
  all_goals (refine At.nrm ?_)
  rotate_left
  ·refine At.qB rfl rfl ?_
   refine At.nrm ?_
   exact At.itEnd H (.inr rfl) rfl (.inr hJ41)
  refine At.qE rfl rfl ?_
  refine At.nrm ?_
  refine At.zi (.q 0 (.q 1 .done)) ?_
  first | refine AtT.qh ?_ | refine AtT.zT ?_
  refine AtT.zf ?_
  refine AtT.done ?_
  refine At.nrm ?_
  refine At.roundY H (k + 1) ?_ (by omega) ?_ (by dsimp only; rw [hlen]; exact hJ41)
  ·show 1296 - (k + 1) < 1296 - k; omega
  ·exact ⟨rfl, rfl, ivs (by push_cast; omega), trivial⟩
 ·rw [if_neg hpe] at hsn
  refine At.zi (.q 0 (.q 1 (.n false 2 (.q 3 (.q 4 (.q 5 (.q 6 (.n false 7 (.q 8 (.q 9 .done)))))))))) ?_
  first | refine AtT.zm tk80 ?_ | refine AtT.zo tk80 ?_
  first | refine AtT.zu zQ ?_ | refine AtT.zC zQ ?_ | refine AtT.zt zQ ?_
  refine AtT.zq rfl rfl ok58 (lies_f s hok _ _ b hb) ?_
  rintro _ rfl
  refine AtT.qK ?_
  refine AtT.qj (d := 37) rfl (hpe) ?_
  refine AtT.zf ?_
  all_goals (first | refine AtT.kL 38 ?_ | refine AtT.zA (d := 38) rfl (fun hg38 => ?_) (fun hg38 => ?_) | refine AtT.zz (d := 38) rfl (fun hg38 => ?_) (fun hg38 => ?_))
  all_goals first|refine AtT.zg ?_|refine AtT.ze ?_|(refine AtT.zf ?_)
  all_goals first|refine AtT.zg ?_|refine AtT.ze ?_|(first | refine AtT.zu zQ ?_ | refine AtT.zC zQ ?_ | refine AtT.zt zQ ?_)
  all_goals (first | refine AtT.zP ?_ | refine AtT.zJ ?_ | ((fail)))
  all_goals first|refine AtT.zg ?_|refine AtT.ze ?_|(refine AtT.jh ?_)
  all_goals (refine AtT.zy ?_)
  all_goals refine AtT.done ?_
  all_goals (refine At.nrm ?_)
  refine At.qE rfl rfl ?_
  refine At.nrm ?_
  refine At.zi (.q 0 (.q 1 .done)) ?_
  first | refine AtT.qh ?_ | refine AtT.zT ?_
  refine AtT.zf ?_
  refine AtT.done ?_
  refine At.nrm ?_
  refine At.roundY H (k + 1) ?_ (by omega) ?_ (by dsimp only; rw [hsn]; exact hJ)
  ·show 1296 - (k + 1) < 1296 - k; omega
  ·exact ⟨rfl, rfl, ivs (by push_cast; omega), trivial⟩
theorem appendSeq_f (L : List Pc) (hL : L.length ≤ 2000) (f : FuncId) (caps : List Value) (hok : zM Tryz.prog f) (V : View) (hit : It Tryz.prog f caps V (L.map fun p => [pcv p])) : Fnc Tryz.prog 103 [.slice none 0 0, .func (.func f) #[] caps.toArray] V fun r V' => Sl V' pce 4 r L := by
 refine fn_ofM Tryz.func103 rfl Tryz.ntmps103 (Nat.le_of_ble_eq_true rfl) ?_
 intro w0 hw0
 refine At.nrm ?_
 refine At.zi (.n false 0 (.q 1 .done)) ?_
 refine AtT.qV ?_
 intro b2
 refine AtT.zh ?_
 refine AtT.done ?_
 refine At.nrm ?_
 refine At.zi (.q 0 .done) ?_
 refine AtT.zf ?_
 refine AtT.done ?_
 refine At.nrm ?_
 refine At.newRow 26 4 ?_
 refine At.rangeFunc (Vi := V) (ys := L.map fun p => [pcv p]) (ι := Nat × Option Addr × Nat) (fun g => g.1)
  (fun g => [.blk b2 (LC [.slice g.2.1 (L.take g.1).length g.2.2] 27), .row (.slice g.2.1 (L.take g.1).length g.2.2) 26 4 (L.take g.1).length (flat pce (L.take g.1))])
  (fun g V' => Le V V') (fun _ _ _ => False) rfl hok (0, none, 0) rfl ?_ (Le.refl _) hit (fun _ _ h => h) (by decide) (fun y hy => by obtain ⟨k, _, rfl⟩ := List.mem_map.1 hy; rfl) rfl ?_ ?_ (fun _ _ _ _ h => h.elim)
 ·exact Pt.zI
 ·rintro ⟨k, ao, co⟩ y l D r V' ks' O' hy hVV hl rfl rfl
  dsimp only at hy ⊢
  have hk : k < L.length := by
   have := (List.getElem?_eq_some_iff.1 hy).1
   rwa [List.length_map] at this
  obtain ⟨p, hpk⟩ : ∃ p, L[k]? = some p := ⟨_, List.getElem?_eq_getElem hk⟩
  rw [List.getElem?_map, hpk] at hy
  obtain rfl := (Option.some.inj hy).symm
  have htk := take_snoc' hpk
  have htl : (L.take k).length = k := by rw [List.length_take]; omega
  show At _ _ ((7, pcv p) :: _) _ _ _
  refine At.nrm ?_
  refine At.zi (.n false 0 (.n true 1 .done)) ?_
  refine AtT.qw z26 ?_
  intro b5
  refine AtT.zW zQ ?_
  refine AtT.done ?_
  refine At.nrm ?_
  refine At.begin zZ.zI ?_
  refine At.nrm ?_
  refine At.zi (.q 0 (.q 1 (.n false 2 (.n true 3 (.n true 4 .done))))) ?_
  first | refine AtT.zm tk27 ?_ | refine AtT.zo tk27 ?_
  first | refine AtT.zu zQ ?_ | refine AtT.zC zQ ?_ | refine AtT.zt zQ ?_
  refine AtT.zB (bs27_1_0 _ _ _ _) ?_
  intro q10 V10 hV10 hq10
  have g10 : Le V V10 := by first | exact hV10 | exact Le.trans (by assumption) hV10
  first | refine AtT.jC Tryz.underlying27 rw26 ?_
  intro a11 c11
  first | refine AtT.jk tk27 ?_ | refine AtT.zW tk27 ?_
  refine AtT.done ?_
  refine At.nrm ?_
  refine At.roundN (k + 1, a11, c11) rfl (by first | assumption | exact Le.trans (by assumption) (by assumption)) zZ.zI ?_
  dsimp only
  rw [htk, jm, show (L.take k ++ [p]).length = (L.take k).length + 1 from by rw [List.length_append]; rfl]
  ·exact Pt.zI
 rintro ⟨k, ao, co⟩ D V3 O' hk hVV hl rfl
 dsimp only at hk ⊢
 rw [List.length_map] at hk
 subst hk
 rw [List.take_length]
 refine At.sub (ks' := [(2, .pointer (some ⟨b2, 0, none⟩))]) ⟨rfl, trivial⟩ ?_
 refine At.nrm ?_
 refine At.zi (.q 0 (.q 1 .done)) ?_
 first | refine AtT.zm tk27 ?_ | refine AtT.zo tk27 ?_
 refine AtT.zh ?_
 refine AtT.done ?_
 refine At.nrm ?_
 refine At.unmark (.inl rfl) rfl zZ.zI ?_
 refine At.giveSl (l := L) pce_len rfl rfl zZ.zI (fun V4 hV4 hs4 => ?_)
 exact At.qd rfl (.tmp rfl) hs4
theorem collect_f (L : List Pc) (hL : L.length ≤ 2000) (f : FuncId) (caps : List Value) (hok : zM Tryz.prog f) (V : View) (hit : It Tryz.prog f caps V (L.map fun p => [pcv p])) : Fnc Tryz.prog 73 [.func (.func f) #[] caps.toArray] V fun r V' => Sl V' pce 4 r L := by
 refine qc Tryz.func73 rfl Tryz.ntmps73 (Nat.le_of_ble_eq_true rfl) ?_
 intro w0 hw0
 refine At.nrm ?_
 refine At.zi (.q 0 .done) ?_
 refine AtT.zh ?_
 refine AtT.done ?_
 refine At.nrm ?_
 refine At.zi (.q 0 (.n false 1 (.q 2 .done))) ?_
 refine AtT.zf ?_
 refine AtT.qg rfl rfl ok103 (appendSeq_f L hL f caps hok _ hit) ?_
 rintro v4 V4 hV4 hs4
 refine AtT.zh ?_
 refine AtT.done ?_
 refine At.nrm ?_
 exact At.qd rfl (.tmp rfl) hs4
theorem greater_f (x y : Pc) (hx : 0 ≤ x.h ∧ x.h ≤ 6 ∧ 0 ≤ x.w ∧ x.w ≤ 6) (hy : 0 ≤ y.h ∧ y.h ≤ 6 ∧ 0 ≤ y.w ∧ y.w ≤ 6) (V : View) : Fnc Tryz.prog 76 ([] ++ [pcv x, pcv y] ++ []) V fun r _ => r = .bool (gtA x y) := by
 have a1 : 0 ≤ x.h * x.w := Int.mul_nonneg hx.1 hx.2.2.1
 have a2 : x.h * x.w ≤ 6 * 6 := Int.mul_le_mul hx.2.1 hx.2.2.2 hx.2.2.1 (by decide)
 have a3 : 0 ≤ y.h * y.w := Int.mul_nonneg hy.1 hy.2.2.1
 have a4 : y.h * y.w ≤ 6 * 6 := Int.mul_le_mul hy.2.1 hy.2.2.2 hy.2.2.1 (by decide)
 have f1 : Fit (x.h * x.w) := Fit.of (by omega) (by omega)
 have f2 : Fit (y.h * y.w) := Fit.of (by omega) (by omega)
 refine qc Tryz.func76 rfl Tryz.ntmps76 (Nat.le_of_ble_eq_true rfl) ?_
 intro w0 hw0
 refine At.nrm ?_
 refine At.zi (.n false 0 (.n false 1 (.q 2 .done))) ?_
 refine AtT.qV ?_
 intro b2
 refine AtT.qV ?_
 intro b3
 refine AtT.zh ?_
 refine AtT.done ?_
 refine At.nrm ?_
 refine At.zi (.q 0 (.q 1 (.q 2 (.q 3 (.q 4 (.q 5 (.q 6 (.q 7 (.q 8 (.q 9 (.q 10 (.q 11 .done)))))))))))) ?_
 first | refine AtT.zk zG ?_ | with_reducible refine AtT.zl zG ?_ | refine AtT.zn zG ?_
 first | refine AtT.zm tk3 ?_ | refine AtT.zo tk3 ?_
 first | refine AtT.zk zH ?_ | with_reducible refine AtT.zl zH ?_ | refine AtT.zn zH ?_
 first | refine AtT.zm tk3 ?_ | refine AtT.zo tk3 ?_
 first | refine AtT.kmul ?_ | refine AtT.kmulW ?_
 first | refine AtT.zk zG ?_ | with_reducible refine AtT.zl zG ?_ | refine AtT.zn zG ?_
 first | refine AtT.zm tk3 ?_ | refine AtT.zo tk3 ?_
 first | refine AtT.zk zH ?_ | with_reducible refine AtT.zl zH ?_ | refine AtT.zn zH ?_
 first | refine AtT.zm tk3 ?_ | refine AtT.zo tk3 ?_
 first | refine AtT.kmul ?_ | refine AtT.kmulW ?_
 refine AtT.qy ?_
 refine AtT.zh ?_
 refine AtT.done ?_
 refine At.nrm ?_
 exact At.qd rfl (.tmp rfl) rfl
theorem lies_6 {s : Sh} (hok : jH s) {p : Pc} (h : Lies (gdS s) p) : 0 ≤ p.h ∧ p.h ≤ 6 ∧ 0 ≤ p.w ∧ p.w ≤ 6 := by
 have h1 := h.h
 have h2 := h.w
 have hn := hok.n
 have hw := hok.w
 have hR : (gdS s).R = (s.rows.length : Int) := rfl
 have hC : (gdS s).C = (wdS s : Int) := rfl
 omega
theorem lyN_len (g : Gd) : ∀ n, (lyN g n).length ≤ n
 | 0 => by simp [lyN]
 | n + 1 => by
  have := lyN_len g n
  rw [lyN_snoc]
  split
  ·rw [List.length_append, List.length_singleton]; omega
  ·omega
theorem largest_f (s : Sh) (V : View) (v : Value) (hv : ShV V v s) : Fnc Tryz.prog 36 [v] V fun r _ => r = .tuple #[pcv (laR s).1, iv (laR s).2] := by
 obtain ⟨a, c, rfl, hs⟩ := id hv
 refine qc Tryz.func36 rfl Tryz.ntmps36 (Nat.le_of_ble_eq_true rfl) ?_
 intro w0 hw0
 refine At.nrm ?_
 refine At.zi (.n false 0 (.n false 1 (.q 2 .done))) ?_
 refine AtT.qV ?_
 intro b1
 refine AtT.qw z26 ?_
 intro b2
 refine AtT.zh ?_
 refine AtT.done ?_
 refine At.nrm ?_
 by_cases h0 : chE s = 0
 rotate_left
 ·refine At.zi (.q 0 (.n false 1 (.q 2 (.q 3 (.q 4 (.q 5 (.q 6 .done))))))) ?_
  first | refine AtT.zu zx ?_ | refine AtT.zC zx ?_ | refine AtT.zt zx ?_
  refine AtT.qg rfl rfl ok57 (open_bad s h0 _ _ hv) ?_
  rintro v9 V9 hV9 rfl
  refine AtT.zf ?_
  refine AtT.zO ?_
  refine AtT.zO ?_
  refine AtT.zh ?_
  refine AtT.zh ?_
  refine AtT.done ?_
  refine At.nrm ?_
  refine At.nrm ?_
  refine At.zi (.q 0 (.q 1 .done)) ?_
  refine AtT.zf ?_
  refine AtT.qC ?_
  refine AtT.done ?_
  refine At.nrm ?_
  refine At.qB rfl (decide_eq_true h0) ?_
  refine At.nrm ?_
  refine At.zi (.q 0 (.q 1 (.n true 2 (.q 3 .done)))) ?_
  refine AtT.qU (bd26) ?_
  refine AtT.zf ?_
  refine AtT.zW zQ ?_
  refine AtT.zh ?_
  refine AtT.done ?_
  refine At.nrm ?_
  exact At.jb rfl (.agg rfl zQ zZ.zI rfl) (.tmp rfl) (by unfold laR; rw [if_pos h0]; rfl)
 have hok := jl h0
 have e0 : ¬ chE s ≠ 0 := by simpa using h0
 refine At.zi (.q 0 (.n false 1 (.q 2 (.q 3 (.q 4 (.q 5 (.q 6 .done))))))) ?_
 first | refine AtT.zu zx ?_ | refine AtT.zC zx ?_ | refine AtT.zt zx ?_
 refine AtT.qg rfl rfl ok57 (open_ok s h0 _ _ hv) ?_
 rintro v9 V9 hV9 ⟨b, rfl, hb⟩
 refine AtT.zf ?_
 refine AtT.zO ?_
 refine AtT.zO ?_
 refine AtT.zh ?_
 refine AtT.zh ?_
 refine AtT.done ?_
 refine At.nrm ?_
 refine At.nrm ?_
 refine At.zi (.q 0 (.q 1 .done)) ?_
 refine AtT.zf ?_
 refine AtT.qC ?_
 refine AtT.done ?_
 refine At.nrm ?_
 refine At.qE rfl rfl ?_
 refine At.nrm ?_
 refine At.zi (.q 0 (.n false 1 (.n false 2 (.q 3 .done)))) ?_
 refine AtT.zf ?_
 refine AtT.qg rfl rfl ok74 (pieces_f _ b) ?_
 rintro _ V17 hV17 ⟨q, rfl, hq⟩
 refine AtT.qg rfl rfl ok73 (collect_f (lyN (gdS s) 1296) (by have := lyN_len (gdS s) 1296; omega) 104 [.pointer (some q)] ok104 _ (iterP_f s hok _ b q hq (hb.le hV17))) ?_
 rintro v18 V18 hV18 hs18
 refine AtT.zh ?_
 refine AtT.done ?_
 refine At.nrm ?_
 obtain ⟨a18, c18, rfl, q1, q2, _⟩ := id hs18
 clear q1 q2
 refine At.nrm ?_
 refine At.zi (.q 0 (.q 1 (.q 2 .done))) ?_
 refine AtT.zf ?_
 first | refine AtT.zU Tryz.underlying27 ?_ | refine AtT.zV Tryz.underlying27 ?_
 refine AtT.qK ?_
 refine AtT.done ?_
 refine At.nrm ?_
 refine At.zX rfl (fun hz => ?_) (fun hz => ?_)
 ·have hnil : lyN (gdS s) 1296 = [] := List.eq_nil_of_length_eq_zero (by omega)
  refine At.nrm ?_
  refine At.zi (.q 0 (.n true 1 (.q 2 .done))) ?_
  refine AtT.qU (bd26) ?_
  refine AtT.zW zQ ?_
  refine AtT.zh ?_
  refine AtT.done ?_
  refine At.nrm ?_
  exact At.jb rfl (.agg rfl zQ zZ.zI rfl) (.tmp rfl) (by unfold laR; rw [if_neg e0, if_pos hnil]; rfl)
 cases hl : lyN (gdS s) 1296 with
 | nil => rw [hl] at hz; exact absurd rfl hz
 | cons x t =>
  have hla := laO_cons hl
  have hmem : ∀ p ∈ x :: t, 0 ≤ p.h ∧ p.h ≤ 6 ∧ 0 ≤ p.w ∧ p.w ≤ 6 := fun p hp => lies_6 hok (lyN_mem.1 (by rw [hl]; exact hp)).1
  rw [hl] at hs18
  refine At.nrm ?_
  refine At.zi (.q 0 (.n false 1 (.n true 2 (.q 3 .done)))) ?_
  refine AtT.zf ?_
  refine AtT.zq rfl rfl ok75 (best_p 76 [] gtA _ _ x t hs18 ok76 (fun p p' hp hp' => greater_f p p' (hmem p hp) (hmem p' hp') _)) ?_
  rintro _ rfl
  refine AtT.zW zQ ?_
  refine AtT.zh ?_
  refine AtT.done ?_
  refine At.nrm ?_
  exact At.jb rfl (.agg rfl zQ zZ.zI rfl) (.tmp rfl) (by unfold laR; rw [if_neg e0, if_neg (by rw [hl]; simp), hla])
end Go.Proofs.YtghomjjffllkeaaGreatDoor
namespace Go.Lw
def FncM (P : Program) (cx : Cx) (f : FuncId) (args : List Value) (O : List Own) (V : View) (R : Value → List Own → View → Prop) : Prop :=
 ∀ w, Mem cx O V w → Calls P f args.toArray w fun e w' => ∃ v O' V', e = .returned v ∧ Mem cx O' V' w' ∧ R v O' V'
theorem Mem.ds {cx : Cx} {O : List Own} {V : View} {w : World} (h : Mem cx O V w) (ds : List Deferred) : Mem { cx with ds := ds } O V w := ⟨h.below, h.le0, h.fresh, h.view, h.own⟩
theorem Mem.ds' {cx : Cx} {O : List Own} {V : View} {w : World} {ds : List Deferred} (h : Mem { cx with ds := ds } O V w) : Mem cx O V w := ⟨h.below, h.le0, h.fresh, h.view, h.own⟩
abbrev PostM (cx : Cx) (R : Value → List Own → View → Prop) : Ending → World → Prop := fun e w' => ∃ v O' V', e = .returned v ∧ Mem cx O' V' w' ∧ R v O' V'
theorem fncM_of {P : Program} {cx : Cx} {f : FuncId} {fn : Func} {c : Code} {args : List Value} {O : List Own} {V : View} {R : Value → List Own → View → Prop} {n : Nat} (hf : P.funcs[f]? = some fn) (hb : fn.body = some c) (hn : fn.ntmps = n) (hl : args.length ≤ n)
  (h : At { cx with ds := [] } n (frame args 0) O V (c.wpIn (FW none) 0 P (bodyPost P fn (PostM cx R)))) : FncM P cx f args O V R := fun w hm => by
 refine (calls_FW (ro := none) (n := 0)).1 (callsIn_of_wp hf hb trivial (h _ w ⟨rfl, ?_, fun i v hi => ?_⟩ (hm.ds [])) rfl)
 ·simp [hn]; omega
 ·have := (frame_known args 0 i v hi).2
  simp only [Nat.sub_zero] at this
  have hlt := (List.getElem?_eq_some_iff.1 this).1
  rw [Array.getElem?_append_left (by simpa using hlt)]
  simpa using this
section
variable {cx : Cx} {n : Nat} {ks : List (Nat × Value)} {O O' R : List Own} {V : View} {P : Program} {fn : Func}
theorem At.retM1 {R : Value → List Own → View → Prop} {r : ResultVar} {v : Value} (hr : fn.results = #[r]) (h1 : Res P ks O V r v) (h : R v O V) : At { cx with ds := [] } n ks O V (bodyPost P fn (PostM cx R) .ret) := fun a w hk hm =>
 ⟨hk.defers, v, by
  rcases h1.spec hk hm with ⟨t, rfl, e⟩ | ⟨p, T, q, rfl, e, l⟩ <;> simp [results, hr, asAddr, *], _, O, V, rfl, hm.ds', h⟩
end
section
variable {cx : Cx} {n : Nat} {ks : List (Nat × Value)} {O O' : List Own} {V : View} {P : Program} {ops : Array Oper} {Qn : Act → World → Prop} {t : Tr} {i d : Nat} {T : TypeId} {pos : String} {after : Array Edge} {gd : Option (Nat × Bool)}
theorem AtT.callM {f : FuncId} {args : List Operand} {ts : Array TypeId} {vs : List Value} {R : Value → List Own → View → Prop} (ho : ops[i]? = some ⟨some d, .call ⟨.value (.func f), args.toArray, ts⟩, T, pos, after, gd⟩) (hg : Gd ks ops gd) (ha : evs ks args = some vs) (hf : zM P f) (hn : d < n)
  (hp : O.Perm O') (hc : FncM P cx f vs O' V R) (next : ∀ v O2 V2, R v O2 V2 → AtT cx n ((d, v) :: ks) O2 V2 P ops Qn t) : AtT cx n ks O V P ops Qn (.n true i t) :=
 .x ho hg fun a w hk hm => by
  have e : args.toArray.map a.eval = vs.toArray := by rw [← evs_map hk args vs ha]; simp
  have e2 : a.eval (.func f) = .func (.func f) #[] #[] := rfl
  simp only [opW, execOp, resolve, e, e2, Deferred.ofValue, Sem.run_bind, Sem.run_pure, Result.andThen_ok, invoke, Array.empty_append, Array.append_empty]
  rw [hf vs.toArray w]
  refine (hc w (hm.perm hp)).mono fun e w' ⟨v, O2, V2, h1, h2, h3⟩ => ?_
  subst h1
  exact ⟨_, O2, V2, hk.put hn v, h2, fun h => (by cases h), next v O2 V2 h3⟩
end
end Go.Lw
set_option linter.unusedVariables false
namespace Go.Proofs.YtghomjjffllkeaaGreatDoor
open Go.Lw Go.Gl Go.Pm Go.RowKit Go.Shelf
abbrev bye (u : UInt8) : List Value := [.int .u8 (u.toNat : Int)]
theorem bye_len (u : UInt8) : (bye u).length = 1 := rfl
theorem copyCheck_f {cx : Cx} {O : List Own} {V : View} (b : Nat) (buf : Value) (p : Option Addr) (hp : p = none ∨ p = some ⟨b, 0, none⟩) : FncM Tryz.prog cx 129 [.pointer (some ⟨b, 0, none⟩)] (.blk b (LC [.pointer p, buf] 145) :: O) V fun v O' V' => v = .tuple #[] ∧ O' = .blk b (LC [.pointer (some ⟨b, 0, none⟩), buf] 145) :: O ∧ V' = V := fun w hm => by
 have hb := hm.blk
 have hlt : b < w.heap.size := (Array.getElem?_eq_some_iff.1 hb).1
 rcases hp with rfl | rfl
 ·refine (Any.Builder_copyCheck_fresh { lay_join with } str_ext.toX72 b w (by simp [World.cell?, hb, LC]) (by simp [World.shape?, hb, LC]; rfl) (by simp [World.frozen?, hb, LC])).mono fun e w' ⟨h1, h2⟩ => ?_
  subst h2
  refine ⟨_, _, V, h1, hm.set (o' := LC [.pointer (some ⟨b, 0, none⟩), buf] 145) ⟨rfl, rfl, rfl, by simp [World.setCell], fun k _ hk => Below.heap_setCell _ _ _ _ (fun e => hk (by simp [e]))⟩ ?_, rfl, rfl, rfl⟩
  simp [World.setCell, Array.getElem?_modify, hb, LC]
 ·exact (Any.Builder_copyCheck_used { lay_join with } str_ext.toX72 b w (by simp [World.cell?, hb, LC])).mono fun e w' ⟨h1, h2⟩ => ⟨_, _, V, h1, h2 ▸ hm, rfl, rfl, rfl⟩
theorem writeByte_f {cx : Cx} {O : List Own} {V : View} (b : Nat) (p : Option Addr) (hp : p = none ∨ p = some ⟨b, 0, none⟩) (ao : Option Addr) (co : Nat) (l : List UInt8) (hl : l.length ≤ 100) (u : UInt8) :
  FncM Tryz.prog cx 106 [.pointer (some ⟨b, 0, none⟩), .int .u8 (u.toNat : Int)] (.blk b (LC [.pointer p, .slice ao l.length co] 145) :: .row (.slice ao l.length co) 5 1 l.length (flat bye l) :: O) V fun v O' V' =>
   v = .nilIface ∧ Le V V' ∧ ∃ a' c', O' = .row (.slice a' (l ++ [u]).length c') 5 1 (l ++ [u]).length (flat bye (l ++ [u])) :: .blk b (LC [.pointer (some ⟨b, 0, none⟩), .slice a' (l ++ [u]).length c'] 145) :: O := by
 have hlu : (l ++ [u]).length = l.length + 1 := by rw [List.length_append]; rfl
 refine fncM_of Tryz.func106 rfl Tryz.ntmps106 (Nat.le_of_ble_eq_true rfl) ?_
 refine At.nrm ?_
 refine At.zi (.q 0 .done) ?_
 refine AtT.zh ?_
 refine AtT.done ?_
 refine At.nrm ?_
 refine At.zi (.q 0 (.n true 1 .done)) ?_
 refine AtT.zf ?_
 refine AtT.callM rfl trivial rfl ok129 (by decide) (List.Perm.refl _) (copyCheck_f b _ p hp) ?_
 rintro _ _ _ ⟨rfl, rfl, rfl⟩
 refine AtT.done ?_
 refine At.nrm ?_
 refine At.zi (.q 0 (.q 1 (.q 2 (.q 3 (.q 4 (.q 5 (.n false 6 (.n true 7 (.q 8 (.q 9 (.n true 10 .done))))))))))) ?_
 refine AtT.zf ?_
 refine AtT.zf ?_
 refine AtT.knil ?_
 first | refine AtT.zk jD ?_ | with_reducible refine AtT.zl jD ?_ | refine AtT.zn jD ?_
 first | refine AtT.zm tk56 ?_ | refine AtT.zo tk56 ?_
 refine AtT.zf ?_
 refine AtT.zB (bs56_1_0 _) ?_
 intro q13 V13 hV13 hq13
 first | refine AtT.jC Tryz.underlying56 rw5 ?_
 intro a14 c14
 refine AtT.knil ?_
 first | refine AtT.zk jD ?_ | with_reducible refine AtT.zl jD ?_ | refine AtT.zn jD ?_
 first | refine AtT.jk tk56 ?_ | refine AtT.zW tk56 ?_
 refine AtT.done ?_
 refine At.nrm ?_
 refine At.zi (.q 0 .done) ?_
 refine AtT.zh ?_
 refine AtT.done ?_
 refine At.nrm ?_
 exact At.retM1 rfl (.tmp rfl) ⟨rfl, by first | assumption | exact Le.trans (by assumption) (by assumption), a14, c14, by rw [hlu, jm]; rfl⟩
end Go.Proofs.YtghomjjffllkeaaGreatDoor
set_option linter.unusedVariables false
namespace Go.Proofs.YtghomjjffllkeaaGreatDoor
open Go.Lw Go.Gl Go.Pm Go.RowKit Go.Shelf
section
variable {cx : Cx} {n : Nat} {ks : List (Nat × Value)} {O R : List Own} {V : View} {ops : Array Oper} {Qn : Act → World → Prop} {t : Tr} {i d : Nat} {T : TypeId} {pos : String} {after : Array Edge} {gd : Option (Nat × Bool)} {x y : Operand} {wr : Bool}
theorem AtT.unsafeSD {X : TypeId} {a0 : Addr} {m c : Nat} (ho : ops[i]? = some ⟨some d, .call ⟨.builtin .unsafeSliceData, #[x], #[X]⟩, T, pos, after, gd⟩) (hg : Gd ks ops gd) (hx : ev ks x = some (.slice (some a0) m c)) (hc : c ≠ 0) (hn : d < n)
  (next : AtT cx n ((d, .pointer (some a0)) :: ks) O V Tryz.prog ops Qn t) : AtT cx n ks O V Tryz.prog ops Qn (.n wr i t) :=
 .x ho hg fun a w hk hm => by
  have e0 : (#[x] : Array Operand).map a.eval = #[.slice (some a0) m c] := by simp [hk.ev hx]
  have hr := Lib.run_unsafeSliceData_row (P := Tryz.prog) (w := w) #[X] T a0 m c hc
  simp only [opW, execOp, resolve, e0, Sem.run_bind, Sem.run_pure, Result.andThen_ok, invoke, builtin, hr]
  exact ⟨_, O, V, hk.put hn _, hm, fun _ u hu => hu, next⟩
theorem AtT.unsafeStr {g : Nat} {l : List UInt8} {rest : List Value} (ho : ops[i]? = some ⟨some d, .call ⟨.builtin .unsafeString, #[x, y], #[173, 3]⟩, T, pos, after, gd⟩) (hg : Gd ks ops gd) (hx : ev ks x = some (.pointer (some ⟨g, 0, none⟩))) (hy : ev ks y = some (.int .i64 l.length)) (h0 : l ≠ []) (h63 : l.length ≤ 9223372036854775807) (hp : zZ (.blk g (LC (flat bye l ++ rest) 5)) O R) (hn : d < n)
  (next : AtT cx n ((d, .string ⟨l.toArray⟩) :: ks) R V Tryz.prog ops Qn t) : AtT cx n ks O V Tryz.prog ops Qn (.n true i t) :=
 .x ho hg fun a w hk hm => by
  have hm1 := hm.pick hp
  have hb := hm1.blk
  have hfl : (flat bye l).length = l.length := by rw [qX bye_len, Nat.mul_one]
  have e0 : (#[x, y] : Array Operand).map a.eval = #[.pointer (some ⟨g, 0, none⟩), .int .i64 l.length] := by simp [hk.ev hx, hk.ev hy]
  have hr := Lib.run_unsafeString_row (P := Tryz.prog) (w := w) 173 3 T 5 Tryz.underlying173 (by kernel_rfl) g (flat bye l ++ rest).length (by simp [World.shape?, hb, LC]) l h0 (by rw [List.length_append, hfl]; omega) h63 (fun j u hj => by
   rw [Addr.add_lit, cell_blk hb, Nat.zero_add, List.getElem?_append_left (by rw [hfl]; exact (List.getElem?_eq_some_iff.1 hj).1)]
   have := flat_at bye_len l j u hj 0 _ rfl
   simpa using this)
  simp only [opW, execOp, resolve, e0, Sem.run_bind, Sem.run_pure, Result.andThen_ok, invoke, builtin, hr]
  have hlen : l.length ≠ 0 := by simpa using h0
  refine ⟨_, R, V, hk.put hn _, (hm1.set (w' := w.freeze ⟨g, 0, none⟩ l.length) (o' := .cells (flat bye l ++ rest).toArray 5 (0, 0 + l.length)) ⟨?_, ?_, ?_, ?_, fun k _ hne => ?_⟩ ?_).drop, fun h => (by cases h), next⟩
  ·unfold World.freeze; rw [if_neg hlen]
  ·unfold World.freeze; rw [if_neg hlen]
  ·unfold World.freeze; rw [if_neg hlen]
  ·unfold World.freeze; rw [if_neg hlen]; simp
  ·unfold World.freeze; rw [if_neg hlen]
   simp only [Array.getElem?_modify]
   rw [if_neg (fun e => hne (by rw [e]))]
  ·unfold World.freeze; rw [if_neg hlen]
   simp only [Array.getElem?_modify, hb]
   simp [LC]
end
theorem bstring_f {cx : Cx} {O : List Own} {V : View} (b : Nat) (p : Option Addr) (ao : Option Addr) (co : Nat) (l : List UInt8) (h0 : l ≠ []) (hl : l.length ≤ 100) :
  FncM Tryz.prog cx 107 [.pointer (some ⟨b, 0, none⟩)] (.row (.slice ao l.length co) 5 1 l.length (flat bye l) :: .blk b (LC [.pointer p, .slice ao l.length co] 145) :: O) V fun v O' V' =>
   v = .string ⟨l.toArray⟩ ∧ V' = V ∧ O' = .blk b (LC [.pointer p, .slice ao l.length co] 145) :: O := by
 have hpos : l.length ≠ 0 := by simpa using h0
 refine fncM_of Tryz.func107 rfl Tryz.ntmps107 (Nat.le_of_ble_eq_true rfl) ?_
 refine At.nrm ?_
 refine At.zi (.q 0 .done) ?_
 refine AtT.zh ?_
 refine AtT.done ?_
 refine At.nrm ?_
 refine At.rowSplit (v := .slice ao l.length co) zZ.zI (fun _ h _ => absurd h hpos) (fun g cap rest hv hc1 hc2 hc3 => ?_)
 cases hv
 refine At.nrm ?_
 refine At.draw (.q 0 (.q 1 (.q 2 (.q 3 (.q 5 (.q 6 (.q 7 (.q 8 (.q 9 (.n false 4 (.n true 10 (.q 11 .done)))))))))))) ffm (by kernel_rfl) ?_
 refine AtT.zf ?_
 refine AtT.knil ?_
 first | refine AtT.zk jD ?_ | with_reducible refine AtT.zl jD ?_ | refine AtT.zn jD ?_
 first | refine AtT.zm tk56 ?_ | refine AtT.zo tk56 ?_
 refine AtT.zf ?_
 refine AtT.knil ?_
 first | refine AtT.zk jD ?_ | with_reducible refine AtT.zl jD ?_ | refine AtT.zn jD ?_
 first | refine AtT.zm tk56 ?_ | refine AtT.zo tk56 ?_
 first | refine AtT.zU Tryz.underlying56 ?_ | refine AtT.zV Tryz.underlying56 ?_
 refine AtT.unsafeSD rfl trivial rfl (by omega) (by decide) ?_
 refine AtT.unsafeStr rfl trivial rfl rfl h0 (by omega) zZ.zI (by decide) ?_ (l := l) (rest := rest)
 refine AtT.zh ?_
 refine AtT.done ?_
 refine At.nrm ?_
 all_goals (exact At.retM1 rfl (.tmp rfl) ⟨rfl, rfl, rfl⟩)
end Go.Proofs.YtghomjjffllkeaaGreatDoor
set_option linter.unusedVariables false
namespace Go.Pm
open Go.Gl Go.Lw
def rwA (rows : List ByteArray) (k : Nat) : ByteArray := rows.getD k ByteArray.empty
def colB (rows : List ByteArray) (c : Nat) (m : Nat) : List UInt8 := (List.range m).map fun j => (bt (rwA rows (rows.length - 1 - j))).getD c 0
theorem colB_len (rows : List ByteArray) (c m : Nat) : (colB rows c m).length = m := by unfold colB; simp
theorem colB_snoc (rows : List ByteArray) (c m : Nat) : colB rows c (m + 1) = colB rows c m ++ [(bt (rwA rows (rows.length - 1 - m))).getD c 0] := by
 unfold colB; rw [List.range_succ, List.map_append]; rfl
def tnK (rows : List ByteArray) (k : Nat) : List ByteArray := (List.range k).map fun c => ⟨(colB rows c rows.length).toArray⟩
theorem tnK_len (rows : List ByteArray) (k : Nat) : (tnK rows k).length = k := by unfold tnK; simp
theorem tnK_snoc (rows : List ByteArray) (k : Nat) : tnK rows (k + 1) = tnK rows k ++ [⟨(colB rows k rows.length).toArray⟩] := by
 unfold tnK; rw [List.range_succ, List.map_append]; rfl
def tnS (s : Sh) : Sh := ⟨tnK s.rows (wdS s), s.most⟩
def tnN (s : Sh) : Nat → Sh
 | 0 => s
 | n + 1 => tnS (tnN s n)
abbrev ysB (rows : List ByteArray) : List (List Value) := (List.range rows.length).map fun (j : Nat) => [iv ((rows.length : Int) - 1 - (j : Int)), .string (rwA rows (rows.length - 1 - j))]
theorem ysB_at {rows : List ByteArray} {j : Nat} (h : j < rows.length) : (ysB rows)[j]? = some [iv ((rows.length : Int) - 1 - (j : Int)), .string (rwA rows (rows.length - 1 - j))] := by
 simp only [ysB, List.getElem?_map, List.getElem?_range h]; rfl
end Go.Pm
set_option linter.unusedVariables false
namespace Go.Proofs.YtghomjjffllkeaaGreatDoor
open Go.Lw Go.Gl Go.Pm Go.RowKit Go.Shelf
theorem backward_f (V : View) (a : Option Addr) (m c : Nat) : Fnc Tryz.prog 105 [.slice a m c] V fun r V' => ∃ q : Addr, r = .func (.func 128) #[] #[.pointer (some q)] ∧ Cells V' q [.slice a m c] := by
 refine qc Tryz.func105 rfl Tryz.ntmps105 (Nat.le_of_ble_eq_true rfl) ?_
 intro w0 hw0
 refine At.nrm ?_
 refine At.zi (.n false 0 (.q 1 .done)) ?_
 refine AtT.qV ?_
 intro b1
 refine AtT.zh ?_
 refine AtT.done ?_
 refine At.nrm ?_
 refine At.giveB (b := b1) zZ.zI ?_
 intro V1 hV1 hb1
 refine At.zi (.q 0 (.q 1 .done)) ?_
 refine AtT.kfn ?_
 refine AtT.zh ?_
 refine AtT.done ?_
 refine At.nrm ?_
 exact At.qd rfl (.tmp rfl) ⟨_, rfl, qY hb1⟩
theorem iterB_f (rows : List ByteArray) (hn : rows.length ≤ 100) (V : View) (q : Addr) (a : Option Addr) (c : Nat) (hq : Cells V q [.slice a rows.length c]) (hs : Sl V bse 1 (.slice a rows.length c) rows) : It Tryz.prog 128 [.pointer (some q)] V (ysB rows) := by
 refine it_of Tryz.func128 rfl Tryz.ntmps128 (Nat.le_of_ble_eq_true rfl) rfl ?_
 intro l J E w0 H hJ
 refine At.nrm ?_
 refine At.zi (.q 0 (.q 1 (.q 2 (.q 3 .done)))) ?_
 first | refine AtT.zm qa ?_ | refine AtT.zo qa ?_
 first | refine AtT.zU Tryz.underlying22 ?_ | refine AtT.zV Tryz.underlying22 ?_
 first | refine AtT.qz ?_ | refine AtT.qA ?_
 refine AtT.zh ?_
 refine AtT.done ?_
 refine At.nrm ?_
 refine At.lpY H (ι := Nat) (fun k => k ≤ rows.length) (fun k => [(0, .func (.yield l) #[] #[]), (1, .pointer (some q)), (3, iv ((rows.length : Int) - 1 - (k : Int)))]) (fun k => k) (fun k => rows.length - k) 0 (Nat.zero_le _) ⟨rfl, rfl, ivs (by omega), trivial⟩ hJ ?_
 rintro k w ks' hkl hJ rfl
 refine At.nrm ?_
 refine At.zi (.q 0 (.q 1 .done)) ?_
 refine AtT.zf ?_
 refine AtT.kgeq ?_
 refine AtT.done ?_
 refine At.nrm ?_
 refine At.zX rfl (fun hp => ?_) (fun hp => ?_)
 rotate_left
 ·obtain rfl : k = rows.length := by omega
  refine At.nrm ?_
  exact At.itEnd H (.inl rfl) rfl (.inl (by rw [ysB, List.length_map, List.length_range]; exact hJ))
 have hys := ysB_at (rows := rows) (j := k) (by omega)
 have hrw : rows[rows.length - 1 - k]? = some (rwA rows (rows.length - 1 - k)) := by
  unfold rwA
  simp [List.getD, List.getElem?_eq_getElem (show rows.length - 1 - k < rows.length by omega)]
 have hto : ((rows.length : Int) - 1 - (k : Int)).toNat = rows.length - 1 - k := by omega
 refine At.nrm ?_
 refine At.zi (.q 0 (.q 1 (.q 2 (.q 3 (.q 4 (.q 5 (.n true 6 (.q 7 .done)))))))) ?_
 refine AtT.zf ?_
 refine AtT.zf ?_
 first | refine AtT.zm qa ?_ | refine AtT.zo qa ?_
 refine AtT.zf ?_
 refine AtT.qi Tryz.underlying22 tk9 ?_
 intro p15 e15 he15 hc15
 first | refine AtT.zm tk9 ?_ | refine AtT.zo tk9 ?_
 obtain rfl : rwA rows (rows.length - 1 - k) = e15 := by have : rows[rows.length - 1 - k]? = some e15 := (by rw [hto] at he15; exact he15); rw [hrw] at this; simpa using this
 refine AtT.yield rfl trivial rfl rfl H (hys) (hJ) (by decide) ?_ ?_
 all_goals (intro w17 hJ17)
 all_goals (refine AtT.jh ?_)
 all_goals refine AtT.done ?_
 all_goals (refine At.nrm ?_)
 rotate_left
 ·refine At.qB rfl rfl ?_
  refine At.nrm ?_
  exact At.itEnd H (.inr rfl) rfl (.inr hJ17)
 refine At.qE rfl rfl ?_
 refine At.nrm ?_
 refine At.zi (.q 0 (.q 1 (.q 2 .done))) ?_
 refine AtT.zf ?_
 first | refine AtT.qz ?_ | refine AtT.qA ?_
 refine AtT.zh ?_
 refine AtT.done ?_
 refine At.nrm ?_
 refine At.roundY H (k + 1) ?_ (by omega) ?_ hJ17
 ·show rows.length - (k + 1) < rows.length - k; omega
 ·exact ⟨rfl, rfl, ivs (by push_cast; omega), trivial⟩
theorem sl_emp {α : Type} {enc : α → List Value} {st : Nat} (V : View) (a : Option Addr) : Sl V enc st (.slice a 0 0) ([] : List α) := ⟨a, 0, rfl, Nat.le_refl _, Nat.zero_le _, fun h => absurd rfl h, fun p _ i x h => by simp at h⟩
theorem clone_f (l : List ByteArray) (h0 : l ≠ []) (hn : l.length ≤ 100) (V : View) (v : Value) (hs : Sl V bse 1 v l) : Fnc Tryz.prog 77 [v] V fun r V' => ∃ a c, r = .slice a l.length c ∧ Sl V' bse 1 (.slice a l.length c) l := by
 obtain ⟨a, c, rfl, k1, k2, ha, k3⟩ := id hs
 obtain ⟨p, rfl⟩ := Option.isSome_iff_exists.1 (ha h0)
 clear k1 k2 k3
 have hcl : Cells V p (flat bse l) := Sl.cells bse_len hs
 refine qc Tryz.func77 rfl Tryz.ntmps77 (Nat.le_of_ble_eq_true rfl) ?_
 intro w0 hw0
 refine At.nrm ?_
 refine At.zi (.q 0 .done) ?_
 refine AtT.zh ?_
 refine AtT.done ?_
 refine At.nrm ?_
 refine At.zi (.q 0 (.q 1 .done)) ?_
 refine AtT.zf ?_
 refine AtT.eqNil rfl trivial Tryz.underlying22 rfl rfl (by decide) ?_
 refine AtT.done ?_
 refine At.nrm ?_
 refine At.qE rfl rfl ?_
 refine At.nrm ?_
 refine At.zi (.n false 0 (.q 1 (.n true 2 (.q 3 .done)))) ?_
 refine AtT.zB (bs22_0) ?_
 intro q5 V5 hV5 hq5
 have g5 : Le V V5 := by first | exact hV5 | exact Le.trans (by assumption) hV5
 refine AtT.zf ?_
 refine AtT.appendC rfl trivial Tryz.underlying22 rw9 rfl (by decide) rfl (sl_emp _ _) rfl rfl (hcl.le hV5) (fun _ => rfl) h0 (by unfold maxLen; simp only [List.length_nil]; omega) (by simp only [List.length_nil]; omega) (by decide) (enc := bse) (l := []) (m := l) ?_
 intro a7 c7 V7 hV7 hs7
 refine AtT.zh ?_
 refine AtT.done ?_
 refine At.nrm ?_
 exact At.qd rfl (.tmp rfl) ⟨a7, c7, rfl, hs7⟩
end Go.Proofs.YtghomjjffllkeaaGreatDoor
set_option linter.unusedVariables false
set_option linter.unusedSimpArgs false
namespace Go.Lw
open Go.RowKit
section
variable {cx : Cx} {n : Nat} {ks : List (Nat × Value)} {O O' R : List Own} {V V0 : View} {P : Program} {ops : Array Oper} {Qn : Act → World → Prop} {t : Tr} {i d : Nat} {T : TypeId} {pos : String} {after : Array Edge} {gd : Option (Nat × Bool)} {x y : Operand} {u v : Value} {wr : Bool} {ro : Option Nat} {Q : Exit → Act → World → Prop} {K : Act → World → Prop}
 {l j : Nat} {J : Nat → World → Prop} {E : World → Prop} {ys : List (List Value)}
theorem At.rangeFuncD {g : Operand} {ps : Array Tmp} {assign body : Code} {f : FuncId} {caps : List Value} {Vi : View} {ι : Type} (idx : ι → Nat) (OS : ι → List Own) (VS : ι → View → Prop) (XS : Code → List Own → View → Prop)
  (hg : ev ks g = some (.func (.func f) #[] caps.toArray)) (hok : zM P f) (g0 : ι) (hg0 : idx g0 = 0) (hp : Pt (OS g0) O) (hv : VS g0 V) (hit : It P f caps Vi ys) (hVi : ∀ g V', VS g V' → Le Vi V')
  (hps : ∀ p ∈ ps.toList, p < n) (hlen : ∀ y ∈ ys, y.length = ps.size)
  (hround : ∀ i y l D r V' ks' O', ys[idx i]? = some y → VS i V' → Le cx.V0 V' → ks' = bindK ps.toList y ks → O' = OS i → At { cx with ds := [] } n ks' (.blk l (.loop { r with state := .ready, pending := none }) :: .blk D (.deferred (some [])) :: O') V'
   (assign.wpIn (FW (some l)) 0 P (Exit.then (fun a₁ w₁ => ∃ w₂, (Instr.beginRound l).run P w₁ = .ok () w₂ ∧ body.wpIn (FW (some l)) 0 P (roundPost P l (RR { cx with ds := [] } l D r idx OS VS XS (idx i))) a₁ w₂) (fun _ _ _ => False))))
  (hend : ∀ i D V' O', idx i = ys.length → VS i V' → Le cx.V0 V' → O' = OS i → At { cx with ds := mkD D :: cx.ds } n ks (.blk D (.deferred (some [])) :: O') V' (Q .normal))
  (hexit : ∀ D c O' V', XS c O' V' → Le cx.V0 V' → At { cx with ds := mkD D :: cx.ds } n ks (.blk D (.deferred (some [])) :: O') V' (c.wpIn (FW none) 0 P Q)) :
  At cx n ks O V ((Code.rangeFunc g ps assign body).wpIn (FW none) 0 P Q) := fun a w hk hm => by
 refine wpIn_rangeFunc fun fn _ => ?_
 let D := w.heap.size
 let r : Loop := { state := .ready, pending := none, fn := fn, tmps := a.tmps, params := ps, assign := assign, body := body, defers := D }
 let w1 := (w.alloc (.deferred (some []))).alloc (.loop r)
 have hm1 : Mem { cx with ds := [] } (.blk (D + 1) (.loop r) :: .blk D (.deferred (some [])) :: OS g0) V w1 := by
  have h1 := ((hm.part hp.part).ds []).alloc (.deferred (some []))
  have h2 := h1.alloc (.loop r)
  rwa [World.size_alloc] at h2
 have H : Yd P (D + 1) (RJ { cx with ds := [] } (D + 1) D r idx OS VS) (RE { cx with ds := [] } (D + 1) D r XS) Vi ys := by
  refine ⟨fun j w w' h hb => h.ext hb, fun w w' h hb => h.ext hb, fun j w h => ?_, fun j y w hy h => ?_⟩
  ·obtain ⟨g', V', h0, h1, h2⟩ := h
   exact (hVi _ _ h1).trans h2.view
  ·obtain ⟨g', V', rfl, h1, h2⟩ := h
   have hl := hlen y (List.mem_of_getElem? hy)
   refine ⟨_, _, _, _, run_yield h2.blk (by simpa using hl), ?_⟩
   rw [foldl_zip]
   refine roundIn_of_wpIn trivial ?_
   refine hround g' y (D + 1) D r V' _ _ hy h1 h2.le0 rfl rfl _ w ?_ h2
   have : Kn { cx with ds := [] } n ks { tmps := a.tmps, defers := [] } := ⟨rfl, hk.size, hk.known⟩
   have := Kn.bind ps.toList y ks a.tmps (by simpa using hl.symm) hps this
   exact ⟨this.defers, this.size, this.known⟩
 refine ⟨D + 1, [mkD D], w1, { target := .fn (.func f) caps.toArray, args := #[.func (.yield (D + 1)) #[] #[]] }, w1, f, (Value.func (.yield (D + 1)) #[] #[] :: caps).toArray, w1, run_enterLoop_outer _ _ _ _ _, ?_, fun _ _ => trivial, ?_, FW_dep none, ?_⟩
 ·have e1 : a.eval (.const (.func (.yield (D + 1)) #[] #[])) = .func (.yield (D + 1)) #[] #[] := rfl
  simp [resolve, hk.ev hg, Deferred.ofValue, e1]
 ·have e : (#[Value.func (.yield (D + 1)) #[] #[]] ++ caps.toArray) = (Value.func (.yield (D + 1)) #[] #[] :: caps).toArray := by simp
  simp only [invoke, e]
  exact hok _ _
 ·refine calls_FW.2 ((hit (D + 1) _ _ w1 H ⟨g0, V, hg0, hv, hm1⟩).mono fun e w' ⟨v, he, hh⟩ => ?_)
  subst he
  have hk' : Kn { cx with ds := mkD D :: cx.ds } n ks { a with defers := [mkD D] ++ a.defers } := ⟨by show [mkD D] ++ a.defers = mkD D :: cx.ds; rw [hk.defers]; rfl, hk.size, hk.known⟩
  rcases hh with ⟨g', V', h0, h1, h2⟩ | ⟨c, O', V', h1, h2⟩
  ·exact ⟨none, _, run_endLoop h2.blk (by simp), hend g' D V' _ h0 h1 h2.le0 rfl _ _ hk' (h2.put.drop.rebase rfl rfl)⟩
  ·exact ⟨some c, _, run_endLoop h2.blk (by simp), hexit D c O' V' h1 h2.le0 _ _ hk' (h2.put.drop.rebase rfl rfl)⟩
theorem At.lpD {ι : Type} {c : Code} (DS : ι → List Deferred) (KS : ι → List (Nat × Value)) (OS : ι → List Own) (VS : ι → View → Prop) (μ : ι → Nat) (i0 : ι)
  (hd : cx.ds = DS i0) (hs : Sub (KS i0) ks) (hp : Pt (OS i0) O) (hv : VS i0 V)
  (hbody : ∀ i V' ks' O', VS i V' → ks' = KS i → O' = OS i → Le cx.V0 V' → At { cx with ds := DS i } n ks' O' V' (c.wpIn (FW ro) 0 P (Exit.then (fun a w => ∃ i' V'', μ i' < μ i ∧ VS i' V'' ∧ Kn { cx with ds := DS i' } n (KS i') a ∧ Mem cx (OS i') V'' w) Q))) :
  At cx n ks O V ((Code.loop c).wpIn (FW ro) 0 P Q) := fun a w hk hm =>
 wpIn_loop_ghost (fun (i : ι) a w => ∃ V', VS i V' ∧ Kn { cx with ds := DS i } n (KS i) a ∧ Mem cx (OS i) V' w) μ
  (fun i a w ⟨V', hV, hk, hm⟩ => wpIn_mono (hbody i V' _ _ hV rfl rfl hm.le0 a w hk (hm.ds _)) (fun e a' w' hq => by
   cases e with
   | normal =>
    obtain ⟨i', V'', hlt, hV', hk', hm'⟩ := hq
    exact ⟨i', ⟨V'', hV', hk', hm'⟩, hlt⟩
   | exit id => exact hq
   | goto l => exact hq
   | ret => exact hq
   | panic ch => exact hq
   | outgrown => exact hq)) i0 a w ⟨V, hv, ⟨hk.defers.trans hd, hk.size, (hk.sub hs).known⟩, hm.part hp.part⟩
theorem At.roundD {ι : Type} {DS : ι → List Deferred} {KS : ι → List (Nat × Value)} {OS : ι → List Own} {VS : ι → View → Prop} {μ : ι → Nat} {i : ι} {ds : List Deferred} (i' : ι) (hμ : μ i' < μ i) (hv : VS i' V) (hd : ds = DS i') (hs : Sub (KS i') ks) (hp : Pt (OS i') O) :
  At { cx with ds := ds } n ks O V (fun a w => ∃ i' V'', μ i' < μ i ∧ VS i' V'' ∧ Kn { cx with ds := DS i' } n (KS i') a ∧ Mem cx (OS i') V'' w) := fun a w hk hm => ⟨i', V, hμ, hv, ⟨hk.defers.trans hd, hk.size, (hk.sub hs).known⟩, (hm.part hp.part).ds'⟩
abbrev dfB (D : Nat) : Own := .blk D (.deferred (some []))
theorem leaves_marks {fn : Func} {R' : Ending → World → Prop} {tmps : Array Value} {u : FrameMode} (hu : u ≠ .run) : ∀ (Ds : List Nat) (w : World), Mem cx (Ds.map dfB ++ R) V w → (∀ w', Mem cx R V w' → LeavesInM (FW none) 0 P fn tmps R' [] u w') → LeavesInM (FW none) 0 P fn tmps R' (Ds.map mkD) u w
 | [], w, hm, h => h w hm
 | D :: Ds, w, hm, h => by
  refine ⟨hu, .inl ⟨D, _, rfl, run_takeDeferred (Mem.blk hm), ?_⟩⟩
  exact leaves_marks hu Ds _ (Mem.put (o' := .deferred none) hm).drop h
theorem At.unmarks {fn : Func} {R' : Ending → World → Prop} {e : Exit} (Ds : List Nat) (he : e = .ret ∨ e = .normal) (hd : cx.ds = Ds.map mkD) (hp : O.Perm (Ds.map dfB ++ R)) (h : At { cx with ds := [] } n ks R V (bodyPost P fn R' e)) :
  At cx n ks O V (bodyPostM (FW none) 0 P fn R' e) := fun a w hk hm => by
 have key : ∀ w', Mem cx R V w' → LeavesInM (FW none) 0 P fn a.tmps R' [] .returning w' := fun w' hm' => by
  have := h { a with defers := [] } w' ⟨rfl, hk.size, hk.known⟩ (hm'.ds [])
  rcases he with rfl | rfl
  all_goals
   obtain ⟨_, h2⟩ := this
   exact h2
 rcases he with rfl | rfl
 all_goals
  show LeavesInM _ _ _ _ _ _ a.defers _ _
  rw [hk.defers, hd]
  exact leaves_marks (by simp) Ds w (hm.perm hp) key
end
end Go.Lw
set_option linter.unusedVariables false
namespace Go.Proofs.YtghomjjffllkeaaGreatDoor
open Go.Lw Go.Gl Go.Pm Go.RowKit Go.Shelf
theorem pt_self : ∀ L : List Own, Pt L L
 | [] => Pt.nil
 | x :: L => Pt.cons zZ.here (pt_self L)
theorem pt_skip {L' L : List Own} {x : Own} (h : Pt L' L) : Pt L' (x :: L) := by
 induction h with
 | nil => exact Pt.nil
 | cons hx _ ih => exact Pt.cons (zZ.there hx) ih
theorem turned_f (s : Sh) (hn : 1 ≤ s.rows.length ∧ s.rows.length ≤ 6) (hw : wdS s ≤ 6) (hsz : ∀ r ∈ s.rows, r.size = wdS s) (V : View) (v : Value) (hv : ShV V v s) : Fnc Tryz.prog 78 [v] V fun r V' => ShV V' r (tnS s) := by
 obtain ⟨a, c, rfl, hs⟩ := id hv
 obtain ⟨r0, hr0⟩ : ∃ r, s.rows[0]? = some r := ⟨_, List.getElem?_eq_getElem (by omega)⟩
 have hr0s : r0.size = wdS s := hsz r0 (List.mem_of_getElem? hr0)
 refine fn_ofM Tryz.func78 rfl Tryz.ntmps78 (Nat.le_of_ble_eq_true rfl) ?_
 intro w0 hw0
 refine At.nrm ?_
 refine At.zi (.n false 0 (.n false 1 .done)) ?_
 refine AtT.qV ?_
 intro b1
 refine AtT.qw z24 ?_
 intro b2
 refine AtT.done ?_
 refine At.nrm ?_
 refine At.zi (.q 0 (.q 1 (.q 2 (.n false 3 (.n true 4 .done))))) ?_
 first | refine AtT.zk zR ?_ | with_reducible refine AtT.zl zR ?_ | refine AtT.zn zR ?_
 first | refine AtT.zm tk3 ?_ | refine AtT.zo tk3 ?_
 refine AtT.qU (bd24_1 _) ?_
 refine AtT.qw z24 ?_
 intro b3
 refine AtT.zW zx ?_
 refine AtT.done ?_
 refine At.nrm ?_
 refine At.zi (.q 0 (.q 1 (.q 2 (.q 3 (.q 4 (.q 5 .done)))))) ?_
 first | refine AtT.zk zw ?_ | with_reducible refine AtT.zl zw ?_ | refine AtT.zn zw ?_
 first | refine AtT.zm qa ?_ | refine AtT.zo qa ?_
 refine AtT.qi Tryz.underlying22 tk9 ?_
 intro p13 e13 he13 hc13
 first | refine AtT.zm tk9 ?_ | refine AtT.zo tk9 ?_
 obtain rfl : r0 = e13 := by have : s.rows[0]? = some e13 := (by simpa using he13); rw [hr0] at this; simpa using this
 refine AtT.qQ rfl trivial Tryz.underlying9 rfl (by decide) ?_
 rw [hr0s]
 refine AtT.zf ?_
 refine AtT.done ?_
 refine At.nrm ?_
 refine At.newRow 9 1 ?_
 refine At.lpD (ι := Nat × List Nat × Option Addr × Nat) (DS := fun g => g.2.1.map mkD) (KS := fun g => [(1, .pointer (some ⟨b1, 0, none⟩)), (2, .pointer (some ⟨b2, 0, none⟩)), (3, .pointer (some ⟨b3, 0, none⟩)), (15, iv (wdS s)), (16, iv g.1)])
  (OS := fun g => .blk b3 (LC [.slice g.2.2.1 (tnK s.rows g.1).length g.2.2.2, iv s.most] 24) :: .row (.slice g.2.2.1 (tnK s.rows g.1).length g.2.2.2) 9 1 (tnK s.rows g.1).length (flat bse (tnK s.rows g.1)) :: .blk b1 (LC [.slice a s.rows.length c, iv s.most] 24) :: .blk b2 (LC [.slice none 0 0, iv 0] 24) :: g.2.1.map dfB)
  (VS := fun g V' => Le V V' ∧ g.1 ≤ wdS s) (μ := fun g => wdS s - g.1) (0, [], none, 0) rfl ?_ ?_ ?_ ?_
 ·exact ⟨rfl, rfl, rfl, rfl, rfl, trivial⟩
 ·exact Pt.zI
 ·exact ⟨Le.refl _, Nat.zero_le _⟩
 rintro ⟨k, Ds, ao, co⟩ V' ks' O' ⟨hVV, hkl⟩ hk hO hl2
 dsimp only at hkl hk hO
 subst hk hO
 have hs' := hs.le hVV
 refine At.nrm ?_
 refine At.zi (.q 0 .done) ?_
 refine AtT.zY ?_
 refine AtT.done ?_
 refine At.nrm ?_
 refine At.zX rfl (fun hp => ?_) (fun hp => ?_)
 rotate_left
 ·obtain rfl : k = wdS s := by omega
  refine At.nrm ?_
  refine At.zi (.q 0 (.n true 1 .done)) ?_
  first | refine AtT.zu zx ?_ | refine AtT.zC zx ?_ | refine AtT.zt zx ?_
  refine AtT.zW zx ?_
  refine AtT.done ?_
  refine At.nrm ?_
  refine At.giveSl (l := tnK s.rows (wdS s)) bse_len rfl rfl zZ.zI (fun V4 hV4 hs4 => ?_)
  refine At.unmarks Ds (.inl rfl) rfl (List.perm_append_comm (l₁ := [_, _, _])) ?_
  exact At.qd rfl (.agg rfl zx zZ.zI rfl) ⟨ao, co, rfl, hs4⟩
 refine At.nrm ?_
 refine At.zi (.q 0 (.n false 1 (.n true 2 .done))) ?_
 refine AtT.zf ?_
 refine AtT.qw z3 ?_
 intro b4
 first | refine AtT.jk tk3 ?_ | refine AtT.zW tk3 ?_
 refine AtT.done ?_
 refine At.nrm ?_
 refine At.nrm ?_
 refine At.zi (.n false 0 .done) ?_
 refine AtT.qw z145 ?_
 intro b5
 refine AtT.done ?_
 refine At.nrm ?_
 refine At.nrm ?_
 refine At.zi (.q 0 (.q 1 (.n false 2 .done))) ?_
 first | refine AtT.zk zw ?_ | with_reducible refine AtT.zl zw ?_ | refine AtT.zn zw ?_
 first | refine AtT.zm qa ?_ | refine AtT.zo qa ?_
 refine AtT.qg rfl rfl ok105 (backward_f _ a _ c) ?_
 rintro _ V21 hV21 ⟨q, rfl, hq⟩
 refine AtT.done ?_
 refine At.nrm ?_
 have hs2 := hs'.le hV21
 refine At.newRow 5 1 ?_
 refine At.rangeFuncD (Vi := V21) (ys := ysB s.rows) (ι := Nat × Option Addr × Nat × Option Addr) (fun g => g.1)
  (fun g => .row (.slice g.2.1 (colB s.rows k g.1).length g.2.2.1) 5 1 (colB s.rows k g.1).length (flat bye (colB s.rows k g.1)) :: .blk b5 (LC [.pointer g.2.2.2, .slice g.2.1 (colB s.rows k g.1).length g.2.2.1] 145) :: .blk b4 (LC [iv k] 3) :: .blk b3 (LC [.slice ao (tnK s.rows k).length co, iv s.most] 24) :: .row (.slice ao (tnK s.rows k).length co) 9 1 (tnK s.rows k).length (flat bse (tnK s.rows k)) :: .blk b1 (LC [.slice a s.rows.length c, iv s.most] 24) :: .blk b2 (LC [.slice none 0 0, iv 0] 24) :: Ds.map dfB)
  (fun g V'' => Le V21 V'' ∧ (g.2.2.2 = none ∨ g.2.2.2 = some ⟨b5, 0, none⟩)) (fun _ _ _ => False) rfl ok128 (0, none, 0, none) rfl ?_ ⟨Le.refl _, .inl rfl⟩ (iterB_f s.rows (by omega) V21 q a c hq hs2) (fun _ _ h => h.1) (by decide) (fun y hy => by obtain ⟨j, _, rfl⟩ := List.mem_map.1 hy; rfl) ?_ ?_ (fun _ _ _ _ h => h.elim)
 ·repeat (first | exact pt_self _ | refine Pt.cons zZ.zI ?_ | refine pt_skip ?_)
 ·rintro ⟨m, a5, c5, p5⟩ y l D r V6 ks' O' hy ⟨hV6, hp5⟩ hl rfl rfl
  dsimp only at hy hp5 ⊢
  have hm : m < s.rows.length := by
   have := (List.getElem?_eq_some_iff.1 hy).1
   rwa [ysB, List.length_map, List.length_range] at this
  obtain rfl : y = [iv ((s.rows.length : Int) - 1 - (m : Int)), .string (rwA s.rows (s.rows.length - 1 - m))] := by rw [ysB_at hm] at hy; exact (Option.some.inj hy).symm
  obtain ⟨rw', hrw⟩ : ∃ rw', rw' = rwA s.rows (s.rows.length - 1 - m) := ⟨_, rfl⟩
  have hrm : s.rows[s.rows.length - 1 - m]? = some rw' := by
   rw [hrw]; unfold rwA
   simp [List.getD, List.getElem?_eq_getElem (show s.rows.length - 1 - m < s.rows.length by omega)]
  have hrsz := hsz rw' (List.mem_of_getElem? hrm)
  have hcs := colB_snoc s.rows k m
  rw [← hrw] at hcs ⊢
  have hcl := colB_len s.rows k m
  show At _ _ ((23, .string rw') :: (22, iv ((s.rows.length : Int) - 1 - (m : Int))) :: _) _ _ _
  refine At.nrm ?_
  refine At.zi (.q 0 .done) ?_
  refine AtT.zh ?_
  refine AtT.done ?_
  refine At.nrm ?_
  refine At.begin zZ.zI ?_
  refine At.nrm ?_
  refine At.pt (O' := .blk b5 (LC [.pointer p5, .slice a5 (colB s.rows k m).length c5] 145) :: .row (.slice a5 (colB s.rows k m).length c5) 5 1 (colB s.rows k m).length (flat bye (colB s.rows k m)) :: .blk l (.loop { r with state := .busy, pending := none }) :: .blk D (.deferred (some [])) :: .blk b4 (LC [iv k] 3) :: .blk b3 (LC [.slice ao (tnK s.rows k).length co, iv s.most] 24) :: .row (.slice ao (tnK s.rows k).length co) 9 1 (tnK s.rows k).length (flat bse (tnK s.rows k)) :: .blk b1 (LC [.slice a s.rows.length c, iv s.most] 24) :: .blk b2 (LC [.slice none 0 0, iv 0] 24) :: Ds.map dfB) ?_ ?_
  ·repeat (first | exact pt_self _ | refine Pt.cons zZ.zI ?_ | refine pt_skip ?_)
  refine At.zi (.q 0 (.q 1 (.q 2 (.n true 3 .done)))) ?_
  refine AtT.zf ?_
  first | refine AtT.zm tk3 ?_ | refine AtT.zo tk3 ?_
  refine AtT.ixS rfl trivial Tryz.underlying9 rfl rfl (by omega) (by omega) (by decide) ?_
  rw [Int.toNat_natCast]
  refine AtT.callM rfl trivial rfl ok106 (by decide) (List.Perm.refl _) (writeByte_f b5 p5 hp5 a5 c5 (colB s.rows k m) (by omega) ((bt rw').getD k 0)) ?_
  rintro _ _ V7 ⟨rfl, hV7, a', c', rfl⟩
  refine AtT.done ?_
  refine At.nrm ?_
  refine At.roundN (m + 1, a', c', some ⟨b5, 0, none⟩) rfl ⟨hV6.trans hV7, .inr rfl⟩ zZ.zI ?_
  dsimp only
  rw [hcs]
  repeat (first | exact pt_self _ | refine Pt.cons zZ.zI ?_ | refine pt_skip ?_)
 rintro ⟨m, a5, c5, p5⟩ D V6 O' hm ⟨hV6, hp5⟩ hl rfl
 dsimp only at hm ⊢
 rw [ysB, List.length_map, List.length_range] at hm
 subst hm
 have hcl := colB_len s.rows k s.rows.length
 have hcne : colB s.rows k s.rows.length ≠ [] := fun e => by rw [e] at hcl; simp at hcl; omega
 have htl := tnK_len s.rows k
 refine At.sub (ks' := [(1, .pointer (some ⟨b1, 0, none⟩)), (2, .pointer (some ⟨b2, 0, none⟩)), (3, .pointer (some ⟨b3, 0, none⟩)), (15, iv (wdS s)), (16, iv k), (5, .pointer (some ⟨b5, 0, none⟩))]) ⟨rfl, rfl, rfl, rfl, rfl, rfl, trivial⟩ ?_
 refine At.pt (O' := .row (.slice a5 (colB s.rows k s.rows.length).length c5) 5 1 (colB s.rows k s.rows.length).length (flat bye (colB s.rows k s.rows.length)) :: .blk b5 (LC [.pointer p5, .slice a5 (colB s.rows k s.rows.length).length c5] 145) :: .blk D (.deferred (some [])) :: .blk b4 (LC [iv k] 3) :: .blk b3 (LC [.slice ao (tnK s.rows k).length co, iv s.most] 24) :: .row (.slice ao (tnK s.rows k).length co) 9 1 (tnK s.rows k).length (flat bse (tnK s.rows k)) :: .blk b1 (LC [.slice a s.rows.length c, iv s.most] 24) :: .blk b2 (LC [.slice none 0 0, iv 0] 24) :: Ds.map dfB) ?_ ?_
 ·repeat (first | exact pt_self _ | refine Pt.cons zZ.zI ?_ | refine pt_skip ?_)
 have hlk : (tnK s.rows (k + 1)).length = (tnK s.rows k).length + 1 := by rw [tnK_len, tnK_len]
 refine At.nrm ?_
 refine At.jo (ι := Option Addr × Nat) (fun _ => [(1, .pointer (some ⟨b1, 0, none⟩)), (2, .pointer (some ⟨b2, 0, none⟩)), (3, .pointer (some ⟨b3, 0, none⟩)), (15, iv (wdS s)), (16, iv k)])
  (fun g => .blk b3 (LC [.slice g.1 (tnK s.rows (k + 1)).length g.2, iv s.most] 24) :: .row (.slice g.1 (tnK s.rows (k + 1)).length g.2) 9 1 (tnK s.rows (k + 1)).length (flat bse (tnK s.rows (k + 1))) :: .blk b1 (LC [.slice a s.rows.length c, iv s.most] 24) :: .blk b2 (LC [.slice none 0 0, iv 0] 24) :: (D :: Ds).map dfB)
  (fun g V'' => Le V6 V'') ?_ ?_
 ·rw [hlk, tnK_snoc, jm]
  have hbase : Le V V6 := (hVV.trans hV21).trans hV6
  refine At.drawC [.blk b3 (LC [.slice ao (tnK s.rows k).length co, iv s.most] 24)] (.q 0 (.q 1 (.n false 2 (.n false 3 (.n true 4 (.q 5 (.n true 6 .done))))))) ffm (by kernel_rfl) Pt.zI ?_
  refine AtC.pre (fun hle0 => ?_)
  refine AtC.kq (by (first | refine AtT.zk zw ?_ | with_reducible refine AtT.zl zw ?_ | refine AtT.zn zw ?_); exact At.knows) ?_
  refine AtC.kq (by (first | refine AtT.zm qa ?_ | refine AtT.zo qa ?_); exact At.knows) ?_
  refine AtC.nz (AtT.callM rfl trivial rfl ok107 (by decide) (List.Perm.refl _) (bstring_f b5 p5 a5 c5 (colB s.rows k s.rows.length) hcne (by omega)) ?_)
  rintro _ _ _ ⟨rfl, rfl, rfl⟩
  refine AtC.go Pt.zI (Le.refl _) ?_
  refine AtC.nz (AtT.bsliceG rfl trivial rfl (bs22_1_0 _) (by decide) ?_)
  intro q31 V31 hV31 hq31
  have g31 : Le V V31 := by first | exact hV31 | exact Le.trans (by assumption) hV31
  refine AtC.go Pt.zI hV31 ?_
  refine AtC.toT ?_
  first | refine AtT.jC Tryz.underlying22 rw9 ?_
  intro a32 c32
  first | refine AtT.zk zw ?_ | with_reducible refine AtT.zl zw ?_ | refine AtT.zn zw ?_
  first | refine AtT.jk qa ?_ | refine AtT.zW qa ?_
  refine AtT.done ?_
  refine At.nrm ?_
  all_goals (refine At.qf (a32, c32) (by first | assumption | exact Le.trans (by assumption) (by assumption)) ⟨rfl, rfl, rfl, rfl, rfl, trivial⟩ ?_; repeat (first | exact pt_self _ | refine Pt.cons zZ.zI ?_ | refine pt_skip ?_))
 rintro ⟨a6, c6⟩ V7 ks' O' hV7 hk hO hl6
 dsimp only at hk hO
 subst hk hO
 refine At.nrm ?_
 refine At.zi (.q 0 (.q 1 .done)) ?_
 first | refine AtT.qh ?_ | refine AtT.zT ?_
 refine AtT.zf ?_
 refine AtT.done ?_
 refine At.nrm ?_
 refine At.roundD (cx := { w0 := w0, V0 := V }) (DS := fun g : Nat × List Nat × Option Addr × Nat => g.2.1.map mkD) (i := (k, Ds, ao, co)) (μ := fun g => wdS s - g.1) (k + 1, D :: Ds, a6, c6) ?_ ?_ rfl ?_ ?_
 ·show wdS s - (k + 1) < wdS s - k; omega
 ·exact ⟨((hVV.trans hV21).trans hV6).trans hV7, by dsimp only; omega⟩
 ·exact ⟨rfl, rfl, rfl, rfl, ivs (by dsimp only; omega), trivial⟩
 repeat (first | exact pt_self _ | refine Pt.cons zZ.zI ?_ | refine pt_skip ?_)
end Go.Proofs.YtghomjjffllkeaaGreatDoor
set_option linter.unusedVariables false
namespace Go.Pm
open Go.Gl Go.Lw
abbrev cbB (rows : List ByteArray) (c m : Nat) : ByteArray := ⟨(colB rows c m).toArray⟩
theorem cbB_bt (rows : List ByteArray) (c m : Nat) : bt (cbB rows c m) = colB rows c m := by unfold bt; simp
theorem cbB_size (rows : List ByteArray) (c m : Nat) : (cbB rows c m).size = m := by rw [← bt_len, cbB_bt, colB_len]
theorem bt_app (a b : ByteArray) : bt (a ++ b) = bt a ++ bt b := by unfold bt; simp [ByteArray.data_append]
theorem bt_ext1 (s : ByteArray) {k : Nat} (h : k < s.size) : bt (s.extract k (k + 1)) = [(bt s).getD k 0] := by
 unfold bt
 rw [ByteArray.data_extract, Array.toList_extract]
 have hl : k < s.data.toList.length := by rw [Array.length_toList]; exact h
 rw [List.extract_eq_take_drop, List.drop_eq_getElem_cons hl, Nat.add_sub_cancel_left]
 simp [List.getD, List.getElem?_eq_getElem hl]
theorem cbB_snoc (rows : List ByteArray) {c m : Nat} (hm : m < rows.length) {r : ByteArray} (hr : rows[rows.length - 1 - m]? = some r) (hc : c < r.size) : cbB rows c m ++ r.extract c (c + 1) = cbB rows c (m + 1) := by
 apply bt_ext
 have hrw : rwA rows (rows.length - 1 - m) = r := by unfold rwA; simp [List.getD, hr]
 rw [bt_app, bt_ext1 r hc, cbB_bt, cbB_bt, colB_snoc, hrw]
end Go.Pm
namespace Go.Proofs.YtghomjjffllkeaaGreatDoor
open Go.Lw Go.Gl Go.Pm Go.RowKit Go.Shelf
theorem rturned_f (s : Sh) (hn : 1 ≤ s.rows.length ∧ s.rows.length ≤ 6) (hw : wdS s ≤ 6) (hsz : ∀ r ∈ s.rows, r.size = wdS s) (V : View) (v : Value) (hv : ShV V v s) : Fnc Tryz.prog 108 [v] V fun r V' => ShV V' r (tnS s) := by
 obtain ⟨a, c, rfl, hs⟩ := id hv
 obtain ⟨r0, hr0⟩ : ∃ r, s.rows[0]? = some r := ⟨_, List.getElem?_eq_getElem (by omega)⟩
 have hr0s : r0.size = wdS s := hsz r0 (List.mem_of_getElem? hr0)
 refine qc Tryz.func108 rfl Tryz.ntmps108 (Nat.le_of_ble_eq_true rfl) ?_
 intro w0 hw0
 refine At.nrm ?_
 refine At.zi (.n false 0 (.n false 1 .done)) ?_
 refine AtT.qV ?_
 intro b1
 refine AtT.qw z24 ?_
 intro b2
 refine AtT.done ?_
 refine At.nrm ?_
 refine At.zi (.q 0 (.q 1 (.q 2 (.n false 3 (.n true 4 .done))))) ?_
 first | refine AtT.zk zR ?_ | with_reducible refine AtT.zl zR ?_ | refine AtT.zn zR ?_
 first | refine AtT.zm tk3 ?_ | refine AtT.zo tk3 ?_
 refine AtT.qU (bd24_1 _) ?_
 refine AtT.qw z24 ?_
 intro b3
 refine AtT.zW zx ?_
 refine AtT.done ?_
 refine At.nrm ?_
 refine At.zi (.q 0 .done) ?_
 refine AtT.zh ?_
 refine AtT.done ?_
 refine At.nrm ?_
 refine At.newRow 9 1 ?_
 refine At.lp (ι := Nat × Option Addr × Nat) (KS := fun g => [(1, .pointer (some ⟨b1, 0, none⟩)), (2, .pointer (some ⟨b2, 0, none⟩)), (3, .pointer (some ⟨b3, 0, none⟩)), (4, iv g.1)])
  (OS := fun g => [.blk b3 (LC [.slice g.2.1 (tnK s.rows g.1).length g.2.2, iv s.most] 24), .row (.slice g.2.1 (tnK s.rows g.1).length g.2.2) 9 1 (tnK s.rows g.1).length (flat bse (tnK s.rows g.1)), .blk b1 (LC [.slice a s.rows.length c, iv s.most] 24), .blk b2 (LC [.slice none 0 0, iv 0] 24)])
  (VS := fun g V' => Le V V' ∧ g.1 ≤ wdS s) (μ := fun g => wdS s - g.1) (0, none, 0) ?_ ?_ ?_ ?_
 ·exact ⟨rfl, rfl, rfl, rfl, trivial⟩
 ·exact Pt.zI
 ·exact ⟨Le.refl _, Nat.zero_le _⟩
 rintro ⟨k, ao, co⟩ V' ks' O' ⟨hVV, hkl⟩ hk hO hl2
 dsimp only at hkl hk hO
 subst hk hO
 have hs' := hs.le hVV
 refine At.nrm ?_
 refine At.zi (.q 0 (.q 1 (.q 2 (.q 3 (.q 4 (.q 5 (.q 6 .done))))))) ?_
 refine AtT.zf ?_
 first | refine AtT.zk zw ?_ | with_reducible refine AtT.zl zw ?_ | refine AtT.zn zw ?_
 first | refine AtT.zm qa ?_ | refine AtT.zo qa ?_
 refine AtT.qi Tryz.underlying22 tk9 ?_
 intro p13 e13 he13 hc13
 first | refine AtT.zm tk9 ?_ | refine AtT.zo tk9 ?_
 obtain rfl : r0 = e13 := by have : s.rows[0]? = some e13 := (by simpa using he13); rw [hr0] at this; simpa using this
 refine AtT.qQ rfl trivial Tryz.underlying9 rfl (by decide) ?_
 rw [hr0s]
 refine AtT.zY ?_
 refine AtT.done ?_
 refine At.nrm ?_
 refine At.zX rfl (fun hp => ?_) (fun hp => ?_)
 rotate_left
 ·obtain rfl : k = wdS s := by omega
  refine At.nrm ?_
  refine At.zi (.q 0 (.n true 1 .done)) ?_
  first | refine AtT.zu zx ?_ | refine AtT.zC zx ?_ | refine AtT.zt zx ?_
  refine AtT.zW zx ?_
  refine AtT.done ?_
  refine At.nrm ?_
  refine At.giveSl (l := tnK s.rows (wdS s)) bse_len rfl rfl zZ.zI (fun V4 hV4 hs4 => ?_)
  exact At.qd rfl (.agg rfl zx zZ.zI rfl) ⟨ao, co, rfl, hs4⟩
 refine At.nrm ?_
 refine At.zi (.q 0 .done) ?_
 refine AtT.zh ?_
 refine AtT.done ?_
 refine At.nrm ?_
 refine At.nrm ?_
 refine At.zi (.q 0 (.q 1 (.q 2 (.q 3 (.q 4 .done))))) ?_
 first | refine AtT.zk zw ?_ | with_reducible refine AtT.zl zw ?_ | refine AtT.zn zw ?_
 first | refine AtT.zm qa ?_ | refine AtT.zo qa ?_
 first | refine AtT.zU Tryz.underlying22 ?_ | refine AtT.zV Tryz.underlying22 ?_
 first | refine AtT.qz ?_ | refine AtT.qA ?_
 refine AtT.zh ?_
 refine AtT.done ?_
 refine At.nrm ?_
 refine At.lp (ι := Nat) (KS := fun m => [(1, .pointer (some ⟨b1, 0, none⟩)), (2, .pointer (some ⟨b2, 0, none⟩)), (3, .pointer (some ⟨b3, 0, none⟩)), (4, iv k), (5, .string (cbB s.rows k m)), (6, iv ((s.rows.length : Int) - 1 - (m : Int)))])
  (OS := fun m => [.blk b3 (LC [.slice ao (tnK s.rows k).length co, iv s.most] 24), .row (.slice ao (tnK s.rows k).length co) 9 1 (tnK s.rows k).length (flat bse (tnK s.rows k)), .blk b1 (LC [.slice a s.rows.length c, iv s.most] 24), .blk b2 (LC [.slice none 0 0, iv 0] 24)])
  (VS := fun m V'' => V' = V'' ∧ m ≤ s.rows.length) (μ := fun m => s.rows.length - m) 0 ?_ ?_ ?_ ?_
 ·exact ⟨rfl, rfl, rfl, rfl, rfl, ivs (by omega), trivial⟩
 ·exact Pt.zI
 ·exact ⟨rfl, Nat.zero_le _⟩
 rintro m _ ks' O' ⟨rfl, hml⟩ hk hO hl3
 subst hk hO
 refine At.nrm ?_
 refine At.zi (.q 0 (.q 1 .done)) ?_
 refine AtT.zf ?_
 refine AtT.kgeq ?_
 refine AtT.done ?_
 refine At.nrm ?_
 refine At.zX rfl (fun hp2 => ?_) (fun hp2 => ?_)
 rotate_left
 ·obtain rfl : m = s.rows.length := by omega
  have hlk : (tnK s.rows (k + 1)).length = (tnK s.rows k).length + 1 := by rw [tnK_len, tnK_len]
  have htl := tnK_len s.rows k
  refine At.nrm ?_
  refine At.zi (.q 0 (.q 1 (.q 2 (.n false 3 (.n true 4 (.q 5 (.n true 6 .done))))))) ?_
  first | refine AtT.zk zw ?_ | with_reducible refine AtT.zl zw ?_ | refine AtT.zn zw ?_
  first | refine AtT.zm qa ?_ | refine AtT.zo qa ?_
  refine AtT.zf ?_
  refine AtT.zB (bs22_1_0 _) ?_
  intro q41 V41 hV41 hq41
  have g41 : Le V V41 := by first | exact hV41 | exact Le.trans (by assumption) hV41
  first | refine AtT.jC Tryz.underlying22 rw9 ?_
  intro a42 c42
  first | refine AtT.zk zw ?_ | with_reducible refine AtT.zl zw ?_ | refine AtT.zn zw ?_
  first | refine AtT.jk qa ?_ | refine AtT.zW qa ?_
  refine AtT.done ?_
  refine At.nrm ?_
  refine At.nrm ?_
  refine At.zi (.q 0 (.q 1 (.q 2 .done))) ?_
  refine AtT.zf ?_
  first | refine AtT.qh ?_ | refine AtT.zT ?_
  refine AtT.zh ?_
  refine AtT.done ?_
  refine At.nrm ?_
  refine At.round (k + 1, a42, c42) ?_ ?_ ?_ ?_
  ·show wdS s - (k + 1) < wdS s - k; omega
  ·exact ⟨hVV.trans (by first | assumption | exact Le.trans (by assumption) (by assumption)), by dsimp only; omega⟩
  ·exact ⟨rfl, rfl, rfl, ivs (by dsimp only; omega), trivial⟩
  dsimp only
  rw [hlk, tnK_snoc, jm]
  ·exact Pt.zI
 have hm : m < s.rows.length := by omega
 obtain ⟨r, hrm⟩ : ∃ r, s.rows[s.rows.length - 1 - m]? = some r := ⟨_, List.getElem?_eq_getElem (by omega)⟩
 have hrs := hsz r (List.mem_of_getElem? hrm)
 have hto : ((s.rows.length : Int) - 1 - (m : Int)).toNat = s.rows.length - 1 - m := by omega
 have hsn := cbB_snoc s.rows (c := k) hm hrm (by omega)
 have hcs := cbB_size s.rows k m
 have hes : (r.extract k (k + 1)).size = 1 := by rw [← bt_len, bt_ext1 r (by omega)]; rfl
 have hk1 : ((k : Int) + 1).toNat = k + 1 := by omega
 refine At.nrm ?_
 refine At.zi (.q 0 (.q 1 (.q 2 (.q 3 (.q 4 (.q 5 (.q 6 (.q 7 (.q 8 (.q 9 (.q 10 (.q 11 .done)))))))))))) ?_
 refine AtT.zf ?_
 first | refine AtT.zk zw ?_ | with_reducible refine AtT.zl zw ?_ | refine AtT.zn zw ?_
 first | refine AtT.zm qa ?_ | refine AtT.zo qa ?_
 refine AtT.zf ?_
 refine AtT.qi Tryz.underlying22 tk9 ?_
 intro p31 e31 he31 hc31
 first | refine AtT.zm tk9 ?_ | refine AtT.zo tk9 ?_
 obtain rfl : r = e31 := by have : s.rows[s.rows.length - 1 - m]? = some e31 := (by rw [hto] at he31; exact he31); rw [hrm] at this; simpa using this
 refine AtT.zf ?_
 refine AtT.zf ?_
 first | refine AtT.qh ?_ | refine AtT.zT ?_
 refine AtT.subB rfl trivial Tryz.underlying9 rfl rfl rfl (by omega) (by omega) (by omega) (by decide) ?_
 rw [Int.toNat_natCast, hk1]
 refine AtT.catS rfl trivial rfl rfl (by omega) (by decide) ?_
 rw [hsn]
 refine AtT.zh ?_
 refine AtT.done ?_
 refine At.nrm ?_
 refine At.nrm ?_
 refine At.zi (.q 0 (.q 1 (.q 2 .done))) ?_
 refine AtT.zf ?_
 first | refine AtT.qz ?_ | refine AtT.qA ?_
 refine AtT.zh ?_
 refine AtT.done ?_
 refine At.nrm ?_
 refine At.round (m + 1) ?_ ?_ ?_ ?_
 ·show s.rows.length - (m + 1) < s.rows.length - m; omega
 ·exact ⟨rfl, by omega⟩
 ·exact ⟨rfl, rfl, rfl, rfl, rfl, ivs (by push_cast; omega), trivial⟩
 ·exact Pt.zI
end Go.Proofs.YtghomjjffllkeaaGreatDoor
set_option linter.unusedVariables false
namespace Go.Pm
open Go.Gl Go.Lw
structure Rct (s : Sh) : Prop where
 n : 1 ≤ s.rows.length ∧ s.rows.length ≤ 6
 w : 1 ≤ wdS s ∧ wdS s ≤ 6
 sz : ∀ r ∈ s.rows, r.size = wdS s
theorem rct_ok {s : Sh} (h : jH s) : Rct s := ⟨h.n, h.w, h.sz⟩
theorem tnS_wd {s : Sh} (h : Rct s) : wdS (tnS s) = s.rows.length := by
 unfold wdS row0 tnS
 have hl : (tnK s.rows (wdS s))[0]? = some (cbB s.rows 0 s.rows.length) := by
  unfold tnK
  rw [List.getElem?_map, List.getElem?_range (by have := h.w; omega)]; rfl
 show ((tnK s.rows (wdS s)).getD 0 ByteArray.empty).size = _
 rw [show (tnK s.rows (wdS s)).getD 0 ByteArray.empty = cbB s.rows 0 s.rows.length by simp [List.getD, hl], cbB_size]
theorem rct_tn {s : Sh} (h : Rct s) : Rct (tnS s) := by
 have hw := tnS_wd h
 have hl : (tnS s).rows.length = wdS s := tnK_len _ _
 refine ⟨by rw [hl]; exact h.w, by rw [hw]; exact h.n, fun r hr => ?_⟩
 rw [hw]
 unfold tnS tnK at hr
 obtain ⟨c, _, rfl⟩ := List.mem_map.1 hr
 exact cbB_size _ _ _
theorem rct_tnN {s : Sh} (h : Rct s) : ∀ n, Rct (tnN s n)
 | 0 => h
 | n + 1 => rct_tn (rct_tnN h n)
end Go.Pm
namespace Go.Proofs.YtghomjjffllkeaaGreatDoor
open Go.Lw Go.Gl Go.Pm Go.RowKit Go.Shelf
theorem turnedBy_f (s : Sh) (hr : Rct s) (n : Nat) (hn : n ≤ 4) (V : View) (v : Value) (hv : ShV V v s) : Fnc Tryz.prog 79 [v, iv n] V fun r V' => ShV V' r (tnN s n) := by
 obtain ⟨a, c, rfl, hs⟩ := id hv
 have hrn := hr.n
 obtain ⟨a0, c0, e0, k1, k2, ha, k3⟩ := id hs
 cases e0
 have h0 : s.rows ≠ [] := fun e => by rw [e] at hrn; simp at hrn
 obtain ⟨p, rfl⟩ := Option.isSome_iff_exists.1 (ha h0)
 clear k1 k2 k3
 have hcl : Cells V p (flat bse s.rows) := Sl.cells bse_len hs
 refine qc Tryz.func79 rfl Tryz.ntmps79 (Nat.le_of_ble_eq_true rfl) ?_
 intro w0 hw0
 refine At.nrm ?_
 refine At.zi (.n false 0 (.n false 1 .done)) ?_
 refine AtT.qV ?_
 intro b2
 refine AtT.qw z24 ?_
 intro b4
 refine AtT.done ?_
 refine At.nrm ?_
 refine At.jo (ι := Nat × Option Addr × Nat) (fun g => [(1, iv n), (2, .pointer (some ⟨b2, 0, none⟩)), (4, .pointer (some ⟨b4, 0, none⟩)), (5, .pointer (some ⟨g.1, 0, none⟩))])
  (fun g => [.blk g.1 (LC [.slice g.2.1 s.rows.length g.2.2, iv s.most] 24), .blk b4 (LC [.slice none 0 0, iv 0] 24)]) (fun g V'' => Le V V'' ∧ Sl V'' bse 1 (.slice g.2.1 s.rows.length g.2.2) s.rows) ?_ ?_
 ·refine At.draw (.q 1 (.q 2 (.q 4 (.q 5 (.two 0 (.two 3 (.q 6 (.n false 7 (.n false 8 .done))) 7 (.n false 3 (.q 6 (.n false 8 .done)))) 7 (.n false 0 (.n false 3 (.q 6 (.n false 8 .done))))))))) ffm (by kernel_rfl) ?_
  refine AtC.start ?_
  refine AtC.pre (fun hle0 => ?_)
  refine AtC.kq (by (first | refine AtT.zk zw ?_ | with_reducible refine AtT.zl zw ?_ | refine AtT.zn zw ?_); exact At.knows) ?_
  refine AtC.kq (by (first | refine AtT.zm qa ?_ | refine AtT.zo qa ?_); exact At.knows) ?_
  refine AtC.kq (by (first | refine AtT.zk zR ?_ | with_reducible refine AtT.zl zR ?_ | refine AtT.zn zR ?_); exact At.knows) ?_
  refine AtC.kq (by (first | refine AtT.zm tk3 ?_ | refine AtT.zo tk3 ?_); exact At.knows) ?_
  refine AtC.two ?_ ?_
  focus
   refine AtC.nz ?_
   refine AtT.zB (bs22_0) ?_
   intro q7 V7 hV7 hq7
   have g7 : Le V V7 := by first | exact hV7 | exact Le.trans (by assumption) hV7
   refine AtC.kgo ?_
   refine AtC.two ?_ ?_
   focus
    refine AtC.nz ?_
    refine AtT.appendC rfl trivial Tryz.underlying22 rw9 rfl (by decide) rfl (sl_emp _ _) rfl rfl (hcl.le (by assumption)) (fun _ => rfl) h0 (by unfold maxLen; simp only [List.length_nil]; omega) (by simp only [List.length_nil]; omega) (by decide) (enc := bse) (l := []) (m := s.rows) ?_
    intro a10 c10 V10 hV10 hs10
    refine AtC.kgo ?_
    refine AtC.kq (by (refine AtT.qU (bd24_0_1 _ _ _ _) ?_); exact At.knows) ?_
    refine AtC.nz ?_
    refine AtT.qw z24 ?_
    intro b5
    refine AtC.kgo ?_
    refine AtC.nz ?_
    refine AtT.zW zx ?_
    refine AtC.kgo ?_
    refine AtC.done ?_
   rotate_right
   focus
    refine AtC.nz ?_
    refine AtT.qw z24 ?_
    intro b5
    refine AtC.kgo ?_
    refine AtC.nz ?_
    refine AtT.appendC rfl trivial Tryz.underlying22 rw9 rfl (by decide) rfl (sl_emp _ _) rfl rfl (hcl.le (by assumption)) (fun _ => rfl) h0 (by unfold maxLen; simp only [List.length_nil]; omega) (by simp only [List.length_nil]; omega) (by decide) (enc := bse) (l := []) (m := s.rows) ?_
    intro a10 c10 V10 hV10 hs10
    refine AtC.kgo ?_
    refine AtC.kq (by (refine AtT.qU (bd24_0_1 _ _ _ _) ?_); exact At.knows) ?_
    refine AtC.nz ?_
    refine AtT.zW zx ?_
    refine AtC.kgo ?_
    refine AtC.done ?_
  rotate_right
  focus
   refine AtC.nz ?_
   refine AtT.qw z24 ?_
   intro b5
   refine AtC.kgo ?_
   refine AtC.nz ?_
   refine AtT.zB (bs22_0) ?_
   intro q7 V7 hV7 hq7
   have g7 : Le V V7 := by first | exact hV7 | exact Le.trans (by assumption) hV7
   refine AtC.kgo ?_
   refine AtC.nz ?_
   refine AtT.appendC rfl trivial Tryz.underlying22 rw9 rfl (by decide) rfl (sl_emp _ _) rfl rfl (hcl.le (by assumption)) (fun _ => rfl) h0 (by unfold maxLen; simp only [List.length_nil]; omega) (by simp only [List.length_nil]; omega) (by decide) (enc := bse) (l := []) (m := s.rows) ?_
   intro a10 c10 V10 hV10 hs10
   refine AtC.kgo ?_
   refine AtC.kq (by (refine AtT.qU (bd24_0_1 _ _ _ _) ?_); exact At.knows) ?_
   refine AtC.nz ?_
   refine AtT.zW zx ?_
   refine AtC.kgo ?_
   refine AtC.done ?_
  all_goals (refine At.nrm ?_)
  all_goals (exact At.qf (b5, a10, c10) ⟨by first | assumption | exact Le.trans (by assumption) (by assumption), hs10⟩ ⟨rfl, rfl, rfl, rfl, trivial⟩ Pt.zI)
 rintro ⟨b5, a5, c5⟩ V2 ks' O' ⟨hV2, hs2⟩ hk hO hl2
 dsimp only at hk hO hs2
 subst hk hO
 refine At.nrm ?_
 refine At.zi (.q 0 .done) ?_
 refine AtT.zh ?_
 refine AtT.done ?_
 refine At.nrm ?_
 refine At.lp (ι := Nat × Option Addr × Nat) (KS := fun g => [(1, iv n), (2, .pointer (some ⟨b2, 0, none⟩)), (4, .pointer (some ⟨b4, 0, none⟩)), (5, .pointer (some ⟨b5, 0, none⟩)), (6, iv g.1)])
  (OS := fun g => [.blk b5 (LC [.slice g.2.1 (tnN s g.1).rows.length g.2.2, iv (tnN s g.1).most] 24), .blk b4 (LC [.slice none 0 0, iv 0] 24)]) (VS := fun g V' => Le V2 V' ∧ g.1 ≤ n ∧ Sl V' bse 1 (.slice g.2.1 (tnN s g.1).rows.length g.2.2) (tnN s g.1).rows) (μ := fun g => n - g.1) (0, a5, c5) ?_ ?_ ?_ ?_
 ·exact ⟨rfl, rfl, rfl, rfl, rfl, trivial⟩
 ·exact Pt.zI
 ·exact ⟨Le.refl _, Nat.zero_le _, hs2⟩
 rintro ⟨k, a6, c6⟩ V3 ks' O' ⟨hV3, hkn, hs6⟩ hk hO hl3
 dsimp only at hkn hk hO hs6
 subst hk hO
 have hrk := rct_tnN hr k
 refine At.nrm ?_
 refine At.zi (.q 0 (.q 1 (.q 2 .done))) ?_
 refine AtT.zf ?_
 refine AtT.zf ?_
 refine AtT.zY ?_
 refine AtT.done ?_
 refine At.nrm ?_
 refine At.zX rfl (fun hp => ?_) (fun hp => ?_)
 rotate_left
 ·obtain rfl : k = n := by omega
  refine At.nrm ?_
  refine At.zi (.q 0 (.n true 1 .done)) ?_
  first | refine AtT.zu zx ?_ | refine AtT.zC zx ?_ | refine AtT.zt zx ?_
  refine AtT.zW zx ?_
  refine AtT.done ?_
  refine At.nrm ?_
  exact At.qd rfl (.agg rfl zx zZ.zI rfl) ⟨a6, c6, rfl, hs6⟩
 refine At.nrm ?_
 refine At.zi (.q 0 (.n false 1 (.n true 2 .done))) ?_
 first | refine AtT.zu zx ?_ | refine AtT.zC zx ?_ | refine AtT.zt zx ?_
 refine AtT.qg rfl rfl ok108 (rturned_f (tnN s k) hrk.n hrk.w.2 hrk.sz _ _ ⟨a6, c6, rfl, hs6⟩) ?_
 rintro _ V20 hV20 ⟨a7, c7, rfl, hs7⟩
 refine AtT.zW zx ?_
 refine AtT.done ?_
 refine At.nrm ?_
 refine At.nrm ?_
 refine At.zi (.q 0 (.q 1 (.q 2 .done))) ?_
 refine AtT.zf ?_
 first | refine AtT.qh ?_ | refine AtT.zT ?_
 refine AtT.zh ?_
 refine AtT.done ?_
 refine At.nrm ?_
 refine At.round (k + 1, a7, c7) ?_ ?_ ?_ ?_
 ·show n - (k + 1) < n - k; omega
 ·exact ⟨hV3.trans (by first | assumption | exact Le.trans (by assumption) (by assumption)), by dsimp only; omega, hs7⟩
 ·exact ⟨rfl, rfl, rfl, rfl, ivs (by dsimp only; omega), trivial⟩
 ·exact Pt.zI
end Go.Proofs.YtghomjjffllkeaaGreatDoor
set_option linter.unusedVariables false
namespace Go.Pm
open Go.Gl Go.Lw
def sh0 : Sh := ⟨[], 0⟩
def tuR (s : Sh) (t : Int) : Sh × Int := if chE s ≠ 0 then (sh0, chE s) else if t < 0 ∨ 3 < t then (sh0, 2) else (tnN s t.toNat, 0)
end Go.Pm
namespace Go.Proofs.YtghomjjffllkeaaGreatDoor
open Go.Lw Go.Gl Go.Pm Go.RowKit Go.Shelf
def TuV (s : Sh) (t : Int) (r : Value) (V' : View) : Prop := ∃ u, r = .tuple #[u, iv (tuR s t).2] ∧ ShV V' u (tuR s t).1
theorem sh0_v (V : View) : ShV V (.agg #[.slice none 0 0, iv 0]) sh0 := ⟨none, 0, rfl, Sl.nil _ _ _⟩
theorem rturn_f (s : Sh) (t : Int) (V : View) (v : Value) (hv : ShV V v s) : Fnc Tryz.prog 39 [v, iv t] V (TuV s t) := by
 obtain ⟨a, c, rfl, hs⟩ := id hv
 refine qc Tryz.func39 rfl Tryz.ntmps39 (Nat.le_of_ble_eq_true rfl) ?_
 intro w0 hw0
 refine At.nrm ?_
 refine At.zi (.n false 0 (.n false 1 (.q 2 .done))) ?_
 refine AtT.qV ?_
 intro b2
 refine AtT.qw z24 ?_
 intro b4
 refine AtT.zh ?_
 refine AtT.done ?_
 refine At.nrm ?_
 refine At.zi (.q 0 (.n false 1 (.q 2 .done))) ?_
 first | refine AtT.zu zx ?_ | refine AtT.zC zx ?_ | refine AtT.zt zx ?_
 refine AtT.zq rfl rfl ok20 (qJ s _ _ hv) ?_
 rintro _ rfl
 refine AtT.qC ?_
 refine AtT.done ?_
 refine At.nrm ?_
 refine At.zX rfl (fun h0 => ?_) (fun h0 => ?_)
 ·have e : tuR s t = (sh0, chE s) := by unfold tuR; rw [if_pos h0]
  refine At.nrm ?_
  refine At.zi (.q 0 (.q 1 (.n false 2 (.n true 3 (.q 4 .done))))) ?_
  refine AtT.qU (bd24) ?_
  first | refine AtT.zu zx ?_ | refine AtT.zC zx ?_ | refine AtT.zt zx ?_
  refine AtT.zq rfl rfl ok20 (qJ s _ _ hv) ?_
  rintro _ rfl
  refine AtT.zW zx ?_
  refine AtT.zh ?_
  refine AtT.done ?_
  refine At.nrm ?_
  exact At.jb rfl (.agg rfl zx zZ.zI rfl) (.tmp rfl) ⟨_, by rw [e], by rw [e]; exact sh0_v _⟩
 have h0' := Classical.not_not.1 h0
 have hr := rct_ok (jl h0')
 refine At.nrm ?_
 by_cases c1 : t < 0
 ·have e : tuR s t = (sh0, 2) := by unfold tuR; rw [if_neg h0, if_pos (.inl c1)]
  refine At.zi (.q 0 (.q 1 (.q 2 (.q 3 (.q 4 (.q 5 .done)))))) ?_
  refine AtT.zf ?_
  refine AtT.zY ?_
  refine AtT.qp (d := 13) rfl (c1) ?_
  refine AtT.zf ?_
  all_goals (first | refine AtT.kL 14 ?_ | refine AtT.zA (d := 14) rfl (fun hg14 => ?_) (fun hg14 => ?_) | refine AtT.zz (d := 14) rfl (fun hg14 => ?_) (fun hg14 => ?_))
  all_goals first|refine AtT.zg ?_|refine AtT.ze ?_|(refine AtT.zf ?_)
  all_goals first|refine AtT.zg ?_|refine AtT.ze ?_|(refine AtT.qy ?_)
  all_goals (refine AtT.zy ?_)
  all_goals refine AtT.done ?_
  all_goals (refine At.nrm ?_)
  refine At.qB rfl rfl ?_
  refine At.nrm ?_
  refine At.zi (.q 0 (.n true 1 (.q 2 .done))) ?_
  refine AtT.qU (bd24) ?_
  refine AtT.zW zx ?_
  refine AtT.zh ?_
  refine AtT.done ?_
  refine At.nrm ?_
  exact At.jb rfl (.agg rfl zx zZ.zI rfl) (.tmp rfl) ⟨_, by rw [e], by rw [e]; exact sh0_v _⟩
 by_cases c2 : 3 < t
 ·have e : tuR s t = (sh0, 2) := by unfold tuR; rw [if_neg h0, if_pos (.inr c2)]
  refine At.zi (.q 0 (.q 1 (.q 2 (.q 3 (.q 4 (.q 5 .done)))))) ?_
  refine AtT.zf ?_
  refine AtT.zY ?_
  refine AtT.qj (d := 13) rfl (c1) ?_
  refine AtT.zf ?_
  all_goals (first | refine AtT.kL 14 ?_ | refine AtT.zA (d := 14) rfl (fun hg14 => ?_) (fun hg14 => ?_) | refine AtT.zz (d := 14) rfl (fun hg14 => ?_) (fun hg14 => ?_))
  all_goals first|refine AtT.zg ?_|refine AtT.ze ?_|(refine AtT.zf ?_)
  all_goals first|refine AtT.zg ?_|refine AtT.ze ?_|(refine AtT.qy ?_)
  all_goals (refine AtT.qp (d := 16) rfl ((by omega)) ?_)
  all_goals (refine AtT.zy ?_)
  all_goals refine AtT.done ?_
  all_goals (refine At.nrm ?_)
  refine At.qB rfl rfl ?_
  refine At.nrm ?_
  refine At.zi (.q 0 (.n true 1 (.q 2 .done))) ?_
  refine AtT.qU (bd24) ?_
  refine AtT.zW zx ?_
  refine AtT.zh ?_
  refine AtT.done ?_
  refine At.nrm ?_
  exact At.jb rfl (.agg rfl zx zZ.zI rfl) (.tmp rfl) ⟨_, by rw [e], by rw [e]; exact sh0_v _⟩
 have e : tuR s t = (tnN s t.toNat, 0) := by unfold tuR; rw [if_neg h0, if_neg (by omega)]
 obtain ⟨n, rfl⟩ : ∃ n : Nat, t = (n : Int) := ⟨t.toNat, by omega⟩
 rw [Int.toNat_natCast] at e
 refine At.zi (.q 0 (.q 1 (.q 2 (.q 3 (.q 4 (.q 5 .done)))))) ?_
 refine AtT.zf ?_
 refine AtT.zY ?_
 refine AtT.qj (d := 13) rfl (c1) ?_
 refine AtT.zf ?_
 all_goals (first | refine AtT.kL 14 ?_ | refine AtT.zA (d := 14) rfl (fun hg14 => ?_) (fun hg14 => ?_) | refine AtT.zz (d := 14) rfl (fun hg14 => ?_) (fun hg14 => ?_))
 all_goals first|refine AtT.zg ?_|refine AtT.ze ?_|(refine AtT.zf ?_)
 all_goals first|refine AtT.zg ?_|refine AtT.ze ?_|(refine AtT.qy ?_)
 all_goals (refine AtT.qj (d := 16) rfl ((by omega)) ?_)
 all_goals (refine AtT.zy ?_)
 all_goals refine AtT.done ?_
 all_goals (refine At.nrm ?_)
 refine At.qE rfl rfl ?_
 refine At.nrm ?_
 refine At.zi (.q 0 (.q 1 (.n false 2 (.n true 3 (.q 4 .done))))) ?_
 first | refine AtT.zu zx ?_ | refine AtT.zC zx ?_ | refine AtT.zt zx ?_
 refine AtT.zf ?_
 refine AtT.qg rfl rfl ok79 (turnedBy_f s hr n (by omega) _ _ hv) ?_
 rintro _ V21 hV21 ⟨a7, c7, rfl, hs7⟩
 refine AtT.zW zx ?_
 refine AtT.zh ?_
 refine AtT.done ?_
 refine At.nrm ?_
 exact At.jb rfl (.agg rfl zx zZ.zI rfl) (.tmp rfl) ⟨_, by rw [e], by rw [e]; exact ⟨a7, c7, rfl, hs7⟩⟩
theorem turn_f (s : Sh) (t : Int) (V : View) (v : Value) (hv : ShV V v s) : Fnc Tryz.prog 38 [v, iv t] V (TuV s t) := by
 obtain ⟨a, c, rfl, hs⟩ := id hv
 refine qc Tryz.func38 rfl Tryz.ntmps38 (Nat.le_of_ble_eq_true rfl) ?_
 intro w0 hw0
 refine At.nrm ?_
 refine At.zi (.n false 0 (.n false 1 (.q 2 .done))) ?_
 refine AtT.qV ?_
 intro b2
 refine AtT.qw z24 ?_
 intro b4
 refine AtT.zh ?_
 refine AtT.done ?_
 refine At.nrm ?_
 refine At.zi (.q 0 (.n false 1 (.q 2 .done))) ?_
 first | refine AtT.zu zx ?_ | refine AtT.zC zx ?_ | refine AtT.zt zx ?_
 refine AtT.zq rfl rfl ok19 (sheetP_f s _ _ hv) ?_
 rintro _ rfl
 refine AtT.zh ?_
 refine AtT.done ?_
 refine At.nrm ?_
 refine At.nrm ?_
 refine At.zi (.q 0 (.q 1 (.q 2 .done))) ?_
 refine AtT.zf ?_
 refine AtT.qC ?_
 refine AtT.zh ?_
 refine AtT.done ?_
 refine At.nrm ?_
 refine At.zX rfl (fun h0 => ?_) (fun h0 => ?_)
 ·have e : tuR s t = (sh0, chE s) := by unfold tuR; rw [if_pos h0]
  refine At.nrm ?_
  refine At.zi (.q 0 (.q 1 (.n true 2 (.q 3 .done)))) ?_
  refine AtT.qU (bd24) ?_
  refine AtT.zf ?_
  refine AtT.zW zx ?_
  refine AtT.zh ?_
  refine AtT.done ?_
  refine At.nrm ?_
  exact At.jb rfl (.agg rfl zx zZ.zI rfl) (.tmp rfl) ⟨_, by rw [e], by rw [e]; exact sh0_v _⟩
 have h0' := Classical.not_not.1 h0
 have hok := jl h0'
 have hr := rct_ok hok
 have hrn := hr.n
 have hne : s.rows ≠ [] := fun e => by rw [e] at hrn; simp at hrn
 by_cases c1 : 0 ≤ t ∧ t ≤ 3
 rotate_left
 ·have e : tuR s t = (sh0, 2) := by unfold tuR; rw [if_neg h0, if_pos (by omega)]
  refine At.nrm ?_
  refine At.zi (.q 0 (.n false 1 (.n false 2 (.q 3 (.q 4 .done))))) ?_
  refine AtT.zf ?_
  refine AtT.zB (qb _) ?_
  intro q16 V16 hV16 hq16
  have g16 : Le V V16 := by first | exact hV16 | exact Le.trans (by assumption) hV16
  refine AtT.zq rfl rfl jG (qx 0 3 [t] _ _ (Sl.lit hq16 rfl (by simp))) ?_
  rintro _ rfl; rw [jI, decide_eq_false c1]
  refine AtT.jh ?_
  refine AtT.zh ?_
  refine AtT.done ?_
  refine At.nrm ?_
  refine At.qB rfl rfl ?_
  refine At.nrm ?_
  refine At.zi (.q 0 (.n true 1 (.q 2 .done))) ?_
  refine AtT.qU (bd24) ?_
  refine AtT.zW zx ?_
  refine AtT.zh ?_
  refine AtT.done ?_
  refine At.nrm ?_
  exact At.jb rfl (.agg rfl zx zZ.zI rfl) (.tmp rfl) ⟨_, by rw [e], by rw [e]; exact sh0_v _⟩
 have e : tuR s t = (tnN s t.toNat, 0) := by unfold tuR; rw [if_neg h0, if_neg (by omega)]
 obtain ⟨n, rfl⟩ : ∃ n : Nat, t = (n : Int) := ⟨t.toNat, by omega⟩
 rw [Int.toNat_natCast] at e
 refine At.nrm ?_
 refine At.zi (.q 0 (.n false 1 (.n false 2 (.q 3 (.q 4 .done))))) ?_
 refine AtT.zf ?_
 refine AtT.zB (qb _) ?_
 intro q16 V16 hV16 hq16
 have g16 : Le V V16 := by first | exact hV16 | exact Le.trans (by assumption) hV16
 refine AtT.zq rfl rfl jG (qx 0 3 [(n : Int)] _ _ (Sl.lit hq16 rfl (by simp))) ?_
 rintro _ rfl; rw [jI, decide_eq_true c1]
 refine AtT.jh ?_
 refine AtT.zh ?_
 refine AtT.done ?_
 refine At.nrm ?_
 refine At.qE rfl rfl ?_
 refine At.nrm ?_
 refine At.zi (.q 0 (.q 1 (.n false 2 (.q 3 (.n true 4 .done))))) ?_
 first | refine AtT.zk zw ?_ | with_reducible refine AtT.zl zw ?_ | refine AtT.zn zw ?_
 first | refine AtT.zm qa ?_ | refine AtT.zo qa ?_
 refine AtT.qg rfl rfl ok77 (clone_f s.rows hne (by omega) _ _ (hs.le (by assumption))) ?_
 rintro _ V22 hV22 ⟨a22, c22, rfl, hs22⟩
 first | refine AtT.zk zw ?_ | with_reducible refine AtT.zl zw ?_ | refine AtT.zn zw ?_
 first | refine AtT.jk qa ?_ | refine AtT.zW qa ?_
 refine AtT.done ?_
 refine At.nrm ?_
 refine At.nrm ?_
 refine At.zi (.q 0 (.q 1 .done)) ?_
 refine AtT.zf ?_
 refine AtT.zf ?_
 refine AtT.done ?_
 refine At.nrm ?_
 refine At.lp (ι := Nat × Option Addr × Nat) (KS := fun g => [(2, .pointer (some ⟨b2, 0, none⟩)), (4, .pointer (some ⟨b4, 0, none⟩)), (24, iv n), (25, iv g.1)])
  (OS := fun g => [.blk b2 (LC [.slice g.2.1 (tnN s g.1).rows.length g.2.2, iv (tnN s g.1).most] 24), .blk b4 (LC [.slice none 0 0, iv 0] 24)]) (VS := fun g V' => Le V22 V' ∧ g.1 ≤ n ∧ Sl V' bse 1 (.slice g.2.1 (tnN s g.1).rows.length g.2.2) (tnN s g.1).rows) (μ := fun g => n - g.1) (0, a22, c22) ?_ ?_ ?_ ?_
 ·exact ⟨rfl, rfl, rfl, rfl, trivial⟩
 ·exact Pt.zI
 ·exact ⟨Le.refl _, Nat.zero_le _, hs22⟩
 rintro ⟨k, a6, c6⟩ V3 ks' O' ⟨hV3, hkn, hs6⟩ hk hO hl3
 dsimp only at hkn hk hO hs6
 subst hk hO
 have hrk := rct_tnN hr k
 refine At.nrm ?_
 refine At.zi (.q 0 .done) ?_
 refine AtT.zY ?_
 refine AtT.done ?_
 refine At.nrm ?_
 refine At.zX rfl (fun hp => ?_) (fun hp => ?_)
 rotate_left
 ·obtain rfl : k = n := by omega
  refine At.nrm ?_
  refine At.zi (.q 0 (.n true 1 (.q 2 .done))) ?_
  first | refine AtT.zu zx ?_ | refine AtT.zC zx ?_ | refine AtT.zt zx ?_
  refine AtT.zW zx ?_
  refine AtT.zh ?_
  refine AtT.done ?_
  refine At.nrm ?_
  exact At.jb rfl (.agg rfl zx zZ.zI rfl) (.tmp rfl) ⟨_, by rw [e], by rw [e]; exact ⟨a6, c6, rfl, hs6⟩⟩
 refine At.nrm ?_
 refine At.zi (.q 0 (.n false 1 (.n true 2 .done))) ?_
 first | refine AtT.zu zx ?_ | refine AtT.zC zx ?_ | refine AtT.zt zx ?_
 refine AtT.qg rfl rfl ok78 (turned_f (tnN s k) hrk.n hrk.w.2 hrk.sz _ _ ⟨a6, c6, rfl, hs6⟩) ?_
 rintro _ V28 hV28 ⟨a7, c7, rfl, hs7⟩
 refine AtT.zW zx ?_
 refine AtT.done ?_
 refine At.nrm ?_
 refine At.nrm ?_
 refine At.zi (.q 0 (.q 1 .done)) ?_
 first | refine AtT.qh ?_ | refine AtT.zT ?_
 refine AtT.zf ?_
 refine AtT.done ?_
 refine At.nrm ?_
 refine At.round (k + 1, a7, c7) ?_ ?_ ?_ ?_
 ·show n - (k + 1) < n - k; omega
 ·exact ⟨hV3.trans (by first | assumption | exact Le.trans (by assumption) (by assumption)), by dsimp only; omega, hs7⟩
 ·exact ⟨rfl, rfl, rfl, ivs (by dsimp only; omega), trivial⟩
 ·exact Pt.zI
end Go.Proofs.YtghomjjffllkeaaGreatDoor
set_option linter.unusedVariables false
namespace Go.Pm
open Go.Gl Go.Lw
def eqK (s t : Sh) (k : Nat) : Prop := (tnN s k).most = t.most ∧ (tnN s k).rows = t.rows
instance (s t : Sh) (k : Nat) : Decidable (eqK s t k) := by unfold eqK; infer_instance
def saF (s t : Sh) : Nat → Nat → Int × Int
 | 0, _ => (0, 15)
 | f + 1, k => if eqK s t k then ((k : Int), 0) else saF s t f (k + 1)
def saR (s t : Sh) : Int × Int := if chE s ≠ 0 then (0, chE s) else if chE t ≠ 0 then (0, chE t) else saF s t 4 0
end Go.Pm
namespace Go.Proofs.YtghomjjffllkeaaGreatDoor
open Go.Lw Go.Gl Go.Pm Go.RowKit Go.Shelf
theorem rsame_f (s t : Sh) (V : View) (v u : Value) (hv : ShV V v s) (hu : ShV V u t) : Fnc Tryz.prog 41 [v, u] V fun r _ => r = .tuple #[iv (saR s t).1, iv (saR s t).2] := by
 obtain ⟨a, c, rfl, hs⟩ := id hv
 obtain ⟨a1, c1, rfl, ht⟩ := id hu
 refine qc Tryz.func41 rfl Tryz.ntmps41 (Nat.le_of_ble_eq_true rfl) ?_
 intro w0 hw0
 refine At.nrm ?_
 refine At.zi (.n false 0 (.n false 1 (.q 2 (.q 3 .done)))) ?_
 refine AtT.qV ?_
 intro b2
 refine AtT.qV ?_
 intro b3
 refine AtT.zh ?_
 refine AtT.zh ?_
 refine AtT.done ?_
 refine At.nrm ?_
 refine At.zi (.q 0 (.n false 1 (.q 2 .done))) ?_
 first | refine AtT.zu zx ?_ | refine AtT.zC zx ?_ | refine AtT.zt zx ?_
 refine AtT.zq rfl rfl ok20 (qJ s _ _ hv) ?_
 rintro _ rfl
 refine AtT.qC ?_
 refine AtT.done ?_
 refine At.nrm ?_
 refine At.zX rfl (fun h0 => ?_) (fun h0 => ?_)
 ·refine At.nrm ?_
  refine At.zi (.q 0 (.n false 1 (.q 2 (.q 3 .done)))) ?_
  first | refine AtT.zu zx ?_ | refine AtT.zC zx ?_ | refine AtT.zt zx ?_
  refine AtT.zq rfl rfl ok20 (qJ s _ _ hv) ?_
  rintro _ rfl
  refine AtT.zh ?_
  refine AtT.zh ?_
  refine AtT.done ?_
  refine At.nrm ?_
  exact At.jb rfl (.tmp rfl) (.tmp rfl) (by unfold saR; rw [if_pos h0])
 refine At.nrm ?_
 refine At.zi (.q 0 (.n false 1 (.q 2 .done))) ?_
 first | refine AtT.zu zx ?_ | refine AtT.zC zx ?_ | refine AtT.zt zx ?_
 refine AtT.zq rfl rfl ok20 (qJ t _ _ hu) ?_
 rintro _ rfl
 refine AtT.qC ?_
 refine AtT.done ?_
 refine At.nrm ?_
 refine At.zX rfl (fun h1 => ?_) (fun h1 => ?_)
 ·refine At.nrm ?_
  refine At.zi (.q 0 (.n false 1 (.q 2 (.q 3 .done)))) ?_
  first | refine AtT.zu zx ?_ | refine AtT.zC zx ?_ | refine AtT.zt zx ?_
  refine AtT.zq rfl rfl ok20 (qJ t _ _ hu) ?_
  rintro _ rfl
  refine AtT.zh ?_
  refine AtT.zh ?_
  refine AtT.done ?_
  refine At.nrm ?_
  exact At.jb rfl (.tmp rfl) (.tmp rfl) (by unfold saR; rw [if_neg h0, if_pos h1])
 have hr := rct_ok (jl (Classical.not_not.1 h0))
 have hres : saR s t = saF s t 4 0 := by unfold saR; rw [if_neg h0, if_neg h1]
 rw [hres]
 refine At.nrm ?_
 refine At.zi (.q 0 .done) ?_
 refine AtT.zh ?_
 refine AtT.done ?_
 refine At.nrm ?_
 refine At.lp (ι := Nat) (KS := fun k => [(2, .pointer (some ⟨b2, 0, none⟩)), (3, .pointer (some ⟨b3, 0, none⟩)), (6, iv k)]) (OS := fun _ => [.blk b2 (LC [.slice a s.rows.length c, iv s.most] 24), .blk b3 (LC [.slice a1 t.rows.length c1, iv t.most] 24)])
  (VS := fun k V' => Le V V' ∧ k ≤ 4 ∧ saF s t (4 - k) k = saF s t 4 0) (μ := fun k => 4 - k) 0 ?_ ?_ ?_ ?_
 ·exact ⟨rfl, rfl, rfl, trivial⟩
 ·exact Pt.zI
 ·exact ⟨Le.refl _, by decide, rfl⟩
 rintro k V' ks' O' ⟨hVV, hk4, hsa⟩ hk hO hl2
 subst hk hO
 rw [← hsa]
 have hv2 := hv.le hVV
 have hu2 := hu.le hVV
 refine At.nrm ?_
 refine At.zi (.q 0 (.q 1 .done)) ?_
 refine AtT.zf ?_
 refine AtT.zY ?_
 refine AtT.done ?_
 refine At.nrm ?_
 refine At.zX rfl (fun hp => ?_) (fun hp => ?_)
 rotate_left
 ·obtain rfl : k = 4 := by omega
  refine At.nrm ?_
  refine At.zi (.q 0 (.q 1 .done)) ?_
  refine AtT.zh ?_
  refine AtT.zh ?_
  refine AtT.done ?_
  refine At.nrm ?_
  exact At.jb rfl (.tmp rfl) (.tmp rfl) rfl
 have hst : saF s t (4 - k) k = if eqK s t k then ((k : Int), 0) else saF s t (4 - (k + 1)) (k + 1) := by
  rw [show 4 - k = (4 - (k + 1)) + 1 by omega]; rfl
 refine At.nrm ?_
 refine At.jo (ι := Unit) (fun _ => [(2, .pointer (some ⟨b2, 0, none⟩)), (3, .pointer (some ⟨b3, 0, none⟩)), (6, iv k), (25, .bool (decide (eqK s t k)))]) (fun _ => [.blk b2 (LC [.slice a s.rows.length c, iv s.most] 24), .blk b3 (LC [.slice a1 t.rows.length c1, iv t.most] 24)]) (fun _ V'' => Le V' V'') ?_ ?_
 ·refine At.draw (.q 0 (.q 1 (.q 3 (.n false 2 (.n false 4 .done))))) ffm (by kernel_rfl) ?_
  first | refine AtT.zu zx ?_ | refine AtT.zC zx ?_ | refine AtT.zt zx ?_
  refine AtT.zf ?_
  first | refine AtT.zu zx ?_ | refine AtT.zC zx ?_ | refine AtT.zt zx ?_
  refine AtT.qg rfl rfl ok79 (turnedBy_f s hr k (by omega) _ _ hv2) ?_
  rintro v23 V23 hV23 hv23
  refine AtT.zq rfl rfl ok42 (requal_f (tnN s k) t _ _ _ hv23 (hu2.le hV23)) ?_
  rintro _ rfl
  refine AtT.done ?_
  refine At.nrm ?_
  all_goals (exact At.qf () (by first | assumption | exact Le.trans (by assumption) (by assumption)) ⟨rfl, rfl, rfl, rfl, trivial⟩ Pt.zI)
 rintro _ V2 ks' O' hV2 hk hO hl3
 subst hk hO
 refine At.zX rfl (fun he => ?_) (fun he => ?_)
 ·rw [if_pos he] at hst
  rw [hst]
  refine At.nrm ?_
  refine At.zi (.q 0 (.q 1 (.q 2 .done))) ?_
  refine AtT.zf ?_
  refine AtT.zh ?_
  refine AtT.zh ?_
  refine AtT.done ?_
  refine At.nrm ?_
  exact At.jb rfl (.tmp rfl) (.tmp rfl) rfl
 ·rw [if_neg he] at hst
  refine At.nrm ?_
  refine At.zi (.q 0 (.q 1 (.q 2 .done))) ?_
  refine AtT.zf ?_
  first | refine AtT.qh ?_ | refine AtT.zT ?_
  refine AtT.zh ?_
  refine AtT.done ?_
  refine At.nrm ?_
  refine At.round (k + 1) ?_ ?_ ?_ ?_
  ·show 4 - (k + 1) < 4 - k; omega
  ·exact ⟨hVV.trans hV2, by omega, by rw [← hst, hsa]⟩
  ·exact ⟨rfl, rfl, ivs (by omega), trivial⟩
  ·exact Pt.zI
theorem same_f (s t : Sh) (V : View) (v u : Value) (hv : ShV V v s) (hu : ShV V u t) : Fnc Tryz.prog 40 [v, u] V fun r _ => r = .tuple #[iv (saR s t).1, iv (saR s t).2] := by
 obtain ⟨a, c, rfl, hs⟩ := id hv
 obtain ⟨a1, c1, rfl, ht⟩ := id hu
 refine qc Tryz.func40 rfl Tryz.ntmps40 (Nat.le_of_ble_eq_true rfl) ?_
 intro w0 hw0
 refine At.nrm ?_
 refine At.zi (.n false 0 (.n false 1 (.q 2 (.q 3 .done)))) ?_
 refine AtT.qV ?_
 intro b2
 refine AtT.qV ?_
 intro b3
 refine AtT.zh ?_
 refine AtT.zh ?_
 refine AtT.done ?_
 refine At.nrm ?_
 refine At.zi (.q 0 (.n false 1 (.q 2 .done))) ?_
 first | refine AtT.zu zx ?_ | refine AtT.zC zx ?_ | refine AtT.zt zx ?_
 refine AtT.zq rfl rfl ok19 (sheetP_f s _ _ hv) ?_
 rintro _ rfl
 refine AtT.zh ?_
 refine AtT.done ?_
 refine At.nrm ?_
 refine At.nrm ?_
 refine At.zi (.q 0 (.q 1 .done)) ?_
 refine AtT.zf ?_
 refine AtT.qC ?_
 refine AtT.done ?_
 refine At.nrm ?_
 refine At.zX rfl (fun h0 => ?_) (fun h0 => ?_)
 ·refine At.nrm ?_
  refine At.zi (.q 0 (.q 1 (.q 2 .done))) ?_
  refine AtT.zf ?_
  refine AtT.zh ?_
  refine AtT.zh ?_
  refine AtT.done ?_
  refine At.nrm ?_
  exact At.jb rfl (.tmp rfl) (.tmp rfl) (by unfold saR; rw [if_pos h0])
 refine At.nrm ?_
 refine At.zi (.q 0 (.n false 1 (.q 2 .done))) ?_
 first | refine AtT.zu zx ?_ | refine AtT.zC zx ?_ | refine AtT.zt zx ?_
 refine AtT.zq rfl rfl ok19 (sheetP_f t _ _ hu) ?_
 rintro _ rfl
 refine AtT.zh ?_
 refine AtT.done ?_
 refine At.nrm ?_
 refine At.nrm ?_
 refine At.zi (.q 0 (.q 1 .done)) ?_
 refine AtT.zf ?_
 refine AtT.qC ?_
 refine AtT.done ?_
 refine At.nrm ?_
 refine At.zX rfl (fun h1 => ?_) (fun h1 => ?_)
 ·refine At.nrm ?_
  refine At.zi (.q 0 (.q 1 (.q 2 .done))) ?_
  refine AtT.zf ?_
  refine AtT.zh ?_
  refine AtT.zh ?_
  refine AtT.done ?_
  refine At.nrm ?_
  exact At.jb rfl (.tmp rfl) (.tmp rfl) (by unfold saR; rw [if_neg h0, if_pos h1])
 have hr := rct_ok (jl (Classical.not_not.1 h0))
 have hres : saR s t = saF s t 4 0 := by unfold saR; rw [if_neg h0, if_neg h1]
 rw [hres]
 refine At.nrm ?_
 refine At.zi (.q 0 .done) ?_
 refine AtT.zf ?_
 refine AtT.done ?_
 refine At.nrm ?_
 refine At.lp (ι := Nat × Option Addr × Nat) (KS := fun g => [(2, .pointer (some ⟨b2, 0, none⟩)), (3, .pointer (some ⟨b3, 0, none⟩)), (19, iv g.1)]) (OS := fun g => [.blk b2 (LC [.slice g.2.1 (tnN s g.1).rows.length g.2.2, iv (tnN s g.1).most] 24), .blk b3 (LC [.slice a1 t.rows.length c1, iv t.most] 24)])
  (VS := fun g V' => Le V V' ∧ g.1 ≤ 4 ∧ Sl V' bse 1 (.slice g.2.1 (tnN s g.1).rows.length g.2.2) (tnN s g.1).rows ∧ saF s t (4 - g.1) g.1 = saF s t 4 0) (μ := fun g => 4 - g.1) (0, a, c) ?_ ?_ ?_ ?_
 ·exact ⟨rfl, rfl, rfl, trivial⟩
 ·exact Pt.zI
 ·exact ⟨Le.refl _, Nat.zero_le _, hs, rfl⟩
 rintro ⟨k, a6, c6⟩ V' ks' O' ⟨hVV, hk4, hs6, hsa⟩ hk hO hl2
 dsimp only at hk4 hs6 hsa hk hO
 subst hk hO
 rw [← hsa]
 have ht2 := ht.le hVV
 have hrk := rct_tnN hr k
 refine At.nrm ?_
 refine At.zi (.q 0 .done) ?_
 refine AtT.zY ?_
 refine AtT.done ?_
 refine At.nrm ?_
 refine At.zX rfl (fun hp => ?_) (fun hp => ?_)
 rotate_left
 ·obtain rfl : k = 4 := by omega
  refine At.nrm ?_
  refine At.zi (.q 0 (.q 1 .done)) ?_
  refine AtT.zh ?_
  refine AtT.zh ?_
  refine AtT.done ?_
  refine At.nrm ?_
  exact At.jb rfl (.tmp rfl) (.tmp rfl) rfl
 have hst : saF s t (4 - k) k = if eqK s t k then ((k : Int), 0) else saF s t (4 - (k + 1)) (k + 1) := by
  rw [show 4 - k = (4 - (k + 1)) + 1 by omega]; rfl
 refine At.nrm ?_
 refine At.zi (.q 0 (.q 1 .done)) ?_
 refine AtT.zf ?_
 refine AtT.zh ?_
 refine AtT.done ?_
 refine At.nrm ?_
 refine At.nrm ?_
 refine At.jo (ι := Unit) (fun _ => [(2, .pointer (some ⟨b2, 0, none⟩)), (3, .pointer (some ⟨b3, 0, none⟩)), (19, iv k), (8, iv k), (33, .bool (decide (eqK s t k)))]) (fun _ => [.blk b2 (LC [.slice a6 (tnN s k).rows.length c6, iv (tnN s k).most] 24), .blk b3 (LC [.slice a1 t.rows.length c1, iv t.most] 24)]) (fun _ V'' => V' = V'') ?_ ?_
 ·by_cases hm : (tnN s k).most = t.most
  ·have e : decide (eqK s t k) = decide ((tnN s k).rows = t.rows) := by unfold eqK; simp [hm]
   rw [e]
   refine At.zi (.q 0 (.q 1 (.q 2 (.q 3 (.q 4 (.q 5 (.q 6 (.q 7 (.q 8 (.q 9 (.n false 10 (.q 11 .done)))))))))))) ?_
   first | refine AtT.zk zR ?_ | with_reducible refine AtT.zl zR ?_ | refine AtT.zn zR ?_
   first | refine AtT.zm tk3 ?_ | refine AtT.zo tk3 ?_
   first | refine AtT.zk zR ?_ | with_reducible refine AtT.zl zR ?_ | refine AtT.zn zR ?_
   first | refine AtT.zm tk3 ?_ | refine AtT.zo tk3 ?_
   refine AtT.qK ?_
   refine AtT.qp (d := 26) rfl (hm) ?_
   refine AtT.zf ?_
   all_goals (first | refine AtT.kL 27 ?_ | refine AtT.zA (d := 27) rfl (fun hg27 => ?_) (fun hg27 => ?_) | refine AtT.zz (d := 27) rfl (fun hg27 => ?_) (fun hg27 => ?_))
   all_goals first|refine AtT.zg ?_|refine AtT.ze ?_|(first | refine AtT.zk zw ?_ | with_reducible refine AtT.zl zw ?_ | refine AtT.zn zw ?_)
   all_goals first|refine AtT.zg ?_|refine AtT.ze ?_|(first | refine AtT.zm qa ?_ | refine AtT.zo qa ?_)
   all_goals first|refine AtT.zg ?_|refine AtT.ze ?_|(first | refine AtT.zk zw ?_ | with_reducible refine AtT.zl zw ?_ | refine AtT.zn zw ?_)
   all_goals first|refine AtT.zg ?_|refine AtT.ze ?_|(first | refine AtT.zm qa ?_ | refine AtT.zo qa ?_)
   all_goals (first | refine AtT.zP ?_ | refine AtT.zJ ?_ | ((refine AtT.zq rfl rfl ok80 (equalS_f (tnN s k).rows t.rows _ _ _ hs6 ht2) ?_) ; (rintro _ rfl)))
   all_goals (refine AtT.zy ?_)
   all_goals refine AtT.done ?_
   all_goals (refine At.nrm ?_)
   all_goals (exact At.qf () rfl ⟨rfl, rfl, rfl, rfl, rfl, trivial⟩ Pt.zI)
  ·rw [show decide (eqK s t k) = false from decide_eq_false (fun e => hm e.1)]
   refine At.zi (.q 0 (.q 1 (.q 2 (.q 3 (.q 4 (.q 5 (.q 6 (.q 7 (.q 8 (.q 9 (.n false 10 (.q 11 .done)))))))))))) ?_
   first | refine AtT.zk zR ?_ | with_reducible refine AtT.zl zR ?_ | refine AtT.zn zR ?_
   first | refine AtT.zm tk3 ?_ | refine AtT.zo tk3 ?_
   first | refine AtT.zk zR ?_ | with_reducible refine AtT.zl zR ?_ | refine AtT.zn zR ?_
   first | refine AtT.zm tk3 ?_ | refine AtT.zo tk3 ?_
   refine AtT.qK ?_
   refine AtT.qj (d := 26) rfl (hm) ?_
   refine AtT.zf ?_
   all_goals (first | refine AtT.kL 27 ?_ | refine AtT.zA (d := 27) rfl (fun hg27 => ?_) (fun hg27 => ?_) | refine AtT.zz (d := 27) rfl (fun hg27 => ?_) (fun hg27 => ?_))
   all_goals first|refine AtT.zg ?_|refine AtT.ze ?_|(first | refine AtT.zk zw ?_ | with_reducible refine AtT.zl zw ?_ | refine AtT.zn zw ?_)
   all_goals first|refine AtT.zg ?_|refine AtT.ze ?_|(first | refine AtT.zm qa ?_ | refine AtT.zo qa ?_)
   all_goals first|refine AtT.zg ?_|refine AtT.ze ?_|(first | refine AtT.zk zw ?_ | with_reducible refine AtT.zl zw ?_ | refine AtT.zn zw ?_)
   all_goals first|refine AtT.zg ?_|refine AtT.ze ?_|(first | refine AtT.zm qa ?_ | refine AtT.zo qa ?_)
   all_goals (first | refine AtT.zP ?_ | refine AtT.zJ ?_ | ((fail)))
   all_goals (refine AtT.zy ?_)
   all_goals refine AtT.done ?_
   all_goals (refine At.nrm ?_)
   all_goals (exact At.qf () rfl ⟨rfl, rfl, rfl, rfl, rfl, trivial⟩ Pt.zI)
 rintro _ _ ks' O' rfl hk hO hl3
 subst hk hO
 refine At.zX rfl (fun he => ?_) (fun he => ?_)
 ·rw [if_pos he] at hst
  rw [hst]
  refine At.nrm ?_
  refine At.zi (.q 0 (.q 1 (.q 2 .done))) ?_
  refine AtT.zf ?_
  refine AtT.zh ?_
  refine AtT.zh ?_
  refine AtT.done ?_
  refine At.nrm ?_
  exact At.jb rfl (.tmp rfl) (.tmp rfl) rfl
 ·rw [if_neg he] at hst
  refine At.nrm ?_
  refine At.zi (.q 0 (.n false 1 (.n true 2 .done))) ?_
  first | refine AtT.zu zx ?_ | refine AtT.zC zx ?_ | refine AtT.zt zx ?_
  refine AtT.qg rfl rfl ok78 (turned_f (tnN s k) hrk.n hrk.w.2 hrk.sz _ _ ⟨a6, c6, rfl, hs6⟩) ?_
  rintro _ V36 hV36 ⟨a7, c7, rfl, hs7⟩
  refine AtT.zW zx ?_
  refine AtT.done ?_
  refine At.nrm ?_
  refine At.nrm ?_
  refine At.zi (.q 0 (.q 1 .done)) ?_
  first | refine AtT.qh ?_ | refine AtT.zT ?_
  refine AtT.zf ?_
  refine AtT.done ?_
  refine At.nrm ?_
  refine At.round (k + 1, a7, c7) ?_ ?_ ?_ ?_
  ·show 4 - (k + 1) < 4 - k; omega
  ·exact ⟨hVV.trans (by first | assumption | exact Le.trans (by assumption) (by assumption)), by dsimp only; omega, hs7, by dsimp only; rw [← hst, hsa]⟩
  ·exact ⟨rfl, rfl, ivs (by dsimp only; omega), trivial⟩
  ·exact Pt.zI
end Go.Proofs.YtghomjjffllkeaaGreatDoor
set_option linter.unusedVariables false
namespace Go.Proofs.YtghomjjffllkeaaGreatDoor
open Go.Lw Go.Gl Go.Pm Go.RowKit Go.Shelf
theorem sheet_f (m : Int) (a : Option Addr) (l : List ByteArray) (c : Nat) (V : View) (hs : Sl V bse 1 (.slice a l.length c) l) : Fnc Tryz.prog 81 [iv m, .slice a l.length c] V fun r V' => ShV V' r ⟨l, m⟩ := by
 refine qc Tryz.func81 rfl Tryz.ntmps81 (Nat.le_of_ble_eq_true rfl) ?_
 intro w0 hw0
 refine At.nrm ?_
 refine At.zi (.n false 0 .done) ?_
 refine AtT.qw z24 ?_
 intro b4
 refine AtT.done ?_
 refine At.nrm ?_
 refine At.zi (.q 0 (.q 1 (.q 2 (.n true 3 .done)))) ?_
 refine AtT.zf ?_
 refine AtT.zf ?_
 refine AtT.qU (bd24_0_1 _ _ _ _) ?_
 refine AtT.zW zx ?_
 refine AtT.done ?_
 refine At.nrm ?_
 exact At.qd rfl (.agg rfl zx zZ.zI rfl) ⟨a, c, rfl, hs⟩
def rF1 : ByteArray := ⟨#[111, 46, 46, 111]⟩
def rF2 : ByteArray := ⟨#[46, 35, 46, 46]⟩
def zN (m : Int) : Sh := ⟨[rF1, rF2, rF1], m⟩
theorem four_f (m : Int) (V : View) : Fnc Tryz.prog 52 [iv m] V fun r V' => ShV V' r (zN m) := by
 refine qc Tryz.func52 rfl Tryz.ntmps52 (Nat.le_of_ble_eq_true rfl) ?_
 intro w0 hw0
 refine At.nrm ?_
 refine At.zi (.n false 0 .done) ?_
 refine AtT.qw z24 ?_
 intro b2
 refine AtT.done ?_
 refine At.nrm ?_
 refine At.zi (.q 0 (.n false 1 (.n false 2 (.n true 3 .done)))) ?_
 refine AtT.zf ?_
 refine AtT.zB (bs22_3_0_1_2 _ _ _) ?_
 intro q4 V4 hV4 hq4
 have g4 : Le V V4 := by first | exact hV4 | exact Le.trans (by assumption) hV4
 refine AtT.qg rfl rfl ok81 (sheet_f m _ [rF1, rF2, rF1] 3 _ (Sl.of_cells (l := [rF1, rF2, rF1]) bse_len hq4 (Nat.le_refl _) (by unfold maxLen; decide))) ?_
 rintro _ V5 hV5 ⟨a5, c5, rfl, hs5⟩
 refine AtT.zW zx ?_
 refine AtT.done ?_
 refine At.nrm ?_
 exact At.qd rfl (.agg rfl zx zZ.zI rfl) ⟨a5, c5, rfl, hs5⟩
def rT1 : ByteArray := ⟨#[111, 46, 111]⟩
def rT2 : ByteArray := ⟨#[46, 35, 46]⟩
def rT3 : ByteArray := ⟨#[46, 46, 46]⟩
def qR : Sh := ⟨[rT1, rT2, rT3, rT1], 4⟩
theorem turned54_f (V : View) : Fnc Tryz.prog 54 [] V fun r V' => ShV V' r qR := by
 refine qc Tryz.func54 rfl Tryz.ntmps54 (Nat.le_of_ble_eq_true rfl) ?_
 intro w0 hw0
 refine At.nrm ?_
 refine At.zi (.n false 0 .done) ?_
 refine AtT.qw z24 ?_
 intro b0
 refine AtT.done ?_
 refine At.nrm ?_
 refine At.zi (.n false 0 (.n false 1 (.n true 2 .done))) ?_
 refine AtT.zB (bs22_4_0_1_2_3 _ _ _ _) ?_
 intro q1 V1 hV1 hq1
 have g1 : Le V V1 := by first | exact hV1 | exact Le.trans (by assumption) hV1
 refine AtT.qg rfl rfl ok81 (sheet_f 4 _ [rT1, rT2, rT3, rT1] 4 _ (Sl.of_cells (l := [rT1, rT2, rT3, rT1]) bse_len hq1 (Nat.le_refl _) (by unfold maxLen; decide))) ?_
 rintro _ V2 hV2 ⟨a5, c5, rfl, hs5⟩
 refine AtT.zW zx ?_
 refine AtT.done ?_
 refine At.nrm ?_
 exact At.qd rfl (.agg rfl zx zZ.zI rfl) ⟨a5, c5, rfl, hs5⟩
end Go.Proofs.YtghomjjffllkeaaGreatDoor
set_option linter.unusedVariables false
set_option maxRecDepth 20000
namespace Go.Pm
open Go.Gl Go.Lw
def okT (g : Gd) (K : List Cl) (b i q : Nat) : Bool := decide (q &&& b = q) && q.testBit i && decide (peE g (bbx (sel K q)) = 0)
def wT (W : List (Nat × Int)) (r : Nat) : Nat × Int := W.getD r (0, 0)
def geT (g : Gd) (K : List Cl) (W : List (Nat × Int)) (b q : Nat) : Bool := decide ((wT W b).1 < (wT W (qF b q)).1 + 1 ∨ (wT W b).1 = (wT W (qF b q)).1 + 1 ∧ (wT W b).2 ≤ (wT W (qF b q)).2 + arP (bbx (sel K q)))
def eqT (g : Gd) (K : List Cl) (W : List (Nat × Int)) (b q : Nat) : Bool := decide ((wT W b).1 = (wT W (qF b q)).1 + 1 ∧ (wT W b).2 = (wT W (qF b q)).2 + arP (bbx (sel K q)))
def lwT (b : Nat) : Nat := (List.range b).findIdx fun i => b.testBit i
def ckT (g : Gd) (K : List Cl) (W : List (Nat × Int)) (b : Nat) : Bool :=
 if b = 0 then decide (wT W 0 = (0, 0)) else b.testBit (lwT b) && ((List.range (b + 1)).all fun q => !okT g K b (lwT b) q || geT g K W b q) && ((List.range (b + 1)).any fun q => okT g K b (lwT b) q && eqT g K W b q)
theorem and_eq_sub {q b : Nat} (h : q &&& b = q) : SubB q b := fun i hi => by
 rw [← h, Nat.testBit_and, Bool.and_eq_true] at hi; exact hi.2
theorem sub_and {q b : Nat} (h : SubB q b) : q &&& b = q := Nat.eq_of_testBit_eq fun i => by
 rw [Nat.testBit_and]
 cases c : q.testBit i with
 | false => rfl
 | true => rw [h i c]; rfl
theorem best_tab {g : Gd} (hg : GOk g) {K : List Cl} (hon : ∀ k ∈ K, OnG g k) (hK : K.length ≤ 10) {W : List (Nat × Int)} (h : ((List.range (2 ^ K.length)).all (ckT g K W)) = true) (b : Nat) (hb : b < 2 ^ K.length) : jA g (sel K b) (wT W b).1 (wT W b).2 := by
 induction b using Nat.strongRecOn with
 | ind b ih =>
  have hc := List.all_eq_true.1 h b (List.mem_range.2 hb)
  unfold ckT at hc
  by_cases h0 : b = 0
  ·rw [if_pos h0, decide_eq_true_eq] at hc
   subst h0
   rw [hc]
   have e : sel K 0 = [] := by
    cases e : sel K 0 with
    | nil => rfl
    | cons x l =>
     obtain ⟨i, _, hi⟩ := jd.1 (show x ∈ sel K 0 by rw [e]; exact List.mem_cons_self)
     rw [Nat.zero_testBit] at hi; cases hi
   rw [e]; exact best_nil
  ·rw [if_neg h0, Bool.and_eq_true, Bool.and_eq_true] at hc
   obtain ⟨⟨c1, c2⟩, c3⟩ := hc
   have hto : ∀ q, okT g K b (lwT b) q = true ↔ Cand g K b (lwT b) q := fun q => by
    unfold okT
    rw [Bool.and_eq_true, Bool.and_eq_true, decide_eq_true_eq, decide_eq_true_eq, jB]
    exact ⟨fun ⟨⟨a, d⟩, e⟩ => ⟨and_eq_sub a, d, e⟩, fun ⟨a, d, e⟩ => ⟨⟨sub_and a, d⟩, e⟩⟩
   refine best_bits hg hon hK hb c1 (W := wT W) (fun r hr => ih r hr (by omega)) ?_ fun q hq => ?_
   ·obtain ⟨q, hq, hd⟩ := List.any_eq_true.1 c3
    rw [Bool.and_eq_true] at hd
    have := of_decide_eq_true hd.2
    exact ⟨q, (hto q).1 hd.1, this⟩
   ·have := List.all_eq_true.1 c2 q (List.mem_range.2 (by have := sub_le hq.sub; omega))
    rw [Bool.or_eq_true, Bool.not_eq_true', (hto q).2 hq] at this
    rcases this with h | h
    ·cases h
    ·exact of_decide_eq_true h
theorem isPart_of {N : Nat} {S : Nat → Nat → Bool} {i : Nat} {l : List Int} (hs : l.Pairwise (· < ·)) (h0 : (i : Int) ∈ l) (hr : ∀ x ∈ l, ∃ k : Nat, x = (k : Int) ∧ Rch N S i k) (hc : ∀ x ∈ l, ∀ k, k < N → S x.toNat k = true → (k : Int) ∈ l) : IsPart N S i l := by
 refine ⟨hs, fun x => ⟨hr x, ?_⟩⟩
 rintro ⟨k, rfl, h⟩
 induction h with
 | refl => exact h0
 | step h1 hk hS ih => exact hc _ ih _ hk (by rw [Int.toNat_natCast]; exact hS)
end Go.Pm
namespace Go.Proofs.YtghomjjffllkeaaGreatDoor
open Go.Gl Go.Lw Go.Pm
theorem w0 : chE (zN 4) = 0 := by decide +kernel
theorem w1 : ckR (zN 4) ⟨0, 0, 1, 4⟩ = 0 := by decide +kernel
theorem w2 : ckR (zN 4) ⟨0, 0, 2, 2⟩ = 20 := by decide +kernel
theorem w3 : ckR (zN 4) ⟨0, 1, 1, 4⟩ = 3 := by decide +kernel
theorem w4 : ckR (zN 4) ⟨0, 2, 3, 2⟩ = 4 := by decide +kernel
theorem w5 : cpR (zN 4) [⟨0, 0, 1, 4⟩, ⟨2, 0, 1, 4⟩] = (8, 0) := by decide +kernel
theorem w6 : cpR (zN 4) [⟨0, 0, 1, 4⟩] = (0, 14) := by decide +kernel
def tabW : List (Nat × Int) := [(0, 0), (1, 1), (1, 1), (1, 4), (1, 1), (1, 3), (2, 2), (2, 4), (1, 1), (2, 2), (1, 3), (2, 4), (1, 4), (2, 4), (2, 4), (2, 6)]
theorem wTab : ((List.range (2 ^ (knL (zN 4)).length)).all (ckT (gdS (zN 4)) (knL (zN 4)) tabW)) = true := by decide +kernel
theorem wB : jA (gdS (zN 4)) (knL (zN 4)) 2 6 := by
 have ho := jl w0
 have := best_tab (sh_gok ho) (kn_on ho) ho.kn wTab 15 (by decide +kernel)
 refine best_mem this fun k => ?_
 rw [show sel (knL (zN 4)) 15 = knL (zN 4) by decide +kernel]
theorem wA : aloL (zN 4) = [0, 3] := by decide +kernel
theorem wC1 : cAe (zN 4) [1, 2] = 0 := by decide +kernel
theorem wC2 : cAe (zN 4) [0, 1] = 16 := by decide +kernel
theorem wC3 : cAe (zN 4) [3, 0] = 3 := by decide +kernel
theorem w30 : chE (zN 3) = 0 := by decide +kernel
theorem wL : laR (zN 36) = (⟨0, 2, 3, 2⟩, 0) := by decide +kernel
theorem wT1 : (tuR (zN 4) 1).2 = 0 := by decide +kernel
theorem wT1e : (tuR (zN 4) 1).1.most = qR.most ∧ (tuR (zN 4) 1).1.rows = qR.rows := by decide +kernel
theorem wT4 : (tuR (zN 4) 4).2 = 2 := by decide +kernel
theorem wS1 : saR (zN 4) qR = (1, 0) := by decide +kernel
theorem wS2 : saR (zN 4) (zN 3) = (0, 15) := by decide +kernel
theorem rch1 {N : Nat} {S : Nat → Nat → Bool} {i k : Nat} (hk : k < N) (h : S i k = true) : Rch N S i k := .step .refl hk h
def clD (N : Nat) (S : Nat → Nat → Bool) (l : List Int) : Bool := l.all fun x => (List.range N).all fun k => !S x.toNat k || l.contains (k : Int)
theorem clD_h {N : Nat} {S : Nat → Nat → Bool} {l : List Int} (h : clD N S l = true) : ∀ x ∈ l, ∀ k, k < N → S x.toNat k = true → (k : Int) ∈ l := fun x hx k hk hs => by
 have := List.all_eq_true.1 (List.all_eq_true.1 h x hx) k (List.mem_range.2 hk)
 rw [hs] at this
 simpa using this
theorem wP : PrtK (knL (zN 3)).length (shN (gdS (zN 3)) (knL (zN 3))) (knL (zN 3)).length [[0, 2], [1, 3]] := by
 have e : (knL (zN 3)).length = 4 := by decide +kernel
 rw [e]
 have p0 : IsPart 4 (shN (gdS (zN 3)) (knL (zN 3))) 0 [0, 2] := isPart_of (by decide) (by decide) (fun x hx => by
  simp only [List.mem_cons, List.not_mem_nil, or_false] at hx
  rcases hx with rfl | rfl
  ·exact ⟨0, rfl, .refl⟩
  ·exact ⟨2, rfl, rch1 (by decide) (by decide +kernel)⟩) (clD_h (by decide +kernel))
 have p1 : IsPart 4 (shN (gdS (zN 3)) (knL (zN 3))) 1 [1, 3] := isPart_of (by decide) (by decide) (fun x hx => by
  simp only [List.mem_cons, List.not_mem_nil, or_false] at hx
  rcases hx with rfl | rfl
  ·exact ⟨1, rfl, .refl⟩
  ·exact ⟨3, rfl, rch1 (by decide) (by decide +kernel)⟩) (clD_h (by decide +kernel))
 exact .skip (.skip (.add (.add .zero (by decide) p0) (by decide) p1) (by decide)) (by decide)
end Go.Proofs.YtghomjjffllkeaaGreatDoor
set_option linter.unusedVariables false
namespace Go.Pm
open Go.Gl Go.Lw
def flP : List Pc → List Int
 | [] => []
 | p :: ps => p.t :: p.l :: p.h :: p.w :: flP ps
theorem flP_len : ∀ ps : List Pc, (flP ps).length = 4 * ps.length
 | [] => rfl
 | p :: ps => by simp only [flP, List.length_cons, flP_len ps]; omega
theorem flP_at : ∀ {ps : List Pc} {k : Nat} {p : Pc}, ps[k]? = some p → (flP ps)[4 * k]? = some p.t ∧ (flP ps)[4 * k + 1]? = some p.l ∧ (flP ps)[4 * k + 2]? = some p.h ∧ (flP ps)[4 * k + 3]? = some p.w
 | [], k, p, h => by simp at h
 | q :: ps, 0, p, h => by simp at h; subst h; exact ⟨rfl, rfl, rfl, rfl⟩
 | q :: ps, k + 1, p, h => by
  obtain ⟨a, b, c, d⟩ := flP_at (ps := ps) (k := k) (by simpa using h)
  rw [show 4 * (k + 1) = 4 * k + 1 + 1 + 1 + 1 by omega]
  simp only [flP, List.getElem?_cons_succ]
  exact ⟨a, b, c, d⟩
end Go.Pm
namespace Go.Proofs.YtghomjjffllkeaaGreatDoor
open Go.Lw Go.Gl Go.Pm Go.RowKit Go.Shelf
theorem qN (ps : List Pc) (h100 : ps.length ≤ 100) (V : View) (v : Value) (hv : SlI V v (flP ps)) : Fnc Tryz.prog 53 [v] V fun r V' => Sl V' pce 4 r ps := by
 have hln := flP_len ps
 obtain ⟨a, c, rfl, q1, q2, _⟩ := id hv
 clear q1 q2
 refine qc Tryz.func53 rfl Tryz.ntmps53 (Nat.le_of_ble_eq_true rfl) ?_
 intro w0 hw0
 refine At.nrm ?_
 refine At.zi (.q 0 .done) ?_
 refine AtT.zh ?_
 refine AtT.done ?_
 refine At.nrm ?_
 refine At.zi (.q 0 .done) ?_
 refine AtT.zh ?_
 refine AtT.done ?_
 refine At.nrm ?_
 refine At.newRow 26 4 ?_
 refine At.zi (.q 0 .done) ?_
 refine AtT.zh ?_
 refine AtT.done ?_
 refine At.nrm ?_
 refine At.lp (ι := Nat × Option Addr × Nat) (KS := fun g => [(0, .slice a (flP ps).length c), (3, .slice g.2.1 (ps.take g.1).length g.2.2), (4, iv ((4 * g.1 : Nat) : Int))])
  (OS := fun g => [.row (.slice g.2.1 (ps.take g.1).length g.2.2) 26 4 (ps.take g.1).length (flat pce (ps.take g.1))])
  (VS := fun g V' => Le V V' ∧ g.1 ≤ ps.length) (μ := fun g => ps.length - g.1) (0, none, 0) ?_ ?_ ?_ ?_
 ·exact ⟨rfl, rfl, rfl, trivial⟩
 ·exact Pt.zI
 ·exact ⟨Le.refl _, Nat.zero_le _⟩
 rintro ⟨k, ao, co⟩ V' ks' O' ⟨hVV, hkl⟩ hk hO hl2
 dsimp only at hkl hk hO
 subst hk hO
 have hs' := hv.le hVV
 refine At.nrm ?_
 refine At.zi (.q 0 (.q 1 (.q 2 (.q 3 (.q 4 .done))))) ?_
 refine AtT.zf ?_
 first | refine AtT.qh ?_ | refine AtT.zT ?_
 refine AtT.zf ?_
 first | refine AtT.zU Tryz.underlying39 ?_ | refine AtT.zV Tryz.underlying39 ?_
 refine AtT.zY ?_
 refine AtT.done ?_
 refine At.nrm ?_
 refine At.zX rfl (fun hp => ?_) (fun hp => ?_)
 rotate_left
 ·obtain rfl : k = ps.length := by omega
  refine At.nrm ?_
  refine At.sub (ks' := [(3, .slice ao ps.length co)]) ⟨by rw [List.take_length]; rfl, trivial⟩ ?_
  rw [List.take_length]
  refine At.giveSl (l := ps) pce_len rfl rfl zZ.zI (fun V6 hV6 hs6 => ?_)
  refine At.zi (.q 0 (.q 1 .done)) ?_
  refine AtT.zf ?_
  refine AtT.zh ?_
  refine AtT.done ?_
  refine At.nrm ?_
  exact At.qd rfl (.tmp rfl) hs6
 obtain ⟨p, hpk⟩ : ∃ p, ps[k]? = some p := ⟨_, List.getElem?_eq_getElem (by omega)⟩
 obtain ⟨e1, e2, e3, e4⟩ := flP_at hpk
 have htl : (ps.take k).length ≤ 100 := by rw [List.length_take]; omega
 have hsn : ps.take (k + 1) = ps.take k ++ [p] := by rw [List.take_add_one, hpk]; rfl
 refine At.nrm ?_
 refine At.draw (.q 0 (.q 1 (.q 2 (.q 3 (.q 4 (.q 5 (.q 6 (.q 7 (.q 8 (.q 9 (.q 10 (.q 11 (.q 12 (.q 13 (.q 14 (.q 15 (.q 16 (.q 17 (.q 18 (.q 19 (.q 20 (.n false 21 (.n true 22 (.q 23 .done)))))))))))))))))))))))) ffm (by kernel_rfl) ?_
 refine AtT.zf ?_
 refine AtT.zf ?_
 refine AtT.zf ?_
 refine AtT.qi Tryz.underlying39 tk3 ?_
 intro p15 e15 he15 hc15
 first | refine AtT.zm tk3 ?_ | refine AtT.zo tk3 ?_
 obtain rfl : p.t = e15 := by have : (flP ps)[4 * k]? = some e15 := (by rw [show 4 * k = (((4 * k : Nat) : Int)).toNat by omega]; exact he15); rw [e1] at this; simpa using this
 refine AtT.zf ?_
 refine AtT.zf ?_
 first | refine AtT.qh ?_ | refine AtT.zT ?_
 refine AtT.qi Tryz.underlying39 tk3 ?_
 intro p20 e20 he20 hc20
 first | refine AtT.zm tk3 ?_ | refine AtT.zo tk3 ?_
 obtain rfl : p.l = e20 := by have : (flP ps)[4 * k + 1]? = some e20 := (by rw [show 4 * k + 1 = (((4 * k : Nat) : Int) + 1).toNat by omega]; exact he20); rw [e2] at this; simpa using this
 refine AtT.zf ?_
 refine AtT.zf ?_
 first | refine AtT.qh ?_ | refine AtT.zT ?_
 refine AtT.qi Tryz.underlying39 tk3 ?_
 intro p25 e25 he25 hc25
 first | refine AtT.zm tk3 ?_ | refine AtT.zo tk3 ?_
 obtain rfl : p.h = e25 := by have : (flP ps)[4 * k + 2]? = some e25 := (by rw [show 4 * k + 2 = (((4 * k : Nat) : Int) + 2).toNat by omega]; exact he25); rw [e3] at this; simpa using this
 refine AtT.zf ?_
 refine AtT.zf ?_
 first | refine AtT.qh ?_ | refine AtT.zT ?_
 refine AtT.qi Tryz.underlying39 tk3 ?_
 intro p30 e30 he30 hc30
 first | refine AtT.zm tk3 ?_ | refine AtT.zo tk3 ?_
 obtain rfl : p.w = e30 := by have : (flP ps)[4 * k + 3]? = some e30 := (by rw [show 4 * k + 3 = (((4 * k : Nat) : Int) + 3).toNat by omega]; exact he30); rw [e4] at this; simpa using this
 refine AtT.qU (jL _ _ _ _) ?_
 refine AtT.zB (bs27_1_0 _ _ _ _) ?_
 intro q33 V33 hV33 hq33
 have g33 : Le V V33 := by first | exact hV33 | exact Le.trans (by assumption) hV33
 first | refine AtT.jC Tryz.underlying27 rw26 ?_
 intro a34 c34
 refine AtT.zh ?_
 refine AtT.done ?_
 refine At.nrm ?_
 refine At.nrm ?_
 refine At.zi (.q 0 (.q 1 (.q 2 .done))) ?_
 refine AtT.zf ?_
 first | refine AtT.qh ?_ | refine AtT.zT ?_
 refine AtT.zh ?_
 refine AtT.done ?_
 refine At.nrm ?_
 all_goals refine At.round (k + 1, a34, c34) ?_ ?_ ?_ ?_
 ·show ps.length - (k + 1) < ps.length - k; omega
 ·exact ⟨hVV.trans (by first | assumption | exact Le.refl _), by dsimp only; omega⟩
 ·dsimp only; rw [hsn, List.length_append]; exact ⟨rfl, rfl, ivs (by omega), trivial⟩
 ·dsimp only; rw [hsn, jm, List.length_append]; exact Pt.zI
end Go.Proofs.YtghomjjffllkeaaGreatDoor
